import PyProof.Rows.All
import Wide.All
import OpenK.AllK
import Wide.FinOn
import HandS.ForMost
import HandS.IterVal
import HandS.Evl
import HandS.Flt
import HandS.Strs
import HandS.SortInts
import HandS.IsInst
import HandS.Wide
import HandS.MakeKw
import HandS.MakeKwOnly
import HandS.ClsMeth
import HandS.Exc
import PySem.Challenge.RW_throughline_k55_whole_channels_over_any
set_option Elab.async false
set_option linter.all false
set_option maxRecDepth 100000
set_option maxHeartbeats 8000000
/-! Frames and their octets. -/
namespace Thl

inductive Fr where
  | opn (c : Int)
  | oct (c : Int) (d : List Int)
  | per (c : Int) (m : Int)
  | fin (c : Int)
  | rst (c : Int) (k : Int)

def Fr.chan : Fr → Int
  | .opn c => c
  | .oct c _ => c
  | .per c _ => c
  | .fin c => c
  | .rst c _ => c

def two (n : Int) : List Int := [n / 256, n % 256]
def enc : Fr → List Int
  | .opn c => 1 :: two c
  | .oct c d => 2 :: (two c ++ (two (d.length : Int) ++ d))
  | .per c m => 3 :: (two c ++ two m)
  | .fin c => 4 :: two c
  | .rst c k => 5 :: (two c ++ two k)

def B16 (n : Int) : Prop := 0 ≤ n ∧ n ≤ 65535
/-- the frame's numbers fit in two octets -/
def VF : Fr → Prop
  | .opn c => B16 c
  | .oct c d => B16 c ∧ B16 (d.length : Int)
  | .per c m => B16 c ∧ B16 m
  | .fin c => B16 c
  | .rst c k => B16 c ∧ B16 k

/-- the first frame of octets and its size -/
def parse : List Int → Option (Fr × Nat)
  | w :: x :: y :: t =>
    if w = 1 then some (.opn (x * 256 + y), 3)
    else if w = 4 then some (.fin (x * 256 + y), 3)
    else match t with
      | u :: v :: t' =>
        if w = 3 then some (.per (x * 256 + y) (u * 256 + v), 5)
        else if w = 5 then some (.rst (x * 256 + y) (u * 256 + v), 5)
        else if (t'.length : Int) < u * 256 + v then none
        else some (.oct (x * 256 + y) (t'.take (u * 256 + v).toNat), 5 + (u * 256 + v).toNat)
      | _ => none
  | _ => none

theorem two_back {n : Int} (h : B16 n) : n / 256 * 256 + n % 256 = n := by
  obtain ⟨h1, h2⟩ := h
  omega

theorem enc_ne (f : Fr) : enc f ≠ [] := by
  cases f <;> simp [enc]

theorem enc_len (f : Fr) : (enc f).length = match f with
    | .opn _ => 3
    | .fin _ => 3
    | .per _ _ => 5
    | .rst _ _ => 5
    | .oct _ d => 5 + d.length := by
  cases f <;> simp [enc, two] <;> omega

theorem parse_enc {f : Fr} (h : VF f) (t : List Int) : parse (enc f ++ t) = some (f, (enc f).length) := by
  cases f with
  | opn c =>
    have e := two_back h
    simp [enc, two, parse, e]
  | fin c =>
    have e := two_back h
    simp [enc, two, parse, e]
  | per c m =>
    have e := two_back h.1
    have e2 := two_back h.2
    simp [enc, two, parse, e, e2]
  | rst c k =>
    have e := two_back h.1
    have e2 := two_back h.2
    simp [enc, two, parse, e, e2]
  | oct c d =>
    have e := two_back h.1
    have e2 := two_back h.2
    have e3 : ¬ ((d ++ t).length : Int) < (d.length : Int) := by
      rw [List.length_append]
      omega
    have e4 : ((d.length : Int)).toNat = d.length := by omega
    simp only [enc, two, parse, List.cons_append, List.nil_append, e, e2, e3, e4, List.append_assoc]
    simp
    omega

/-- the head of a beginning of a frame is a kind -/
theorem head_pre {f : Fr} {p r t : List Int} {w : Int} (h : enc f = p ++ r) (hp : p = w :: t) : 1 ≤ w ∧ w ≤ 5 := by
  subst hp
  cases f <;> simp only [enc, List.cons_append, List.cons.injEq] at h <;> omega

theorem parse_pre {f : Fr} (h : VF f) {p r : List Int} (hr : r ≠ []) (e : enc f = p ++ r) : parse p = none := by
  have hl : p.length < (enc f).length := by
    have : r.length ≠ 0 := by simpa using hr
    rw [e, List.length_append]
    omega
  match p, e, hl with
  | [], _, _ => rfl
  | [_], _, _ => rfl
  | [_, _], _, _ => rfl
  | w :: x :: y :: t, e, hl =>
    cases f with
    | opn c => simp [enc, two] at hl; omega
    | fin c => simp [enc, two] at hl; omega
    | per c m =>
      simp only [enc, two, List.cons_append, List.nil_append, List.cons.injEq] at e
      obtain ⟨rfl, rfl, rfl, e⟩ := e
      simp [enc, two] at hl
      match t, hl with
      | [], _ => simp [parse]
      | [_], _ => simp [parse]
      | _ :: _ :: _, hl => simp at hl; omega
    | rst c k =>
      simp only [enc, two, List.cons_append, List.nil_append, List.cons.injEq] at e
      obtain ⟨rfl, rfl, rfl, e⟩ := e
      simp [enc, two] at hl
      match t, hl with
      | [], _ => simp [parse]
      | [_], _ => simp [parse]
      | _ :: _ :: _, hl => simp at hl; omega
    | oct c d =>
      simp only [enc, two, List.cons_append, List.nil_append, List.cons.injEq] at e
      obtain ⟨rfl, rfl, rfl, e⟩ := e
      match t, e, hl with
      | [], _, _ => simp [parse]
      | [_], _, _ => simp [parse]
      | u :: v :: t', e, hl =>
        simp only [List.cons_append, List.cons.injEq] at e
        obtain ⟨rfl, rfl, e⟩ := e
        have e2 := two_back h.2
        have hl' : (t'.length : Int) < (d.length : Int) := by
          simp [enc, two] at hl
          omega
        simp only [parse, e2]
        simp [hl']

def encs (l : List Fr) : List Int := l.flatMap enc
theorem encs_nil : encs [] = [] := rfl
theorem encs_cons (f : Fr) (l : List Fr) : encs (f :: l) = enc f ++ encs l := by simp [encs]
theorem encs_append (a b : List Fr) : encs (a ++ b) = encs a ++ encs b := by simp [encs]
theorem encs_one (f : Fr) : encs [f] = enc f := by simp [encs]

/-- octets that begin the octets of frames: whole frames, then a part of the next one -/
theorem split_pre : ∀ (l : List Fr) (os tl : List Int), os ++ tl = encs l → ∃ (a b : List Fr) (rest : List Int), l = a ++ b ∧ os = encs a ++ rest ∧ rest ++ tl = encs b ∧
    (b = [] → rest = []) ∧ ∀ g c, b = g :: c → ∃ r, r ≠ [] ∧ enc g = rest ++ r := by
  intro l
  induction l with
  | nil =>
    intro os tl h
    have h' : os = [] ∧ tl = [] := by simpa [encs] using h
    exact ⟨[], [], [], rfl, by simp [encs, h'.1], by simp [encs, h'.2], fun _ => rfl, fun g c e => nomatch e⟩
  | cons f l ih =>
    intro os tl h
    rw [encs_cons] at h
    by_cases hl : (enc f).length ≤ os.length
    · have e1 : os.take (enc f).length = enc f := by
        have := congrArg (List.take (enc f).length) h
        rw [List.take_append_of_le_length hl, List.take_append_of_le_length (Nat.le_refl _), List.take_length] at this
        exact this
      have e2 : os.drop (enc f).length ++ tl = encs l := by
        have := congrArg (List.drop (enc f).length) h
        rw [List.drop_append_of_le_length hl, List.drop_append_of_le_length (Nat.le_refl _), List.drop_length, List.nil_append] at this
        exact this
      obtain ⟨a, b, rest, h1, h2, h3, h4, h5⟩ := ih _ _ e2
      refine ⟨f :: a, b, rest, by rw [h1]; rfl, ?_, h3, h4, h5⟩
      have e4 : os = os.take (enc f).length ++ os.drop (enc f).length := (List.take_append_drop _ _).symm
      rw [e1] at e4
      rw [encs_cons, List.append_assoc, ← h2]
      exact e4
    · refine ⟨[], f :: l, os, rfl, by simp [encs], by rw [encs_cons]; exact h, fun e => (nomatch e), fun g c e => ?_⟩
      injection e with e1 e2
      subst e1
      refine ⟨(enc f).drop os.length, ?_, ?_⟩
      · intro z
        have := congrArg List.length z
        simp at this
        omega
      · have e3 : (enc f).take os.length = os := by
          have := congrArg (List.take os.length) h
          rw [List.take_append_of_le_length (Nat.le_refl _), List.take_length, List.take_append_of_le_length (by omega)] at this
          exact this.symm
        calc enc f = (enc f).take os.length ++ (enc f).drop os.length := (List.take_append_drop _ _).symm
          _ = os ++ (enc f).drop os.length := by rw [e3]
end Thl

/-! A channel, and what holds between its two ends. -/
namespace Thl

structure Ch where
  ann : Bool
  queue : List Int
  credit : Int
  fin : Bool
  endS : Bool
  ready : List Int
  due : Int
  endC : Bool
  rst : Option (Bool × Int)
  told : Bool

def Ch.new (a : Bool) : Ch := ⟨a, [], 0, false, false, [], 0, false, none, false⟩

def owes (w : Int) (c : Ch) : Int := if c.rst.isSome = true ∨ c.endC = true then 0 else w - c.due - c.ready.length
def has (c : Ch) : Bool := if c.rst.isSome = true then false else if c.queue = [] then c.fin && !c.endS else decide (0 < c.credit)
def cnt (most : Int) (c : Ch) : Int := min (min most c.credit) c.queue.length
def sendF (most : Int) (n : Int) (c : Ch) : Fr := if c.queue = [] then .fin n else .oct n (c.queue.take (cnt most c).toNat)
def sendC (most : Int) (c : Ch) : Ch := if c.queue = [] then { c with endS := true } else { c with queue := c.queue.drop (cnt most c).toNat, credit := c.credit - cnt most c }
def dropAll (c : Ch) (here : Bool) (k : Int) : Ch := { c with rst := some (here, k), queue := [], ready := [] }
def takeF (c : Ch) (f : Fr) : Ch := if c.rst.isSome = true then c else match f with
  | .oct _ d => { c with ready := c.ready ++ d, due := c.due - d.length }
  | .per _ m => { c with credit := c.credit + m }
  | .fin _ => { c with endC := true }
  | .rst _ k => dropAll c false k
  | .opn _ => c
/-- nothing is wrong with the frame for the channel -/
def GoodC (c : Ch) (f : Fr) : Prop := (∃ k, c.rst = some (true, k)) ∨ (c.rst = none ∧ match f with
  | .oct _ d => d ≠ [] ∧ c.endC = false ∧ (d.length : Int) ≤ c.due
  | .per _ m => m ≠ 0
  | .fin _ => c.endC = false
  | .rst _ _ => True
  | .opn _ => False)

/-! ### the frames of one channel that are under way -/
def octs : List Fr → List Int
  | [] => []
  | .oct _ d :: l => d ++ octs l
  | _ :: l => octs l
def pers : List Fr → Nat
  | [] => 0
  | .per _ m :: l => m.toNat + pers l
  | _ :: l => pers l
theorem octs_append : ∀ (a b : List Fr), octs (a ++ b) = octs a ++ octs b
  | [], b => rfl
  | f :: a, b => by cases f <;> simp [octs, octs_append a b]
theorem pers_append : ∀ (a b : List Fr), pers (a ++ b) = pers a + pers b
  | [], b => by simp [pers]
  | f :: a, b => by cases f <;> simp [pers, pers_append a b]; omega
/-- e: the end has come ahead of them -/
def Good : Bool → List Fr → Prop
  | _, [] => True
  | e, .oct _ d :: l => e = false ∧ d ≠ [] ∧ Good e l
  | e, .per _ m :: l => 0 < m ∧ Good e l
  | e, .fin _ :: l => e = false ∧ Good true l
  | _, .rst _ _ :: l => l = []
  | _, .opn _ :: _ => False
def NoR (l : List Fr) : Prop := ∀ c k, ¬ Fr.rst c k ∈ l
def HasE (l : List Fr) : Prop := ∃ c, Fr.fin c ∈ l
theorem NoR.tail {f : Fr} {l : List Fr} (h : NoR (f :: l)) : NoR l := fun c k m => h c k (List.mem_cons_of_mem _ m)
theorem good_oct : ∀ {e : Bool} {l : List Fr} (c : Int) {d : List Int}, Good e l → NoR l → e = false → ¬ HasE l → d ≠ [] → Good e (l ++ [.oct c d])
  | e, [], c, d, _, _, h, _, hd => ⟨h, hd, trivial⟩
  | e, .oct _ x :: l, c, d, ⟨h1, h2, h3⟩, n, h, he, hd => ⟨h1, h2, good_oct c h3 n.tail h (fun ⟨x, m⟩ => he ⟨x, List.mem_cons_of_mem _ m⟩) hd⟩
  | e, .per _ m :: l, c, d, ⟨h1, h3⟩, n, h, he, hd => ⟨h1, good_oct c h3 n.tail h (fun ⟨x, m⟩ => he ⟨x, List.mem_cons_of_mem _ m⟩) hd⟩
  | e, .fin x :: l, c, d, ⟨h1, h3⟩, n, h, he, hd => (he ⟨x, List.mem_cons_self⟩).elim
  | e, .rst x y :: l, c, d, h1, n, h, he, hd => (n x y List.mem_cons_self).elim
theorem good_fin : ∀ {e : Bool} {l : List Fr} (c : Int), Good e l → NoR l → e = false → ¬ HasE l → Good e (l ++ [.fin c])
  | e, [], c, _, _, h, _ => ⟨h, trivial⟩
  | e, .oct _ x :: l, c, ⟨h1, h2, h3⟩, n, h, he => ⟨h1, h2, good_fin c h3 n.tail h (fun ⟨x, m⟩ => he ⟨x, List.mem_cons_of_mem _ m⟩)⟩
  | e, .per _ m :: l, c, ⟨h1, h3⟩, n, h, he => ⟨h1, good_fin c h3 n.tail h (fun ⟨x, m⟩ => he ⟨x, List.mem_cons_of_mem _ m⟩)⟩
  | e, .fin x :: l, c, ⟨h1, h3⟩, n, h, he => (he ⟨x, List.mem_cons_self⟩).elim
  | e, .rst x y :: l, c, h1, n, h, he => (n x y List.mem_cons_self).elim
theorem good_per : ∀ {e : Bool} {l : List Fr} (c : Int) {m : Int}, Good e l → NoR l → 0 < m → Good e (l ++ [.per c m])
  | e, [], c, m, _, _, h => ⟨h, trivial⟩
  | e, .oct _ x :: l, c, m, ⟨h1, h2, h3⟩, n, h => ⟨h1, h2, good_per c h3 n.tail h⟩
  | e, .per _ _ :: l, c, m, ⟨h1, h3⟩, n, h => ⟨h1, good_per c h3 n.tail h⟩
  | e, .fin x :: l, c, m, ⟨h1, h3⟩, n, h => ⟨h1, good_per c h3 n.tail h⟩
  | e, .rst x y :: l, c, m, h1, n, h => (n x y List.mem_cons_self).elim
theorem good_rst : ∀ {e : Bool} {l : List Fr} (c k : Int), Good e l → NoR l → Good e (l ++ [.rst c k])
  | e, [], c, k, _, _ => rfl
  | e, .oct _ x :: l, c, m, ⟨h1, h2, h3⟩, n => ⟨h1, h2, good_rst c m h3 n.tail⟩
  | e, .per _ _ :: l, c, m, ⟨h1, h3⟩, n => ⟨h1, good_rst c m h3 n.tail⟩
  | e, .fin x :: l, c, m, ⟨h1, h3⟩, n => ⟨h1, good_rst c m h3 n.tail⟩
  | e, .rst x y :: l, c, m, h1, n => (n x y List.mem_cons_self).elim
theorem good_true : ∀ {l : List Fr}, Good true l → octs l = []
  | [], _ => rfl
  | .oct _ x :: l, ⟨h1, _⟩ => nomatch h1
  | .per _ m :: l, ⟨_, h⟩ => good_true (l := l) h
  | .fin x :: l, ⟨h1, _⟩ => nomatch h1
  | .rst x y :: l, h => by
    have h' : l = [] := h
    subst h'
    rfl
/-- behind an end no octets come -/
theorem good_weak : ∀ {e : Bool} {l : List Fr}, Good true l → (∀ c, ¬ Fr.fin c ∈ l) → Good e l
  | e, [], _, _ => trivial
  | e, .oct _ x :: l, ⟨h1, _⟩, _ => nomatch h1
  | e, .per _ m :: l, ⟨h0, h⟩, n => ⟨h0, good_weak h fun c z => n c (List.mem_cons_of_mem _ z)⟩
  | e, .fin x :: l, ⟨h1, _⟩, _ => nomatch h1
  | e, .rst x y :: l, h, _ => h

/-- what holds of one channel by itself; w: the side's window -/
structure LInv (w : Int) (c : Ch) : Prop where
  c0 : 0 ≤ c.credit
  d0 : 0 ≤ c.due
  dw : c.due + c.ready.length ≤ w
  qw : (c.queue.length : Int) ≤ w
  qr : c.rst ≠ none → c.queue = [] ∧ c.ready = []
  told : c.told = true → ∃ k, c.rst = some (true, k)
  code : ∀ b k, c.rst = some (b, k) → 0 ≤ k ∧ k ≤ 65535
  endS : c.endS = true → c.fin = true ∧ c.queue = []

/-- one direction of a channel: s sends, r receives, L under way from s to r, G from r to s, wn written at s, gn read at r -/
structure PInv (s r : Ch) (L G : List Fr) (wn gn : List Int) : Prop where
  good : Good r.endC L
  noth : ∀ k, r.rst = some (false, k) → L = [] ∧ s.rst = some (true, k) ∧ s.told = true
  rstL : ∀ c k, Fr.rst c k ∈ L → s.rst = some (true, k) ∧ s.told = true
  finL : r.endC = true ∨ HasE L → s.endS = true
  crd : s.credit + (pers G : Int) + ((octs L).length : Int) ≤ r.due
  crdE : s.rst = none → r.rst = none → s.credit + (pers G : Int) + ((octs L).length : Int) = r.due
  dat : ∃ x, wn = gn ++ r.ready ++ x ∧ (r.rst = none → ∃ y, x = octs L ++ y ∧ (s.rst = none ∨ s.endS = true → y = s.queue))
  toldL : s.told = true → (∃ c k, Fr.rst c k ∈ L) ∨ r.rst ≠ none
  endL : s.endS = true → r.endC = true ∨ HasE L ∨ r.rst ≠ none

theorem PInv.new (a b : Bool) : PInv (Ch.new a) (Ch.new b) [] [] [] [] where
  good := trivial
  noth := fun k h => by simp [Ch.new] at h
  rstL := fun c k h => by simp at h
  finL := fun h => by
    rcases h with h | ⟨c, h⟩
    · simp [Ch.new] at h
    · simp at h
  crd := by simp [Ch.new, pers, octs]
  crdE := fun _ _ => by simp [Ch.new, pers, octs]
  dat := ⟨[], by simp [Ch.new], fun _ => ⟨[], by simp [octs], fun _ => rfl⟩⟩
  toldL := fun h => by simp [Ch.new] at h
  endL := fun h => by simp [Ch.new] at h

variable {s r s' r' : Ch} {L G G' : List Fr} {wn gn : List Int} {w : Int}

/-- the receiving role asks of r these four alone, of G the permits alone -/
theorem PInv.r_congr (h : PInv s r L G wn gn) (e1 : r'.endC = r.endC) (e2 : r'.rst = r.rst) (e3 : r'.due = r.due) (e4 : r'.ready = r.ready) (e5 : pers G' = pers G) : PInv s r' L G' wn gn where
  good := by rw [e1]; exact h.good
  noth := by rw [e2]; exact h.noth
  rstL := h.rstL
  finL := by rw [e1]; exact h.finL
  crd := by rw [e5, e3]; exact h.crd
  crdE := by rw [e5, e3, e2]; exact h.crdE
  dat := by rw [e4, e2]; exact h.dat
  toldL := by rw [e2]; exact h.toldL
  endL := by rw [e1, e2]; exact h.endL
/-- the sending role asks of s these alone -/
theorem PInv.s_congr (h : PInv s r L G wn gn) (e1 : s'.queue = s.queue) (e2 : s'.rst = s.rst) (e3 : s'.told = s.told) (e4 : s'.endS = s.endS) (e5 : s'.credit = s.credit) : PInv s' r L G wn gn where
  good := h.good
  noth := by rw [e2, e3]; exact h.noth
  rstL := by rw [e2, e3]; exact h.rstL
  finL := by rw [e4]; exact h.finL
  crd := by rw [e5]; exact h.crd
  crdE := by rw [e5, e2]; exact h.crdE
  dat := by rw [e1, e2, e4]; exact h.dat
  toldL := by rw [e3]; exact h.toldL
  endL := by rw [e4]; exact h.endL

/-! ### what may be sent: nothing is reset yet -/
theorem PInv.free (h : PInv s r L G wn gn) (hs : s.told = false) : NoR L ∧ ∀ k, r.rst ≠ some (false, k) := by
  refine ⟨fun c k m => ?_, fun k e => ?_⟩
  · have := (h.rstL c k m).2
    rw [hs] at this
    cases this
  · have := (h.noth k e).2.2
    rw [hs] at this
    cases this

theorem cnt_pos {most : Int} {c : Ch} (h1 : 1 ≤ most) (h2 : 0 < c.credit) (h3 : c.queue ≠ []) : 1 ≤ cnt most c ∧ cnt most c ≤ most ∧ cnt most c ≤ c.credit ∧ cnt most c ≤ c.queue.length := by
  have : c.queue.length ≠ 0 := by simpa using h3
  unfold cnt
  omega

/-- "octets" goes -/
theorem PInv.send_oct (h : PInv s r L G wn gn) (hl : LInv w s) {most : Int} (n : Int) (h1 : 1 ≤ most) (hr : s.rst = none) (hq : s.queue ≠ []) (hc : 0 < s.credit) :
    PInv (sendC most s) r (L ++ [sendF most n s]) G wn gn := by
  obtain ⟨k1, k2, k3, k4⟩ := cnt_pos h1 hc hq
  have ht : s.told = false := by
    cases e : s.told with
    | false => rfl
    | true =>
      obtain ⟨k, z⟩ := hl.told e
      rw [hr] at z
      cases z
  have hE : s.endS = false := by
    cases e : s.endS with
    | false => rfl
    | true => exact absurd (hl.endS e).2 hq
  obtain ⟨nr, nt⟩ := h.free ht
  have nE : ¬ HasE L := fun z => by
    have := h.finL (.inr z)
    rw [hE] at this
    cases this
  have nC : r.endC = false := by
    cases e : r.endC with
    | false => rfl
    | true =>
      have := h.finL (.inl e)
      rw [hE] at this
      cases this
  have eF : sendF most n s = .oct n (s.queue.take (cnt most s).toNat) := by simp [sendF, hq]
  have eC : sendC most s = { s with queue := s.queue.drop (cnt most s).toNat, credit := s.credit - cnt most s } := by simp [sendC, hq]
  have hd : s.queue.take (cnt most s).toNat ≠ [] := by
    intro z
    have z2 : (s.queue.take (cnt most s).toNat).length = 0 := by rw [z]; rfl
    rw [List.length_take] at z2
    omega
  have el : ((octs (L ++ [Fr.oct n (s.queue.take (cnt most s).toNat)])).length : Int) = (octs L).length + cnt most s := by
    rw [octs_append]
    simp [octs]
    omega
  rw [eF, eC]
  refine ⟨good_oct n h.good nr nC nE hd, fun k e => absurd e (nt k), fun c k m => ?_, fun z => ?_, ?_, fun e1 e2 => ?_, ?_, fun z => ?_, fun z => ?_⟩
  · rcases List.mem_append.mp m with m | m
    · exact h.rstL c k m
    · simp at m
  · rcases z with z | ⟨c, z⟩
    · exact h.finL (.inl z)
    · rcases List.mem_append.mp z with z | z
      · exact h.finL (.inr ⟨c, z⟩)
      · simp at z
  · have := h.crd
    rw [el]
    show s.credit - cnt most s + _ + _ ≤ _
    omega
  · have := h.crdE hr e2
    rw [el]
    show s.credit - cnt most s + _ + _ = _
    omega
  · obtain ⟨x, e1, e2⟩ := h.dat
    refine ⟨x, e1, fun e3 => ?_⟩
    obtain ⟨y, e4, e5⟩ := e2 e3
    have e6 := e5 (.inl hr)
    refine ⟨s.queue.drop (cnt most s).toNat, ?_, fun _ => rfl⟩
    rw [octs_append, e4, e6]
    simp [octs]
  · have z : s.told = true := z
    rw [ht] at z
    cases z
  · have z : s.endS = true := z
    rw [hE] at z
    cases z
/-- "end" goes -/
theorem PInv.send_fin (h : PInv s r L G wn gn) (hl : LInv w s) {most : Int} (n : Int) (hr : s.rst = none) (hq : s.queue = []) (hE : s.endS = false) :
    PInv (sendC most s) r (L ++ [sendF most n s]) G wn gn := by
  have ht : s.told = false := by
    cases e : s.told with
    | false => rfl
    | true =>
      obtain ⟨k, z⟩ := hl.told e
      rw [hr] at z
      cases z
  obtain ⟨nr, nt⟩ := h.free ht
  have nE : ¬ HasE L := fun z => by
    have := h.finL (.inr z)
    rw [hE] at this
    cases this
  have nC : r.endC = false := by
    cases e : r.endC with
    | false => rfl
    | true =>
      have := h.finL (.inl e)
      rw [hE] at this
      cases this
  have eF : sendF most n s = .fin n := by simp [sendF, hq]
  have eC : sendC most s = { s with endS := true } := by simp [sendC, hq]
  have eo : octs (L ++ [Fr.fin n]) = octs L := by simp [octs_append, octs]
  rw [eF, eC]
  refine ⟨good_fin n h.good nr nC nE, fun k e => absurd e (nt k), fun c k m => ?_, fun z => rfl, ?_, fun e1 e2 => ?_, ?_, fun z => ?_, fun z => .inr (.inl ⟨n, List.mem_append.mpr (.inr (List.mem_singleton.mpr rfl))⟩)⟩
  · rcases List.mem_append.mp m with m | m
    · exact h.rstL c k m
    · simp at m
  · rw [eo]; exact h.crd
  · rw [eo]; exact h.crdE hr e2
  · rw [eo]
    obtain ⟨x, e1, e2⟩ := h.dat
    refine ⟨x, e1, fun e3 => ?_⟩
    obtain ⟨y, e4, e5⟩ := e2 e3
    exact ⟨y, e4, fun _ => e5 (.inl hr)⟩
  · have z : s.told = true := z
    rw [ht] at z
    cases z
/-- "reset" goes -/
theorem PInv.send_rst (h : PInv s r L G wn gn) (n k : Int) (hr : s.rst = some (true, k)) (ht : s.told = false) : PInv { s with told := true } r (L ++ [.rst n k]) G wn gn := by
  obtain ⟨nr, nt⟩ := h.free ht
  have eo : octs (L ++ [Fr.rst n k]) = octs L := by simp [octs_append, octs]
  refine ⟨good_rst n k h.good nr, fun k e => absurd e (nt k), fun c k' m => ?_, fun z => ?_, ?_, fun e1 e2 => ?_, ?_, fun _ => .inl ⟨n, k, by simp⟩, fun z => ?_⟩
  · rcases List.mem_append.mp m with m | m
    · exact absurd m (nr c k')
    · simp at m
      exact ⟨by rw [m.2]; exact hr, rfl⟩
  · rcases z with z | ⟨c, z⟩
    · exact h.finL (.inl z)
    · rcases List.mem_append.mp z with z | z
      · exact h.finL (.inr ⟨c, z⟩)
      · simp at z
  · rw [eo]; exact h.crd
  · rw [eo]; exact h.crdE e1 e2
  · rw [eo]; exact h.dat
  · rcases h.endL z with z | ⟨c, z⟩ | z
    · exact .inl z
    · exact .inr (.inl ⟨c, List.mem_append.mpr (.inl z)⟩)
    · exact .inr (.inr z)
/-- "permit" goes from s: as it is for s's own octets -/
theorem PInv.send_per (h : PInv s r L G wn gn) (hl : LInv w s) (n m d : Int) (hr : s.rst = none) (hm : 0 < m) : PInv { s with due := d } r (L ++ [.per n m]) G wn gn := by
  have ht : s.told = false := by
    cases e : s.told with
    | false => rfl
    | true =>
      obtain ⟨k, z⟩ := hl.told e
      rw [hr] at z
      cases z
  obtain ⟨nr, nt⟩ := h.free ht
  have eo : octs (L ++ [Fr.per n m]) = octs L := by simp [octs_append, octs]
  refine ⟨good_per n h.good nr hm, fun k e => absurd e (nt k), fun c k m => ?_, fun z => ?_, ?_, fun e1 e2 => ?_, ?_, fun z => ?_, fun z => ?_⟩
  · rcases List.mem_append.mp m with m | m
    · exact h.rstL c k m
    · simp at m
  · rcases z with z | ⟨c, z⟩
    · exact h.finL (.inl z)
    · rcases List.mem_append.mp z with z | z
      · exact h.finL (.inr ⟨c, z⟩)
      · simp at z
  · rw [eo]; exact h.crd
  · rw [eo]; exact h.crdE e1 e2
  · rw [eo]; exact h.dat
  · rcases h.toldL z with ⟨c, k, z⟩ | z
    · exact .inl ⟨c, k, List.mem_append.mpr (.inl z)⟩
    · exact .inr z
  · rcases h.endL z with z | ⟨c, z⟩ | z
    · exact .inl z
    · exact .inr (.inl ⟨c, List.mem_append.mpr (.inl z)⟩)
    · exact .inr (.inr z)
/-- .. and for the octets that r (who permits) is sent -/
theorem PInv.got_per (h : PInv s r L G wn gn) (n m : Int) (hm : 0 < m) : PInv s { r with due := r.due + m } L (G ++ [.per n m]) wn gn := by
  have ep : (pers (G ++ [Fr.per n m]) : Int) = pers G + m := by
    rw [pers_append]
    simp [pers]
    omega
  refine ⟨h.good, h.noth, h.rstL, h.finL, ?_, fun e1 e2 => ?_, h.dat, h.toldL, h.endL⟩
  · rw [ep]
    have := h.crd
    show _ ≤ r.due + m
    omega
  · rw [ep]
    have := h.crdE e1 e2
    show _ = r.due + m
    omega

/-! ### a frame comes -/
theorem PInv.good_head {f : Fr} (h : PInv s r (f :: L) G wn gn) (hl : LInv w s) : GoodC r f := by
  cases e : r.rst with
  | some bk =>
    obtain ⟨b, k⟩ := bk
    cases b with
    | true => exact .inl ⟨k, e⟩
    | false => exact absurd (h.noth k e).1 (fun z => by cases z)
  | none =>
    refine .inr ⟨e, ?_⟩
    have g := h.good
    cases f with
    | opn c => exact g
    | oct c d =>
      obtain ⟨g1, g2, g3⟩ := g
      have := h.crd
      simp [octs] at this
      have := hl.c0
      exact ⟨g2, g1, by omega⟩
    | per c m =>
      obtain ⟨g1, g2⟩ := g
      show m ≠ 0
      omega
    | fin c => exact g.1
    | rst c k => trivial

theorem PInv.recv {f : Fr} (h : PInv s r (f :: L) G wn gn) : PInv s (takeF r f) L G wn gn := by
  have g := h.good
  have cr := h.crd
  have rl : ∀ c k, Fr.rst c k ∈ L → s.rst = some (true, k) ∧ s.told = true := fun c k m => h.rstL c k (List.mem_cons_of_mem _ m)
  cases e : r.rst with
  | some bk =>
    have et : takeF r f = r := by simp [takeF, e]
    have ne : r.rst ≠ none := by rw [e]; exact fun z => nomatch z
    rw [et]
    refine ⟨?_, fun k z => ?_, rl, fun z => ?_, ?_, fun e1 e2 => absurd e2 ne, ?_, fun z => .inr ne, fun z => .inr (.inr ne)⟩
    · cases f with
      | opn c => exact g.elim
      | oct c d => exact g.2.2
      | per c m => exact g.2
      | rst c k =>
        have g : L = [] := g
        subst g
        exact trivial
      | fin c =>
        obtain ⟨g1, g2⟩ := g
        have nofin : ∀ {l : List Fr}, Good true l → ∀ c, ¬ Fr.fin c ∈ l := by
          intro l
          induction l with
          | nil => intro _ c m; simp at m
          | cons a l ih =>
            intro ga c m
            cases a with
            | opn c => exact ga
            | oct c d => exact absurd ga.1 (by simp)
            | fin c => exact absurd ga.1 (by simp)
            | rst c k =>
              have ga : l = [] := ga
              subst ga
              simp at m
            | per c' m' =>
              rcases List.mem_cons.mp m with z | z
              · cases z
              · exact ih ga.2 c z
        exact good_weak g2 (nofin g2)
    · exact absurd (h.noth k z).1 (fun z => by cases z)
    · rcases z with z | ⟨c, z⟩
      · exact h.finL (.inl z)
      · exact h.finL (.inr ⟨c, List.mem_cons_of_mem _ z⟩)
    · have : ((octs L).length : Int) ≤ (octs (f :: L)).length := by
        cases f <;> simp [octs] <;> omega
      omega
    · obtain ⟨x, e1, _⟩ := h.dat
      exact ⟨x, e1, fun z => absurd z ne⟩
  | none =>
    cases f with
    | opn c => exact g.elim
    | oct c d =>
      have et : takeF r (.oct c d) = { r with ready := r.ready ++ d, due := r.due - d.length } := by simp [takeF, e]
      rw [et]
      refine ⟨g.2.2, fun k z => ?_, rl, fun z => ?_, ?_, fun e1 e2 => ?_, ?_, fun z => ?_, fun z => ?_⟩
      · have z : r.rst = some (false, k) := z
        rw [e] at z
        cases z
      · rcases z with z | ⟨c, z⟩
        · exact h.finL (.inl z)
        · exact h.finL (.inr ⟨c, List.mem_cons_of_mem _ z⟩)
      · simp [octs] at cr
        show _ ≤ r.due - d.length
        omega
      · have := h.crdE e1 e
        simp [octs] at this
        show _ = r.due - d.length
        omega
      · obtain ⟨x, e1, e2⟩ := h.dat
        obtain ⟨y, e3, e4⟩ := e2 e
        refine ⟨octs L ++ y, ?_, fun _ => ⟨y, rfl, e4⟩⟩
        rw [e1, e3]
        simp [octs]
      · rcases h.toldL z with ⟨c, k, z⟩ | z
        · rcases List.mem_cons.mp z with z | z
          · cases z
          · exact .inl ⟨c, k, z⟩
        · exact .inr z
      · rcases h.endL z with z | ⟨c, z⟩ | z
        · exact .inl z
        · rcases List.mem_cons.mp z with z | z
          · cases z
          · exact .inr (.inl ⟨c, z⟩)
        · exact .inr (.inr z)
    | per c m =>
      have et : takeF r (.per c m) = { r with credit := r.credit + m } := by simp [takeF, e]
      rw [et]
      refine ⟨g.2, fun k z => ?_, rl, fun z => ?_, ?_, fun e1 e2 => ?_, ?_, fun z => ?_, fun z => ?_⟩
      · have z : r.rst = some (false, k) := z
        rw [e] at z
        cases z
      · rcases z with z | ⟨c, z⟩
        · exact h.finL (.inl z)
        · exact h.finL (.inr ⟨c, List.mem_cons_of_mem _ z⟩)
      · exact h.crd
      · exact h.crdE e1 e
      · exact h.dat
      · rcases h.toldL z with ⟨c, k, z⟩ | z
        · rcases List.mem_cons.mp z with z | z
          · cases z
          · exact .inl ⟨c, k, z⟩
        · exact .inr z
      · rcases h.endL z with z | ⟨c, z⟩ | z
        · exact .inl z
        · rcases List.mem_cons.mp z with z | z
          · cases z
          · exact .inr (.inl ⟨c, z⟩)
        · exact .inr (.inr z)
    | fin c =>
      have et : takeF r (.fin c) = { r with endC := true } := by simp [takeF, e]
      rw [et]
      refine ⟨g.2, fun k z => ?_, rl, fun z => h.finL (.inr ⟨c, List.mem_cons_self⟩), ?_, fun e1 e2 => ?_, ?_, fun z => ?_, fun z => .inl rfl⟩
      · have z : r.rst = some (false, k) := z
        rw [e] at z
        cases z
      · exact h.crd
      · exact h.crdE e1 e
      · exact h.dat
      · rcases h.toldL z with ⟨c, k, z⟩ | z
        · rcases List.mem_cons.mp z with z | z
          · cases z
          · exact .inl ⟨c, k, z⟩
        · exact .inr z
    | rst c k =>
      have et : takeF r (.rst c k) = dropAll r false k := by simp [takeF, e]
      have gL : L = [] := g
      subst gL
      have ne : (dropAll r false k).rst ≠ none := by simp [dropAll]
      rw [et]
      refine ⟨trivial, fun k' z => ?_, rl, fun z => ?_, h.crd, fun e1 e2 => absurd e2 ne, ?_, fun z => .inr ne, fun z => .inr (.inr ne)⟩
      · simp [dropAll] at z
        rw [← z]
        exact ⟨rfl, h.rstL c k List.mem_cons_self⟩
      · rcases z with z | ⟨c, z⟩
        · exact h.finL (.inl z)
        · simp at z
      · obtain ⟨x, e1, _⟩ := h.dat
        exact ⟨r.ready ++ x, by rw [e1]; simp [dropAll], fun z => absurd z ne⟩

/-- the sender's end takes the head of what comes to it -/
theorem PInv.recv_s {f : Fr} (h : PInv s r L (f :: G) wn gn) (hl : LInv w s) (o : PInv r s (f :: G) L wn' gn') : PInv (takeF s f) r L G wn gn := by
  have pf : (pers G : Int) ≤ pers (f :: G) := by
    cases f <;> simp [pers] <;> omega
  cases e : s.rst with
  | some bk =>
    have et : takeF s f = s := by simp [takeF, e]
    rw [et]
    exact ⟨h.good, h.noth, h.rstL, h.finL, by have := h.crd; omega, fun e1 _ => absurd e1 (by rw [e]; exact fun z => nomatch z), h.dat, h.toldL, h.endL⟩
  | none =>
    have g := o.good
    cases f with
    | opn c => exact g.elim
    | oct c d =>
      have et : takeF s (.oct c d) = { s with ready := s.ready ++ d, due := s.due - d.length } := by simp [takeF, e]
      rw [et]
      exact (PInv.r_congr h (G' := G) rfl rfl rfl rfl rfl).s_congr rfl rfl rfl rfl rfl
    | fin c =>
      have et : takeF s (.fin c) = { s with endC := true } := by simp [takeF, e]
      rw [et]
      exact (PInv.r_congr h (G' := G) rfl rfl rfl rfl rfl).s_congr rfl rfl rfl rfl rfl
    | per c m =>
      have et : takeF s (.per c m) = { s with credit := s.credit + m } := by simp [takeF, e]
      have ep : (pers (Fr.per c m :: G) : Int) = m + pers G := by
        have := g.1
        simp [pers]
        omega
      rw [et]
      refine ⟨h.good, h.noth, h.rstL, h.finL, ?_, fun e1 e2 => ?_, h.dat, h.toldL, h.endL⟩
      · have := h.crd
        rw [ep] at this
        show s.credit + m + _ + _ ≤ _
        omega
      · have := h.crdE e1 e2
        rw [ep] at this
        show s.credit + m + _ + _ = _
        omega
    | rst c k =>
      have et : takeF s (.rst c k) = dropAll s false k := by simp [takeF, e]
      have hr := (o.rstL c k List.mem_cons_self).1
      have ne : r.rst ≠ none := by rw [hr]; exact fun z => nomatch z
      rw [et]
      refine ⟨h.good, fun k' z => ?_, fun c k m => ?_, h.finL, h.crd, fun e1 e2 => absurd e2 ne, ?_, h.toldL, h.endL⟩
      · rw [hr] at z
        cases z
      · have := (h.rstL c k m).1
        rw [e] at this
        cases this
      · obtain ⟨x, e1, _⟩ := h.dat
        exact ⟨x, e1, fun z => absurd z ne⟩

/-! ### what the applications do -/
theorem PInv.write (h : PInv s r L G wn gn) (hl : LInv w s) (o : List Int) (hr : s.rst = none) (hf : s.fin = false) : PInv { s with queue := s.queue ++ o } r L G (wn ++ o) gn := by
  have hE : s.endS = false := by
    cases e : s.endS with
    | false => rfl
    | true =>
      have := (hl.endS e).1
      rw [hf] at this
      cases this
  refine ⟨h.good, h.noth, h.rstL, h.finL, h.crd, h.crdE, ?_, h.toldL, h.endL⟩
  obtain ⟨x, e1, e2⟩ := h.dat
  refine ⟨x ++ o, by rw [e1]; simp, fun z => ?_⟩
  obtain ⟨y, e3, e4⟩ := e2 z
  exact ⟨y ++ o, by rw [e3]; simp, fun _ => by rw [e4 (.inl hr)]⟩
theorem PInv.read (h : PInv s r L G wn gn) (k : Nat) : PInv s { r with ready := r.ready.drop k } L G wn (gn ++ r.ready.take k) := by
  refine ⟨h.good, h.noth, h.rstL, h.finL, h.crd, h.crdE, ?_, h.toldL, h.endL⟩
  obtain ⟨x, e1, e2⟩ := h.dat
  refine ⟨x, ?_, e2⟩
  rw [e1]
  show _ = gn ++ r.ready.take k ++ r.ready.drop k ++ x
  simp
theorem PInv.reset_s (h : PInv s r L G wn gn) (hl : LInv w s) (k : Int) (hr : s.rst = none) : PInv (dropAll s true k) r L G wn gn := by
  have ht : s.told = false := by
    cases e : s.told with
    | false => rfl
    | true =>
      obtain ⟨k, z⟩ := hl.told e
      rw [hr] at z
      cases z
  obtain ⟨nr, nt⟩ := h.free ht
  refine ⟨h.good, fun k e => absurd e (nt k), fun c k m => absurd m (nr c k), h.finL, h.crd, fun e1 _ => ?_, ?_, h.toldL, h.endL⟩
  · simp [dropAll] at e1
  · obtain ⟨x, e1, e2⟩ := h.dat
    refine ⟨x, e1, fun z => ?_⟩
    obtain ⟨y, e3, e4⟩ := e2 z
    refine ⟨y, e3, fun q => ?_⟩
    rcases q with q | q
    · simp [dropAll] at q
    · have q : s.endS = true := q
      rw [e4 (.inr q)]
      exact (hl.endS q).2
theorem PInv.reset_r (h : PInv s r L G wn gn) (k : Int) (hr : r.rst = none) : PInv s (dropAll r true k) L G wn gn := by
  have ne : (dropAll r true k).rst ≠ none := by simp [dropAll]
  refine ⟨h.good, fun k' e => ?_, h.rstL, h.finL, h.crd, fun _ e => absurd e ne, ?_, fun _ => .inr ne, fun _ => .inr (.inr ne)⟩
  · simp [dropAll] at e
  · obtain ⟨x, e1, _⟩ := h.dat
    exact ⟨r.ready ++ x, by rw [e1]; simp [dropAll], fun z => absurd z ne⟩
end Thl

/-! A side, and what holds between two sides. -/
namespace Thl

structure Co where
  first : Bool
  win : Int
  most : Int
  ch : Int → Ch
  nums : List Int
  turns : List Int
  opened : Nat
  came : Nat

def Co.set (A : Co) (n : Int) (c : Ch) : Co := { A with ch := fun m => if m = n then c else A.ch m }
def num (f : Bool) (j : Nat) : Int := 2 * (j : Int) - (if f = true then 1 else 0)
/-- one of the first k channels that the side f (the first one, or the other) opens -/
def Own (f : Bool) (k : Nat) (n : Int) : Prop := ∃ j, 1 ≤ j ∧ j ≤ k ∧ n = num f j
def insort (n : Int) (l : List Int) : List Int := (l ++ [n]).mergeSort (fun a b => decide (a ≤ b))

/-- the code of a reset that was made here and not told -/
def untold (c : Ch) : Option Int := match c.rst with
  | some (true, k) => if c.told = true then none else some k
  | _ => none
def wants (w : Int) (c : Ch) : Bool := decide (0 < owes w c) && decide (w ≤ 2 * owes w c)

def nextFr (A : Co) : Option (Fr × Co) :=
  match A.turns.find? (fun n => !(A.ch n).ann) with
  | some n => some (.opn n, A.set n { A.ch n with ann := true })
  | none => match A.turns.find? (fun n => (untold (A.ch n)).isSome) with
    | some n => some (.rst n ((untold (A.ch n)).getD 0), A.set n { A.ch n with told := true })
    | none => match A.turns.find? (fun n => wants A.win (A.ch n)) with
      | some n => some (.per n (owes A.win (A.ch n)), A.set n { A.ch n with due := (A.ch n).due + owes A.win (A.ch n) })
      | none => match A.turns.find? (fun n => has (A.ch n)) with
        | some n => some (sendF A.most n (A.ch n), { A.set n (sendC A.most (A.ch n)) with turns := A.turns.filter (fun m => decide (m ≠ n)) ++ [n] })
        | none => none

/-- a channel comes in: the last one in the order of turns -/
def Co.add (A : Co) (n : Int) (ann : Bool) : Co := { A with ch := fun m => if m = n then Ch.new ann else A.ch m, nums := insort n A.nums, turns := A.turns ++ [n] }
def openC (A : Co) : Co := { A.add (num A.first (A.opened + 1)) false with opened := A.opened + 1 }
def recvF (B : Co) : Fr → Co
  | .opn c => { B.add c true with came := B.came + 1 }
  | .oct c d => B.set c (takeF (B.ch c) (.oct c d))
  | .per c m => B.set c (takeF (B.ch c) (.per c m))
  | .fin c => B.set c (takeF (B.ch c) (.fin c))
  | .rst c k => B.set c (takeF (B.ch c) (.rst c k))
def GoodF (B : Co) : Fr → Prop
  | .opn c => B.came ≠ 100 ∧ c = num (!B.first) (B.came + 1)
  | .oct c d => c ∈ B.turns ∧ GoodC (B.ch c) (.oct c d)
  | .per c m => c ∈ B.turns ∧ GoodC (B.ch c) (.per c m)
  | .fin c => c ∈ B.turns ∧ GoodC (B.ch c) (.fin c)
  | .rst c k => c ∈ B.turns ∧ GoodC (B.ch c) (.rst c k)

/-! ### small facts -/
theorem Co.set_same (A : Co) (n : Int) (c : Ch) : (A.set n c).ch n = c := by simp [Co.set]
theorem Co.set_ne (A : Co) {n m : Int} (c : Ch) (h : m ≠ n) : (A.set n c).ch m = A.ch m := by simp [Co.set, h]
theorem num_ne {f : Bool} {i j : Nat} (h : num f i = num f j) : i = j := by
  unfold num at h
  omega
theorem num_other {f : Bool} {i j : Nat} (h : num f i = num (!f) j) : False := by
  unfold num at h
  cases f <;> simp at h <;> omega
theorem Own.mono {f : Bool} {k l : Nat} {n : Int} (h : Own f k n) (hl : k ≤ l) : Own f l n := by
  obtain ⟨j, h1, h2, e⟩ := h
  exact ⟨j, h1, by omega, e⟩
theorem Own.bound {f : Bool} {k : Nat} {n : Int} (h : Own f k n) (hk : k ≤ 4) : 1 ≤ n ∧ n ≤ 8 := by
  obtain ⟨j, h1, h2, e⟩ := h
  unfold num at e
  split at e <;> omega
theorem Own.succ {f : Bool} {k : Nat} {n : Int} : Own f (k + 1) n ↔ Own f k n ∨ n = num f (k + 1) := by
  constructor
  · rintro ⟨j, h1, h2, e⟩
    by_cases h : j = k + 1
    · subst h
      exact .inr e
    · exact .inl ⟨j, h1, by omega, e⟩
  · rintro (h | h)
    · exact h.mono (by omega)
    · exact ⟨k + 1, by omega, Nat.le_refl _, h⟩
theorem Own.not {f : Bool} {k : Nat} : ¬ Own f k (num f (k + 1)) := by
  rintro ⟨j, h1, h2, e⟩
  have := num_ne e
  omega
theorem Own.other {f : Bool} {k j : Nat} : ¬ Own f k (num (!f) j) := by
  rintro ⟨i, h1, h2, e⟩
  exact num_other e.symm
theorem Own.other' {f : Bool} {k j : Nat} : ¬ Own (!f) k (num f j) := by
  rintro ⟨i, h1, h2, e⟩
  exact num_other e

theorem insort_perm (n : Int) (l : List Int) : (insort n l).Perm (l ++ [n]) := List.mergeSort_perm _ _
theorem insort_le (n : Int) (l : List Int) : (insort n l).Pairwise (· ≤ ·) := by
  have h := List.pairwise_mergeSort (le := fun a b : Int => decide (a ≤ b)) (by intro a b c; simp; omega) (by intro a b; simp; omega) (l ++ [n])
  exact h.imp fun h => of_decide_eq_true h
theorem pairwise_lt {l : List Int} (h : l.Pairwise (· ≤ ·)) (nd : l.Nodup) : l.Pairwise (· < ·) := by
  induction l with
  | nil => exact .nil
  | cons a l ih =>
    obtain ⟨h1, h2⟩ := List.pairwise_cons.mp h
    obtain ⟨n1, n2⟩ := List.nodup_cons.mp nd
    refine List.pairwise_cons.mpr ⟨fun b hb => ?_, ih h2 n2⟩
    have := h1 b hb
    have : a ≠ b := fun e => n1 (e ▸ hb)
    omega
/-- two rising lists of the same things are one -/
theorem sorted_same : ∀ {l m : List Int}, l.Pairwise (· ≤ ·) → m.Pairwise (· ≤ ·) → l.Perm m → l = m
  | [], m, _, _, p => by simpa using p.symm
  | a :: l, [], _, _, p => by simp at p
  | a :: l, b :: m, h1, h2, p => by
    obtain ⟨x1, x2⟩ := List.pairwise_cons.mp h1
    obtain ⟨y1, y2⟩ := List.pairwise_cons.mp h2
    have e : a = b := by
      have ha : a ∈ b :: m := p.mem_iff.mp List.mem_cons_self
      have hb : b ∈ a :: l := p.mem_iff.mpr List.mem_cons_self
      rcases List.mem_cons.mp ha with e | ha
      · exact e
      · rcases List.mem_cons.mp hb with e | hb
        · exact e.symm
        · have := y1 a ha
          have := x1 b hb
          omega
    subst e
    rw [sorted_same x2 y2 (List.Perm.cons_inv p)]
theorem sorted_mem {l m : List Int} (h1 : l.Pairwise (· < ·)) (h2 : m.Pairwise (· < ·)) (h : ∀ x, x ∈ l ↔ x ∈ m) : l = m := by
  have n1 : l.Nodup := h1.imp fun h => by omega
  have n2 : m.Nodup := h2.imp fun h => by omega
  refine sorted_same (h1.imp fun h => by omega) (h2.imp fun h => by omega) ?_
  exact (List.perm_ext_iff_of_nodup n1 n2).mpr h

/-! ### one side -/
structure SInv (A : Co) (a : Nat) : Prop where
  w1 : 1 ≤ A.win
  w12 : A.win ≤ 12
  m1 : 1 ≤ A.most
  m8 : A.most ≤ 8
  loc : ∀ n, LInv A.win (A.ch n)
  ao : a ≤ A.opened
  o4 : A.opened ≤ 4
  c4 : A.came ≤ 4
  mem : ∀ n, n ∈ A.turns ↔ Own A.first A.opened n ∨ Own (!A.first) A.came n
  nd : A.turns.Nodup
  srt : A.nums.Pairwise (· < ·)
  prm : A.nums.Perm A.turns
  ann : ∀ n, (A.ch n).ann = true ↔ Own A.first a n ∨ Own (!A.first) A.came n
  una : A.turns.filter (fun n => !(A.ch n).ann) = (List.range' (a + 1) (A.opened - a)).map (num A.first)
  unk : ∀ n, n ∉ A.turns → A.ch n = Ch.new false
  len : A.turns.length = A.opened + A.came

theorem SInv.bound {A : Co} {a : Nat} (h : SInv A a) {n : Int} (hn : n ∈ A.turns) : 1 ≤ n ∧ n ≤ 8 := by
  rcases (h.mem n).mp hn with z | z
  · exact z.bound h.o4
  · exact z.bound h.c4
theorem SInv.nm {A : Co} {a : Nat} (h : SInv A a) (n : Int) : n ∈ A.nums ↔ n ∈ A.turns := h.prm.mem_iff

theorem LInv.new {w : Int} (h : 1 ≤ w) (a : Bool) : LInv w (Ch.new a) := by
  refine ⟨by simp [Ch.new], by simp [Ch.new], by simp [Ch.new]; omega, by simp [Ch.new]; omega, fun z => ?_, fun z => ?_, fun b k z => ?_, fun z => ?_⟩ <;> simp [Ch.new] at z

/-- a channel changes but for its announcement -/
theorem SInv.chg {A : Co} {a : Nat} (h : SInv A a) {n : Int} (hn : n ∈ A.turns) {c : Ch} (ha : c.ann = (A.ch n).ann) (l : LInv A.win c) : SInv (A.set n c) a := by
  have e : ∀ m, ((A.set n c).ch m).ann = (A.ch m).ann := fun m => by
    by_cases hm : m = n
    · subst hm
      rw [Co.set_same, ha]
    · rw [Co.set_ne _ _ hm]
  refine ⟨h.w1, h.w12, h.m1, h.m8, fun m => ?_, h.ao, h.o4, h.c4, h.mem, h.nd, h.srt, h.prm, fun m => ?_, ?_, fun m hm => ?_, h.len⟩
  · by_cases hm : m = n
    · subst hm
      rw [Co.set_same]
      exact l
    · rw [Co.set_ne _ _ hm]
      exact h.loc m
  · rw [e]
    exact h.ann m
  · have : (fun n_1 => !((A.set n c).ch n_1).ann) = fun m => !(A.ch m).ann := by
      funext m
      rw [e]
    rw [this]
    exact h.una
  · have : m ≠ n := fun z => hm (z ▸ hn)
    rw [Co.set_ne _ _ this]
    exact h.unk m hm

/-- the order of turns changes, all being announced -/
theorem SInv.turn {A : Co} {a : Nat} (h : SInv A a) {n : Int} (hn : n ∈ A.turns) (hall : ∀ m ∈ A.turns, (A.ch m).ann = true) : SInv { A with turns := A.turns.filter (fun m => decide (m ≠ n)) ++ [n] } a := by
  have hp : (A.turns.filter (fun m => decide (m ≠ n)) ++ [n]).Perm A.turns := by
    have nd : (A.turns.filter (fun m => decide (m ≠ n)) ++ [n]).Nodup := by
      refine List.nodup_append.mpr ⟨h.nd.filter _, by simp, fun x hx y hy => ?_⟩
      simp at hx hy
      rw [hy]
      exact hx.2
    refine (List.perm_ext_iff_of_nodup nd h.nd).mpr fun x => ?_
    simp
    constructor
    · rintro (z | z)
      · exact z.1
      · rw [z]
        exact hn
    · intro z
      by_cases e : x = n
      · exact .inr e
      · exact .inl ⟨z, e⟩
  refine ⟨h.w1, h.w12, h.m1, h.m8, h.loc, h.ao, h.o4, h.c4, fun m => hp.mem_iff.trans (h.mem m), hp.nodup_iff.mpr h.nd, h.srt, h.prm.trans hp.symm, h.ann, ?_, fun m hm => h.unk m fun z => hm (hp.mem_iff.mpr z), hp.length_eq.trans h.len⟩
  have e1 : A.turns.filter (fun n => !(A.ch n).ann) = [] := by
    rw [List.filter_eq_nil_iff]
    intro m hm
    simp [hall m hm]
  rw [← h.una, e1, List.filter_eq_nil_iff]
  intro m hm
  simp [hall m (hp.mem_iff.mp hm)]

theorem find_spec {l : List Int} {p : Int → Bool} {n : Int} (h : l.find? p = some n) : n ∈ l ∧ p n = true := ⟨List.mem_of_find?_eq_some h, List.find?_some h⟩

theorem LInv.sendC {w most : Int} {c : Ch} (l : LInv w c) (h1 : 1 ≤ most) (h : has c = true) : LInv w (sendC most c) ∧ c.rst = none ∧ (c.queue = [] → c.endS = false ∧ c.fin = true) ∧ (c.queue ≠ [] → 0 < c.credit) := by
  unfold has at h
  split at h
  · cases h
  · rename_i hr
    have hr : c.rst = none := by
      cases e : c.rst with
      | none => rfl
      | some x => rw [e] at hr; simp at hr
    by_cases hq : c.queue = []
    · rw [if_pos hq] at h
      simp at h
      refine ⟨?_, hr, fun _ => ⟨h.2, h.1⟩, fun z => absurd hq z⟩
      have : Thl.sendC most c = { c with endS := true } := by simp [Thl.sendC, hq]
      rw [this]
      exact ⟨l.c0, l.d0, l.dw, l.qw, l.qr, l.told, l.code, fun _ => ⟨h.1, hq⟩⟩
    · rw [if_neg hq] at h
      have hc : 0 < c.credit := of_decide_eq_true h
      obtain ⟨k1, k2, k3, k4⟩ := cnt_pos h1 hc hq
      refine ⟨?_, hr, fun z => absurd z hq, fun _ => hc⟩
      have : Thl.sendC most c = { c with queue := c.queue.drop (cnt most c).toNat, credit := c.credit - cnt most c } := by simp [Thl.sendC, hq]
      rw [this]
      refine ⟨by show 0 ≤ c.credit - cnt most c; omega, l.d0, l.dw, ?_, fun z => absurd hr z, l.told, l.code, fun z => absurd (l.endS z).2 hq⟩
      have := l.qw
      show ((c.queue.drop _).length : Int) ≤ w
      rw [List.length_drop]
      omega

theorem untold_spec {c : Ch} {k : Int} (h : untold c = some k) : c.rst = some (true, k) ∧ c.told = false := by
  unfold untold at h
  split at h
  · rename_i k' e
    split at h
    · cases h
    · rename_i ht
      cases h
      refine ⟨e, ?_⟩
      simpa using ht
  · cases h

theorem wants_spec {w : Int} {c : Ch} (h : wants w c = true) : c.rst = none ∧ c.endC = false ∧ 0 < owes w c ∧ owes w c = w - c.due - c.ready.length := by
  unfold wants at h
  simp at h
  obtain ⟨h1, h2⟩ := h
  have : ¬ (c.rst.isSome = true ∨ c.endC = true) := fun z => by
    unfold owes at h1
    rw [if_pos z] at h1
    omega
  refine ⟨?_, ?_, h1, ?_⟩
  · cases e : c.rst with
    | none => rfl
    | some x => exact absurd (.inl (by rw [e]; rfl)) this
  · cases e : c.endC with
    | false => rfl
    | true => exact absurd (.inr e) this
  · unfold owes
    rw [if_neg this]

/-- the frame that goes, one side alone -/
inductive Next (A : Co) : Fr → Co → Prop where
  | opn (n : Int) (hn : n ∈ A.turns) (h : (A.ch n).ann = false) (hf : A.turns.find? (fun n => !(A.ch n).ann) = some n) : Next A (.opn n) (A.set n { A.ch n with ann := true })
  | rst (n k : Int) (hn : n ∈ A.turns) (hall : ∀ m ∈ A.turns, (A.ch m).ann = true) (hr : (A.ch n).rst = some (true, k)) (ht : (A.ch n).told = false) : Next A (.rst n k) (A.set n { A.ch n with told := true })
  | per (n m : Int) (hn : n ∈ A.turns) (hall : ∀ m ∈ A.turns, (A.ch m).ann = true) (hr : (A.ch n).rst = none) (he : (A.ch n).endC = false) (hm : 0 < m) (ho : m = A.win - (A.ch n).due - (A.ch n).ready.length) :
      Next A (.per n m) (A.set n { A.ch n with due := (A.ch n).due + m })
  | snd (n : Int) (hn : n ∈ A.turns) (hall : ∀ m ∈ A.turns, (A.ch m).ann = true) (hh : has (A.ch n) = true) :
      Next A (sendF A.most n (A.ch n)) { A.set n (sendC A.most (A.ch n)) with turns := A.turns.filter (fun m => decide (m ≠ n)) ++ [n] }

theorem next_of {A A' : Co} {f : Fr} (h : nextFr A = some (f, A')) : Next A f A' := by
  unfold nextFr at h
  split at h
  · rename_i n e
    obtain ⟨h1, h2⟩ := find_spec e
    cases h
    exact .opn n h1 (by simpa using h2) e
  · rename_i e0
    have hall : ∀ m ∈ A.turns, (A.ch m).ann = true := fun m hm => by
      have := List.find?_eq_none.mp e0 m hm
      simpa using this
    split at h
    · rename_i n e
      obtain ⟨h1, h2⟩ := find_spec e
      cases h
      cases eu : untold (A.ch n) with
      | none => rw [eu] at h2; cases h2
      | some k =>
        obtain ⟨x1, x2⟩ := untold_spec eu
        exact .rst n k h1 hall x1 x2
    · split at h
      · rename_i n e
        obtain ⟨h1, h2⟩ := find_spec e
        cases h
        obtain ⟨x1, x2, x3, x4⟩ := wants_spec h2
        exact .per n _ h1 hall x1 x2 x3 x4
      · split at h
        · rename_i n e
          obtain ⟨h1, h2⟩ := find_spec e
          cases h
          exact .snd n h1 hall h2
        · cases h
theorem next_none {A : Co} (h : nextFr A = none) : ∀ n ∈ A.turns, (A.ch n).ann = true ∧ untold (A.ch n) = none ∧ wants A.win (A.ch n) = false ∧ has (A.ch n) = false := by
  unfold nextFr at h
  split at h
  · cases h
  · rename_i e0
    split at h
    · cases h
    · rename_i e1
      split at h
      · cases h
      · rename_i e2
        split at h
        · cases h
        · rename_i e3
          intro n hn
          have a0 := List.find?_eq_none.mp e0 n hn
          have a1 := List.find?_eq_none.mp e1 n hn
          have a2 := List.find?_eq_none.mp e2 n hn
          have a3 := List.find?_eq_none.mp e3 n hn
          refine ⟨by simpa using a0, ?_, by simpa using a2, by simpa using a3⟩
          cases eu : untold (A.ch n) with
          | none => rfl
          | some k => rw [eu] at a1; exact absurd rfl a1

/-- the first channel that is not announced is the next in the order of opening -/
theorem SInv.first {A : Co} {a : Nat} (h : SInv A a) {n : Int} (hf : A.turns.find? (fun n => !(A.ch n).ann) = some n) : n = num A.first (a + 1) ∧ a + 1 ≤ A.opened := by
  have e : (A.turns.filter (fun n => !(A.ch n).ann)).head? = some n := by
    rw [List.head?_filter, hf]
  rw [h.una] at e
  cases q : A.opened - a with
  | zero => rw [q] at e; simp at e
  | succ k =>
    rw [q] at e
    simp [List.range'_succ] at e
    exact ⟨e.symm, by omega⟩

theorem SInv.announce {A : Co} {a : Nat} (h : SInv A a) {n : Int} (hn : n ∈ A.turns) (hf : A.turns.find? (fun n => !(A.ch n).ann) = some n) : SInv (A.set n { A.ch n with ann := true }) (a + 1) := by
  obtain ⟨e, ho⟩ := h.first hf
  have hl := h.loc n
  refine ⟨h.w1, h.w12, h.m1, h.m8, fun m => ?_, ho, h.o4, h.c4, h.mem, h.nd, h.srt, h.prm, fun m => ?_, ?_, fun m hm => ?_, h.len⟩
  · by_cases hm : m = n
    · subst hm
      rw [Co.set_same]
      exact ⟨hl.c0, hl.d0, hl.dw, hl.qw, hl.qr, hl.told, hl.code, hl.endS⟩
    · rw [Co.set_ne _ _ hm]
      exact h.loc m
  · by_cases hm : m = n
    · subst hm
      rw [Co.set_same]
      exact ⟨fun _ => .inl ⟨a + 1, by omega, Nat.le_refl _, e⟩, fun _ => rfl⟩
    · rw [Co.set_ne _ _ hm, h.ann m]
      constructor
      · rintro (z | z)
        · exact .inl (z.mono (by omega))
        · exact .inr z
      · rintro (z | z)
        · rcases Own.succ.mp z with z | z
          · exact .inl z
          · exact absurd (z.trans e.symm) hm
        · exact .inr z
  · have e1 : A.turns.filter (fun m => !((A.set n { A.ch n with ann := true }).ch m).ann) = (A.turns.filter (fun n => !(A.ch n).ann)).filter (fun m => decide (m ≠ n)) := by
      rw [List.filter_filter]
      refine List.filter_congr fun m hm => ?_
      by_cases z : m = n
      · subst z
        rw [Co.set_same]
        simp
      · rw [Co.set_ne _ _ z]
        simp [z]
    show A.turns.filter _ = (List.range' (a + 1 + 1) (A.opened - (a + 1))).map (num A.first)
    rw [e1, h.una]
    have q : A.opened - a = (A.opened - (a + 1)) + 1 := by omega
    rw [q, List.range'_succ, List.map_cons, List.filter_cons, if_neg (by simp [e]), List.filter_eq_self.mpr]
    intro m hm
    obtain ⟨j, hj, ej⟩ := List.mem_map.mp hm
    have := List.mem_range'_1.mp hj
    simp
    rw [e, ← ej]
    intro z
    have := num_ne z
    omega
  · have : m ≠ n := fun z => hm (z ▸ hn)
    rw [Co.set_ne _ _ this]
    exact h.unk m hm

theorem SInv.next {A A' : Co} {a : Nat} {f : Fr} (h : SInv A a) (hn : Next A f A') : ∃ a', SInv A' a' := by
  cases hn with
  | opn n hn ha hf => exact ⟨a + 1, h.announce hn hf⟩
  | rst n k hn hall hr ht =>
    have l := h.loc n
    exact ⟨a, h.chg hn (c := { A.ch n with told := true }) rfl ⟨l.c0, l.d0, l.dw, l.qw, l.qr, fun _ => ⟨k, hr⟩, l.code, l.endS⟩⟩
  | per n m hn hall hr he hm ho =>
    have l := h.loc n
    refine ⟨a, h.chg hn (c := { A.ch n with due := (A.ch n).due + m }) rfl ⟨l.c0, ?_, ?_, l.qw, l.qr, l.told, l.code, l.endS⟩⟩
    · have := l.d0
      show 0 ≤ (A.ch n).due + m
      omega
    · show (A.ch n).due + m + ((A.ch n).ready.length : Int) ≤ A.win
      omega
  | snd n hn hall hh =>
    obtain ⟨l, _⟩ := (h.loc n).sendC h.m1 hh
    have e : (sendC A.most (A.ch n)).ann = (A.ch n).ann := by
      unfold sendC
      split <;> rfl
    refine ⟨a, (h.chg hn (c := sendC A.most (A.ch n)) e l).turn hn fun m hm => ?_⟩
    by_cases z : m = n
    · subst z
      rw [Co.set_same, e]
      exact hall m hm
    · rw [Co.set_ne _ _ z]
      exact hall m hm

/-- a new channel -/
theorem SInv.add {A : Co} {a : Nat} (h : SInv A a) {n : Int} (hn : n ∉ A.turns) (ann : Bool) : (A.add n ann).nums.Pairwise (· < ·) ∧ (A.add n ann).nums.Perm (A.add n ann).turns ∧ (A.add n ann).turns.Nodup := by
  have nd : (A.turns ++ [n]).Nodup := List.nodup_append.mpr ⟨h.nd, by simp, fun x hx y hy => by simp at hy; rw [hy]; exact fun z => hn (z ▸ hx)⟩
  have p1 : (insort n A.nums).Perm (A.turns ++ [n]) := (insort_perm n A.nums).trans (h.prm.append_right _)
  exact ⟨pairwise_lt (insort_le _ _) (p1.nodup_iff.mpr nd), p1, nd⟩
theorem SInv.open {A : Co} {a : Nat} (h : SInv A a) (h4 : A.opened < 4) : SInv (openC A) a ∧ num A.first (A.opened + 1) ∉ A.turns ∧ (openC A).ch = A.ch := by
  have hn : num A.first (A.opened + 1) ∉ A.turns := fun z => by
    rcases (h.mem _).mp z with z | z
    · exact Own.not z
    · exact Own.other' z
  have ec : (openC A).ch = A.ch := by
    funext m
    show (if m = num A.first (A.opened + 1) then Ch.new false else A.ch m) = A.ch m
    split
    · rename_i e
      rw [e, h.unk _ hn]
    · rfl
  obtain ⟨s1, s2, s3⟩ := h.add hn false
  refine ⟨⟨h.w1, h.w12, h.m1, h.m8, fun m => by rw [ec]; exact h.loc m, ?_, ?_, h.c4, fun m => ?_, s3, s1, s2, fun m => by rw [ec]; exact h.ann m, ?_, fun m hm => ?_, ?_⟩, hn, ec⟩
  · have := h.ao
    show a ≤ A.opened + 1
    omega
  · show A.opened + 1 ≤ 4
    omega
  · show m ∈ A.turns ++ [_] ↔ Own A.first (A.opened + 1) m ∨ Own (!A.first) A.came m
    rw [List.mem_append, List.mem_singleton, h.mem m, Own.succ]
    constructor
    · rintro ((z | z) | z)
      · exact .inl (.inl z)
      · exact .inr z
      · exact .inl (.inr z)
    · rintro ((z | z) | z)
      · exact .inl (.inl z)
      · exact .inr z
      · exact .inl (.inr z)
  · show (A.turns ++ [num A.first (A.opened + 1)]).filter _ = (List.range' (a + 1) (A.opened + 1 - a)).map (num A.first)
    rw [ec, List.filter_append, h.una]
    have q : A.opened + 1 - a = (A.opened - a) + 1 := by have := h.ao; omega
    rw [q, List.range'_1_concat, List.map_append]
    have e1 : a + 1 + (A.opened - a) = A.opened + 1 := by have := h.ao; omega
    rw [e1]
    congr 1
    rw [List.filter_cons, if_pos (by rw [h.unk _ hn]; rfl)]
    rfl
  · rw [ec]
    refine h.unk m fun z => hm ?_
    exact List.mem_append.mpr (.inl z)
  · show (A.turns ++ [_]).length = A.opened + 1 + A.came
    rw [List.length_append, h.len]
    simp
    omega
theorem SInv.come {A : Co} {a : Nat} (h : SInv A a) (h4 : A.came < 4) : SInv (recvF A (.opn (num (!A.first) (A.came + 1)))) a ∧ num (!A.first) (A.came + 1) ∉ A.turns := by
  have hn : num (!A.first) (A.came + 1) ∉ A.turns := fun z => by
    rcases (h.mem _).mp z with z | z
    · exact Own.other z
    · exact Own.not z
  obtain ⟨s1, s2, s3⟩ := h.add hn true
  have e1 : ∀ m, m ≠ num (!A.first) (A.came + 1) → (A.add (num (!A.first) (A.came + 1)) true).ch m = A.ch m := fun m z => by
    show (if m = _ then _ else _) = _
    rw [if_neg z]
  have e2 : (A.add (num (!A.first) (A.came + 1)) true).ch (num (!A.first) (A.came + 1)) = Ch.new true := by
    show (if _ = _ then _ else _) = _
    rw [if_pos rfl]
  refine ⟨⟨h.w1, h.w12, h.m1, h.m8, fun m => ?_, h.ao, h.o4, ?_, fun m => ?_, s3, s1, s2, fun m => ?_, ?_, fun m hm => ?_, ?_⟩, hn⟩
  · show LInv A.win ((A.add (num (!A.first) (A.came + 1)) true).ch m)
    by_cases z : m = num (!A.first) (A.came + 1)
    · rw [z, e2]
      exact LInv.new h.w1 true
    · rw [e1 m z]
      exact h.loc m
  · show A.came + 1 ≤ 4
    omega
  · show m ∈ A.turns ++ [_] ↔ Own A.first A.opened m ∨ Own (!A.first) (A.came + 1) m
    rw [List.mem_append, List.mem_singleton, h.mem m, Own.succ]
    exact or_assoc
  · show ((A.add (num (!A.first) (A.came + 1)) true).ch m).ann = true ↔ Own A.first a m ∨ Own (!A.first) (A.came + 1) m
    rw [Own.succ]
    by_cases z : m = num (!A.first) (A.came + 1)
    · rw [z, e2]
      exact ⟨fun _ => .inr (.inr rfl), fun _ => rfl⟩
    · rw [e1 m z, h.ann m]
      constructor
      · rintro (q | q)
        · exact .inl q
        · exact .inr (.inl q)
      · rintro (q | q | q)
        · exact .inl q
        · exact .inr q
        · exact absurd q z
  · show (A.turns ++ [num (!A.first) (A.came + 1)]).filter (fun m => !((A.add (num (!A.first) (A.came + 1)) true).ch m).ann) = (List.range' (a + 1) (A.opened - a)).map (num A.first)
    rw [List.filter_append, ← h.una]
    have e3 : [num (!A.first) (A.came + 1)].filter (fun m => !((A.add (num (!A.first) (A.came + 1)) true).ch m).ann) = [] := by
      rw [List.filter_cons, if_neg (by rw [e2]; simp [Ch.new])]
      rfl
    rw [e3, List.append_nil]
    refine List.filter_congr fun m hm => ?_
    rw [e1 m fun z => hn (z ▸ hm)]
  · have z : m ≠ num (!A.first) (A.came + 1) := fun z => hm (List.mem_append.mpr (.inr (by simp [z])))
    show (A.add (num (!A.first) (A.came + 1)) true).ch m = _
    rw [e1 m z]
    exact h.unk m fun q => hm (List.mem_append.mpr (.inl q))
  · show (A.turns ++ [_]).length = A.opened + (A.came + 1)
    rw [List.length_append, h.len]
    simp
    omega
end Thl

/-! Two sides. -/
namespace Thl

/-- what the law notes of a side -/
structure Bc where
  written : Int → List Int
  given : Int → List Int
  fin : Int → Bool
  resets : Int → Option Int

def Fr.isOpn : Fr → Bool
  | .opn _ => true
  | _ => false
/-- the frames of the channel n, its opening left out -/
def chF (n : Int) (l : List Fr) : List Fr := l.filter fun f => !f.isOpn && decide (f.chan = n)
theorem chF_append (n : Int) (a b : List Fr) : chF n (a ++ b) = chF n a ++ chF n b := List.filter_append _ _
theorem chF_opn (n c : Int) (l : List Fr) : chF n (.opn c :: l) = chF n l := by simp [chF, Fr.isOpn]
theorem chF_same {n : Int} {f : Fr} (l : List Fr) (h : f.isOpn = false) (e : f.chan = n) : chF n (f :: l) = f :: chF n l := by simp [chF, h, e]
theorem chF_ne {n : Int} {f : Fr} (l : List Fr) (e : f.chan ≠ n) : chF n (f :: l) = chF n l := by simp [chF, e]
theorem chF_one {n : Int} {f : Fr} (h : f.isOpn = false) (e : f.chan = n) : chF n [f] = [f] := chF_same [] h e
theorem chF_one_ne {n : Int} {f : Fr} (e : f.chan ≠ n) : chF n [f] = [] := chF_ne [] e

/-- the openings among the frames come in order, and no frame comes ahead of its channel's opening; c: how many have come -/
def Kn (first : Bool) (opened a : Nat) : Nat → List Fr → Prop
  | c, [] => c = a
  | c, .opn x :: l => x = num (!first) (c + 1) ∧ Kn first opened a (c + 1) l
  | c, .oct x _ :: l => (Own first opened x ∨ Own (!first) c x) ∧ Kn first opened a c l
  | c, .per x _ :: l => (Own first opened x ∨ Own (!first) c x) ∧ Kn first opened a c l
  | c, .fin x :: l => (Own first opened x ∨ Own (!first) c x) ∧ Kn first opened a c l
  | c, .rst x _ :: l => (Own first opened x ∨ Own (!first) c x) ∧ Kn first opened a c l
theorem Kn.le {first : Bool} {opened a : Nat} : ∀ {l : List Fr} {c : Nat}, Kn first opened a c l → c ≤ a
  | [], c, h => Nat.le_of_eq h
  | .opn x :: l, c, h => by have := Kn.le h.2; omega
  | .oct x _ :: l, c, h => Kn.le h.2
  | .per x _ :: l, c, h => Kn.le h.2
  | .fin x :: l, c, h => Kn.le h.2
  | .rst x _ :: l, c, h => Kn.le h.2
theorem Kn.mono {first : Bool} {opened opened' a : Nat} (ho : opened ≤ opened') : ∀ {l : List Fr} {c : Nat}, Kn first opened a c l → Kn first opened' a c l
  | [], c, h => h
  | .opn x :: l, c, h => ⟨h.1, Kn.mono ho h.2⟩
  | .oct x _ :: l, c, h => ⟨h.1.imp (·.mono ho) id, Kn.mono ho h.2⟩
  | .per x _ :: l, c, h => ⟨h.1.imp (·.mono ho) id, Kn.mono ho h.2⟩
  | .fin x :: l, c, h => ⟨h.1.imp (·.mono ho) id, Kn.mono ho h.2⟩
  | .rst x _ :: l, c, h => ⟨h.1.imp (·.mono ho) id, Kn.mono ho h.2⟩
theorem Kn.opn {first : Bool} {opened a : Nat} : ∀ {l : List Fr} {c : Nat}, Kn first opened a c l → Kn first opened (a + 1) c (l ++ [.opn (num (!first) (a + 1))])
  | [], c, h => by
    have h : c = a := h
    subst h
    exact ⟨rfl, rfl⟩
  | .opn x :: l, c, h => ⟨h.1, Kn.opn h.2⟩
  | .oct x _ :: l, c, h => ⟨h.1, Kn.opn h.2⟩
  | .per x _ :: l, c, h => ⟨h.1, Kn.opn h.2⟩
  | .fin x :: l, c, h => ⟨h.1, Kn.opn h.2⟩
  | .rst x _ :: l, c, h => ⟨h.1, Kn.opn h.2⟩
theorem Kn.other {first : Bool} {opened a : Nat} {f : Fr} (hf : f.isOpn = false) (hk : Own first opened f.chan ∨ Own (!first) a f.chan) : ∀ {l : List Fr} {c : Nat}, Kn first opened a c l → Kn first opened a c (l ++ [f])
  | [], c, h => by
    have h : c = a := h
    subst h
    cases f with
    | opn x => cases hf
    | oct x d => exact ⟨hk, rfl⟩
    | per x m => exact ⟨hk, rfl⟩
    | fin x => exact ⟨hk, rfl⟩
    | rst x k => exact ⟨hk, rfl⟩
  | .opn x :: l, c, h => ⟨h.1, Kn.other hf hk h.2⟩
  | .oct x _ :: l, c, h => ⟨h.1, Kn.other hf hk h.2⟩
  | .per x _ :: l, c, h => ⟨h.1, Kn.other hf hk h.2⟩
  | .fin x :: l, c, h => ⟨h.1, Kn.other hf hk h.2⟩
  | .rst x _ :: l, c, h => ⟨h.1, Kn.other hf hk h.2⟩

structure BInv (c : Ch) (fin : Bool) (reset : Option Int) : Prop where
  fin : c.fin = fin
  rst : ∀ k, c.rst = some (true, k) → reset = some k

/-- two sides A and B, what was noted of them (p, q), the frames under way from A to B (F) and from B to A (G); a, b: how many channels each has announced -/
structure CInv (A B : Co) (p q : Bc) (F G : List Fr) (a b : Nat) : Prop where
  sa : SInv A a
  sb : SInv B b
  fst : B.first = !A.first
  pab : ∀ n, PInv (A.ch n) (B.ch n) (chF n F) (chF n G) (p.written n) (q.given n)
  pba : ∀ n, PInv (B.ch n) (A.ch n) (chF n G) (chF n F) (q.written n) (p.given n)
  ba : ∀ n, BInv (A.ch n) (p.fin n) (p.resets n)
  bb : ∀ n, BInv (B.ch n) (q.fin n) (q.resets n)
  kab : Kn B.first B.opened a B.came F
  kba : Kn A.first A.opened b A.came G
  va : ∀ f ∈ F, VF f
  vb : ∀ f ∈ G, VF f

variable {A B A' B' : Co} {p q p' q' : Bc} {F G F' G' : List Fr} {a b : Nat}

theorem CInv.symm (h : CInv A B p q F G a b) : CInv B A q p G F b a :=
  ⟨h.sb, h.sa, by rw [h.fst]; simp, h.pba, h.pab, h.bb, h.ba, h.kba, h.kab, h.vb, h.va⟩

/-- one channel of A changes (what is under way for it too) -/
theorem CInv.chg (h : CInv A B p q F G a b) {n : Int} {c : Ch} (s : SInv (A.set n c) a)
    (hw : ∀ m, m ≠ n → p'.written m = p.written m ∧ p'.given m = p.given m ∧ p'.fin m = p.fin m ∧ p'.resets m = p.resets m)
    (hF : ∀ m, m ≠ n → chF m F' = chF m F) (hG : ∀ m, m ≠ n → chF m G' = chF m G) (hb : BInv c (p'.fin n) (p'.resets n))
    (p1 : PInv c (B.ch n) (chF n F') (chF n G') (p'.written n) (q.given n)) (p2 : PInv (B.ch n) c (chF n G') (chF n F') (q.written n) (p'.given n))
    (k1 : Kn B.first B.opened a B.came F') (k2 : Kn A.first A.opened b A.came G') (va : ∀ f ∈ F', VF f) (vb : ∀ f ∈ G', VF f) : CInv (A.set n c) B p' q F' G' a b := by
  refine ⟨s, h.sb, h.fst, fun m => ?_, fun m => ?_, fun m => ?_, h.bb, k1, k2, va, vb⟩
  · by_cases e : m = n
    · subst e
      rw [Co.set_same]
      exact p1
    · rw [Co.set_ne _ _ e, hF m e, hG m e, (hw m e).1]
      exact h.pab m
  · by_cases e : m = n
    · subst e
      rw [Co.set_same]
      exact p2
    · rw [Co.set_ne _ _ e, hF m e, hG m e, (hw m e).2.1]
      exact h.pba m
  · by_cases e : m = n
    · subst e
      rw [Co.set_same]
      exact hb
    · rw [Co.set_ne _ _ e, (hw m e).2.2.1, (hw m e).2.2.2]
      exact h.ba m

theorem vf_append {f : Fr} {F : List Fr} (h : ∀ g ∈ F, VF g) (v : VF f) : ∀ g ∈ F ++ [f], VF g := fun g hg => by
  rcases List.mem_append.mp hg with z | z
  · exact h g z
  · rw [List.mem_singleton.mp z]
    exact v

/-- what A may say of a channel that all have heard of -/
theorem CInv.known (h : CInv A B p q F G a b) {n : Int} (hn : n ∈ A.turns) (ha : (A.ch n).ann = true) : Own B.first B.opened n ∨ Own (!B.first) a n := by
  rcases (h.sa.ann n).mp ha with z | z
  · refine .inr ?_
    rw [h.fst, Bool.not_not]
    exact z
  · refine .inl ?_
    rw [h.fst]
    exact z.mono (Nat.le_trans h.kba.le h.sb.ao)

theorem b16 {n : Int} (h : 1 ≤ n ∧ n ≤ 8) : B16 n := ⟨by omega, by omega⟩

/-- A makes its next frame -/
theorem CInv.next {f : Fr} (h : CInv A B p q F G a b) (hn : Next A f A') : ∃ a', CInv A' B p q (F ++ [f]) G a' b ∧ VF f := by
  cases hn with
  | opn n hn ha hf =>
    obtain ⟨e, ho⟩ := h.sa.first hf
    have v : VF (.opn n) := b16 (h.sa.bound hn)
    have s := h.sa.announce hn hf
    refine ⟨a + 1, ⟨s, h.sb, h.fst, fun m => ?_, fun m => ?_, fun m => ?_, h.bb, ?_, h.kba, vf_append h.va v, h.vb⟩, v⟩
    · have e1 : chF m (F ++ [Fr.opn n]) = chF m F := by rw [chF_append, chF_opn]; simp [chF]
      rw [e1]
      by_cases z : m = n
      · subst z
        rw [Co.set_same]
        exact (h.pab m).s_congr rfl rfl rfl rfl rfl
      · rw [Co.set_ne _ _ z]
        exact h.pab m
    · have e1 : chF m (F ++ [Fr.opn n]) = chF m F := by rw [chF_append, chF_opn]; simp [chF]
      rw [e1]
      by_cases z : m = n
      · subst z
        rw [Co.set_same]
        exact (h.pba m).r_congr rfl rfl rfl rfl rfl
      · rw [Co.set_ne _ _ z]
        exact h.pba m
    · by_cases z : m = n
      · subst z
        rw [Co.set_same]
        exact ⟨(h.ba m).fin, (h.ba m).rst⟩
      · rw [Co.set_ne _ _ z]
        exact h.ba m
    · have := h.kab.opn
      rw [h.fst, Bool.not_not, ← e] at this
      rw [h.fst]
      exact this
  | rst n k hn hall hr ht =>
    have l := h.sa.loc n
    have v : VF (.rst n k) := ⟨b16 (h.sa.bound hn), l.code _ _ hr⟩
    have s : SInv (A.set n { A.ch n with told := true }) a := h.sa.chg hn (c := { A.ch n with told := true }) rfl ⟨l.c0, l.d0, l.dw, l.qw, l.qr, fun _ => ⟨k, hr⟩, l.code, l.endS⟩
    have e1 : chF n (F ++ [Fr.rst n k]) = chF n F ++ [Fr.rst n k] := by rw [chF_append, chF_one (f := .rst n k) (n := n) rfl rfl]
    refine ⟨a, h.chg s (p' := p) (fun _ _ => ⟨rfl, rfl, rfl, rfl⟩) (fun m z => ?_) (fun _ _ => rfl) ⟨(h.ba n).fin, (h.ba n).rst⟩ ?_ ?_ (h.kab.other (f := .rst n k) rfl (h.known hn (hall n hn))) h.kba (vf_append h.va v) h.vb, v⟩
    · rw [chF_append, chF_one_ne (f := .rst n k) (fun q => z q.symm), List.append_nil]
    · rw [e1]
      exact (h.pab n).send_rst n k hr ht
    · rw [e1]
      exact (h.pba n).r_congr rfl rfl rfl rfl (by simp [pers_append, pers])
  | per n m hn hall hr he hm ho =>
    have l := h.sa.loc n
    have v : VF (.per n m) := by
      refine ⟨b16 (h.sa.bound hn), ?_⟩
      have := l.d0
      have := h.sa.w12
      constructor <;> omega
    have s : SInv (A.set n { A.ch n with due := (A.ch n).due + m }) a := h.sa.chg hn (c := { A.ch n with due := (A.ch n).due + m }) rfl ⟨l.c0, by have := l.d0; show 0 ≤ (A.ch n).due + m; omega, by show (A.ch n).due + m + ((A.ch n).ready.length : Int) ≤ A.win; omega, l.qw, l.qr, l.told, l.code, l.endS⟩
    have e1 : chF n (F ++ [Fr.per n m]) = chF n F ++ [Fr.per n m] := by rw [chF_append, chF_one (f := .per n m) (n := n) rfl rfl]
    refine ⟨a, h.chg s (p' := p) (fun _ _ => ⟨rfl, rfl, rfl, rfl⟩) (fun m z => ?_) (fun _ _ => rfl) ⟨(h.ba n).fin, (h.ba n).rst⟩ ?_ ?_ (h.kab.other (f := .per n m) rfl (h.known hn (hall n hn))) h.kba (vf_append h.va v) h.vb, v⟩
    · rw [chF_append, chF_one_ne (fun q => z q.symm), List.append_nil]
    · rw [e1]
      exact (h.pab n).send_per l n m _ hr hm
    · rw [e1]
      exact (h.pba n).got_per n m hm
  | snd n hn hall hh =>
    have l := h.sa.loc n
    obtain ⟨l2, hr, hq1, hq2⟩ := l.sendC h.sa.m1 hh
    have ea : (sendC A.most (A.ch n)).ann = (A.ch n).ann := by
      unfold sendC
      split <;> rfl
    have ei : (sendF A.most n (A.ch n)).isOpn = false := by
      unfold sendF
      split <;> rfl
    have ec : (sendF A.most n (A.ch n)).chan = n := by
      unfold sendF
      split <;> rfl
    have v : VF (sendF A.most n (A.ch n)) := by
      have b := b16 (h.sa.bound hn)
      unfold sendF
      split
      · exact b
      · rename_i hq
        refine ⟨b, ?_⟩
        have := l.qw
        have := h.sa.w12
        rw [List.length_take]
        constructor <;> omega
    have s : SInv (A.set n (sendC A.most (A.ch n))) a := h.sa.chg hn ea l2
    have e1 : chF n (F ++ [sendF A.most n (A.ch n)]) = chF n F ++ [sendF A.most n (A.ch n)] := by rw [chF_append, chF_one ei ec]
    have bi : BInv (sendC A.most (A.ch n)) (p.fin n) (p.resets n) := by
      have := h.ba n
      unfold sendC
      split
      · exact ⟨this.fin, this.rst⟩
      · exact ⟨this.fin, this.rst⟩
    have c := h.chg (F' := F ++ [sendF A.most n (A.ch n)]) (G' := G) s (p' := p) (fun _ _ => ⟨rfl, rfl, rfl, rfl⟩) (fun m z => by rw [chF_append, chF_one_ne (by rw [ec]; exact fun q => z q.symm), List.append_nil]) (fun _ _ => rfl) bi
      (by
        rw [e1]
        by_cases hq : (A.ch n).queue = []
        · exact (h.pab n).send_fin l n hr hq (hq1 hq).1
        · exact (h.pab n).send_oct l n h.sa.m1 hr hq (hq2 hq))
      (by
        rw [e1]
        refine (h.pba n).r_congr ?_ ?_ ?_ ?_ ?_
        · unfold sendC
          split <;> rfl
        · unfold sendC
          split <;> rfl
        · unfold sendC
          split <;> rfl
        · unfold sendC
          split <;> rfl
        · rw [pers_append]
          unfold sendF
          split <;> simp [pers])
      (h.kab.other ei (by rw [ec]; exact h.known hn (hall n hn))) h.kba (vf_append h.va v) h.vb
    refine ⟨a, ⟨?_, c.sb, c.fst, c.pab, c.pba, c.ba, c.bb, c.kab, c.kba, c.va, c.vb⟩, v⟩
    refine c.sa.turn hn fun m hm => ?_
    by_cases z : m = n
    · subst z
      rw [Co.set_same, ea]
      exact hall m hm
    · rw [Co.set_ne _ _ z]
      exact hall m hm

theorem LInv.takeF {w : Int} {c : Ch} {f : Fr} (l : LInv w c) (g : GoodC c f) (v : VF f) : LInv w (takeF c f) := by
  rcases g with ⟨k, e⟩ | ⟨e, g⟩
  · have : Thl.takeF c f = c := by simp [Thl.takeF, e]
    rw [this]
    exact l
  · cases f with
    | opn x => exact g.elim
    | oct x d =>
      have : Thl.takeF c (.oct x d) = { c with ready := c.ready ++ d, due := c.due - d.length } := by simp [Thl.takeF, e]
      rw [this]
      obtain ⟨_, _, g⟩ := g
      refine ⟨l.c0, by show 0 ≤ c.due - d.length; omega, ?_, l.qw, fun z => absurd e z, l.told, l.code, l.endS⟩
      have := l.dw
      show c.due - d.length + ((c.ready ++ d).length : Int) ≤ w
      rw [List.length_append]
      omega
    | per x m =>
      have : Thl.takeF c (.per x m) = { c with credit := c.credit + m } := by simp [Thl.takeF, e]
      rw [this]
      have := v.2.1
      have := l.c0
      exact ⟨by show 0 ≤ c.credit + m; omega, l.d0, l.dw, l.qw, l.qr, l.told, l.code, l.endS⟩
    | fin x =>
      have : Thl.takeF c (.fin x) = { c with endC := true } := by simp [Thl.takeF, e]
      rw [this]
      exact ⟨l.c0, l.d0, l.dw, l.qw, l.qr, l.told, l.code, l.endS⟩
    | rst x k =>
      have : Thl.takeF c (.rst x k) = dropAll c false k := by simp [Thl.takeF, e]
      rw [this]
      refine ⟨l.c0, l.d0, ?_, ?_, fun _ => ⟨rfl, rfl⟩, fun z => ?_, fun b k' z => ?_, fun z => ⟨(l.endS z).1, rfl⟩⟩
      · have := l.dw
        show c.due + (([] : List Int).length : Int) ≤ w
        simp
        omega
      · have := l.d0
        have := l.dw
        show (([] : List Int).length : Int) ≤ w
        simp
        omega
      · obtain ⟨k', z⟩ := l.told z
        rw [e] at z
        cases z
      · simp [dropAll] at z
        rw [← z.2]
        exact v.2

theorem takeF_ann (c : Ch) (f : Fr) : (takeF c f).ann = c.ann := by
  unfold takeF dropAll
  split
  · rfl
  · cases f <;> rfl
theorem takeF_fin (c : Ch) (f : Fr) : (takeF c f).fin = c.fin := by
  unfold takeF dropAll
  split
  · rfl
  · cases f <;> rfl
theorem takeF_rst (c : Ch) (f : Fr) {k : Int} (h : (takeF c f).rst = some (true, k)) : c.rst = some (true, k) := by
  unfold takeF dropAll at h
  split at h
  · exact h
  · cases f with
    | rst x k' => simp at h
    | opn x => exact h
    | oct x d => exact h
    | per x d => exact h
    | fin x => exact h

/-- A takes the first frame that is under way to it -/
theorem CInv.recv {g : Fr} (h : CInv A B p q F (g :: G) a b) : GoodF A g ∧ CInv (recvF A g) B p q F G a b := by
  have kb := h.kba
  have vg := h.vb g List.mem_cons_self
  have vG : ∀ f ∈ G, VF f := fun f hf => h.vb f (List.mem_cons_of_mem _ hf)
  have main : ∀ (n : Int), g.isOpn = false → g.chan = n → (Own A.first A.opened n ∨ Own (!A.first) A.came n) → Kn A.first A.opened b A.came G → n ∈ A.turns ∧ GoodC (A.ch n) g ∧ CInv (A.set n (takeF (A.ch n) g)) B p q F G a b := by
    intro n ho hc hk k2
    have hn : n ∈ A.turns := (h.sa.mem n).mpr hk
    have e1 : chF n (g :: G) = g :: chF n G := chF_same G ho hc
    have P1 := h.pab n
    have P2 := h.pba n
    rw [e1] at P1 P2
    have gd := P2.good_head (h.sb.loc n)
    refine ⟨hn, gd, h.chg (h.sa.chg hn (takeF_ann _ _) ((h.sa.loc n).takeF gd vg)) (p' := p) (fun _ _ => ⟨rfl, rfl, rfl, rfl⟩) (fun _ _ => rfl) (fun m z => ?_) ⟨?_, fun k z => (h.ba n).rst k (takeF_rst _ _ z)⟩ (P1.recv_s (h.sa.loc n) P2) P2.recv h.kab k2 h.va vG⟩
    · rw [chF_ne G (by rw [hc]; exact fun q => z q.symm)]
    · rw [takeF_fin]
      exact (h.ba n).fin
  cases g with
  | oct x d =>
    obtain ⟨m1, m2, m3⟩ := main x rfl rfl kb.1 kb.2
    exact ⟨⟨m1, m2⟩, m3⟩
  | per x d =>
    obtain ⟨m1, m2, m3⟩ := main x rfl rfl kb.1 kb.2
    exact ⟨⟨m1, m2⟩, m3⟩
  | fin x =>
    obtain ⟨m1, m2, m3⟩ := main x rfl rfl kb.1 kb.2
    exact ⟨⟨m1, m2⟩, m3⟩
  | rst x d =>
    obtain ⟨m1, m2, m3⟩ := main x rfl rfl kb.1 kb.2
    exact ⟨⟨m1, m2⟩, m3⟩
  | opn x =>
    obtain ⟨e, k2⟩ := kb
    have hc : A.came < 4 := by
      have := k2.le
      have := h.sb.ao
      have := h.sb.o4
      omega
    obtain ⟨s, hn⟩ := h.sa.come hc
    rw [← e] at s hn
    have e0 : A.ch x = Ch.new false := h.sa.unk x hn
    have e1 : ∀ m, m ≠ x → (recvF A (.opn x)).ch m = A.ch m := fun m z => by
      show (if m = x then _ else _) = _
      rw [if_neg z]
    have e2 : (recvF A (.opn x)).ch x = { A.ch x with ann := true } := by
      show (if x = x then _ else _) = _
      rw [if_pos rfl, e0]
      rfl
    refine ⟨⟨by omega, e⟩, ⟨s, h.sb, h.fst, fun m => ?_, fun m => ?_, fun m => ?_, h.bb, h.kab, k2, h.va, vG⟩⟩
    · have := h.pab m
      rw [chF_opn] at this
      by_cases z : m = x
      · subst z
        rw [e2]
        exact this.s_congr rfl rfl rfl rfl rfl
      · rw [e1 m z]
        exact this
    · have := h.pba m
      rw [chF_opn] at this
      by_cases z : m = x
      · subst z
        rw [e2]
        exact this.r_congr rfl rfl rfl rfl rfl
      · rw [e1 m z]
        exact this
    · by_cases z : m = x
      · subst z
        rw [e2]
        exact ⟨(h.ba m).fin, (h.ba m).rst⟩
      · rw [e1 m z]
        exact h.ba m

/-! ### what the law does with A -/
def Bc.wr (p : Bc) (n : Int) (o : List Int) : Bc := { p with written := fun m => if m = n then p.written n ++ o else p.written m }
def Bc.gv (p : Bc) (n : Int) (o : List Int) : Bc := { p with given := fun m => if m = n then p.given n ++ o else p.given m }
def Bc.fi (p : Bc) (n : Int) : Bc := { p with fin := fun m => if m = n then true else p.fin m }
def Bc.rs (p : Bc) (n k : Int) : Bc := { p with resets := fun m => if m = n then some k else p.resets m }

theorem CInv.open (h : CInv A B p q F G a b) (h4 : A.turns.length < 4) : CInv (openC A) B p q F G a b := by
  have ho : A.opened < 4 := by
    have := h.sa.len
    omega
  obtain ⟨s, hn, ec⟩ := h.sa.open ho
  refine ⟨s, h.sb, h.fst, by rw [ec]; exact h.pab, by rw [ec]; exact h.pba, by rw [ec]; exact h.ba, h.bb, h.kab, ?_, h.va, h.vb⟩
  exact Kn.mono (opened' := A.opened + 1) (Nat.le_succ _) h.kba

theorem CInv.write (h : CInv A B p q F G a b) {n : Int} (hn : n ∈ A.turns) (o : List Int) (hr : (A.ch n).rst = none) (hf : (A.ch n).fin = false) (hl : ((A.ch n).queue.length : Int) + o.length ≤ A.win) :
    CInv (A.set n { A.ch n with queue := (A.ch n).queue ++ o }) B (p.wr n o) q F G a b := by
  have l := h.sa.loc n
  have e1 : (p.wr n o).written n = p.written n ++ o := by simp [Bc.wr]
  refine h.chg (h.sa.chg (c := { A.ch n with queue := (A.ch n).queue ++ o }) hn rfl ⟨l.c0, l.d0, l.dw, ?_, fun z => absurd hr z, l.told, l.code, fun z => ?_⟩) (p' := p.wr n o) (fun m z => ⟨by simp [Bc.wr, z], rfl, rfl, rfl⟩) (fun _ _ => rfl) (fun _ _ => rfl) ⟨(h.ba n).fin, (h.ba n).rst⟩ ?_ ?_ h.kab h.kba h.va h.vb
  · show (((A.ch n).queue ++ o).length : Int) ≤ A.win
    rw [List.length_append]
    omega
  · have := (l.endS z).1
    rw [hf] at this
    cases this
  · rw [e1]
    exact (h.pab n).write l o hr hf
  · exact (h.pba n).r_congr rfl rfl rfl rfl rfl
theorem CInv.read (h : CInv A B p q F G a b) {n : Int} (hn : n ∈ A.turns) (k : Nat) :
    CInv (A.set n { A.ch n with ready := (A.ch n).ready.drop k }) B (p.gv n ((A.ch n).ready.take k)) q F G a b := by
  have l := h.sa.loc n
  have e1 : (p.gv n ((A.ch n).ready.take k)).given n = p.given n ++ (A.ch n).ready.take k := by simp [Bc.gv]
  refine h.chg (h.sa.chg (c := { A.ch n with ready := (A.ch n).ready.drop k }) hn rfl ⟨l.c0, l.d0, ?_, l.qw, fun z => ⟨(l.qr z).1, ?_⟩, l.told, l.code, l.endS⟩) (p' := p.gv n ((A.ch n).ready.take k)) (fun m z => ⟨rfl, by simp [Bc.gv, z], rfl, rfl⟩) (fun _ _ => rfl) (fun _ _ => rfl) ⟨(h.ba n).fin, (h.ba n).rst⟩ ?_ ?_ h.kab h.kba h.va h.vb
  · have := l.dw
    show (A.ch n).due + (((A.ch n).ready.drop k).length : Int) ≤ A.win
    rw [List.length_drop]
    omega
  · show (A.ch n).ready.drop k = []
    rw [(l.qr z).2]
    simp
  · exact (h.pab n).s_congr rfl rfl rfl rfl rfl
  · rw [e1]
    exact (h.pba n).read k
theorem CInv.finish (h : CInv A B p q F G a b) {n : Int} (hn : n ∈ A.turns) : CInv (A.set n { A.ch n with fin := true }) B (p.fi n) q F G a b := by
  have l := h.sa.loc n
  have e1 : (p.fi n).fin n = true := by simp [Bc.fi]
  refine h.chg (h.sa.chg (c := { A.ch n with fin := true }) hn rfl ⟨l.c0, l.d0, l.dw, l.qw, l.qr, l.told, l.code, fun z => ⟨rfl, (l.endS z).2⟩⟩) (p' := p.fi n) (fun m z => ⟨rfl, rfl, by simp [Bc.fi, z], rfl⟩) (fun _ _ => rfl) (fun _ _ => rfl) ⟨e1.symm, (h.ba n).rst⟩ ?_ ?_ h.kab h.kba h.va h.vb
  · exact (h.pab n).s_congr rfl rfl rfl rfl rfl
  · exact (h.pba n).r_congr rfl rfl rfl rfl rfl
theorem CInv.reset (h : CInv A B p q F G a b) {n k : Int} (hn : n ∈ A.turns) (hr : (A.ch n).rst = none) (hk : 0 ≤ k ∧ k ≤ 65535) : CInv (A.set n (dropAll (A.ch n) true k)) B (p.rs n k) q F G a b := by
  have l := h.sa.loc n
  have e1 : (p.rs n k).resets n = some k := by simp [Bc.rs]
  refine h.chg (h.sa.chg (c := dropAll (A.ch n) true k) hn rfl ⟨l.c0, l.d0, ?_, ?_, fun _ => ⟨rfl, rfl⟩, fun z => ?_, fun b k' z => ?_, fun z => ⟨(l.endS z).1, rfl⟩⟩) (p' := p.rs n k) (fun m z => ⟨rfl, rfl, rfl, by simp [Bc.rs, z]⟩) (fun _ _ => rfl) (fun _ _ => rfl) ⟨(h.ba n).fin, fun k' z => ?_⟩ ((h.pab n).reset_s l k hr) ((h.pba n).reset_r k hr) h.kab h.kba h.va h.vb
  · have := l.dw
    show (A.ch n).due + (([] : List Int).length : Int) ≤ A.win
    simp
    omega
  · have := h.sa.w1
    show (([] : List Int).length : Int) ≤ A.win
    simp
    omega
  · obtain ⟨k', z⟩ := l.told z
    rw [hr] at z
    cases z
  · simp [dropAll] at z
    omega
  · simp [dropAll] at z
    rw [e1, z]

/-! ### what the law asks at every moment -/
theorem CInv.prefix (h : CInv A B p q F G a b) (n : Int) : ∃ x, p.written n = q.given n ++ (B.ch n).ready ++ x := by
  obtain ⟨x, e, _⟩ := (h.pab n).dat
  exact ⟨x, e⟩
theorem CInv.at_end (h : CInv A B p q F G a b) {n : Int} (h1 : (B.ch n).rst = none) (h2 : (B.ch n).endC = true) (h3 : (B.ch n).ready = []) : q.given n = p.written n ∧ p.fin n = true := by
  have P := h.pab n
  have es := P.finL (.inl h2)
  obtain ⟨ef, eq⟩ := (h.sa.loc n).endS es
  refine ⟨?_, by rw [← (h.ba n).fin]; exact ef⟩
  obtain ⟨x, e1, e2⟩ := P.dat
  obtain ⟨y, e3, e4⟩ := e2 h1
  have g := P.good
  rw [h2] at g
  have e5 := e4 (.inr es)
  rw [e1, e3, e5, eq, good_true g, h3]
  simp
theorem CInv.there (h : CInv A B p q F G a b) {n k : Int} (h1 : (B.ch n).rst = some (false, k)) : p.resets n = some k := (h.ba n).rst k ((h.pab n).noth k h1).2.1
theorem CInv.here (h : CInv A B p q F G a b) {n k : Int} (h1 : (A.ch n).rst = some (true, k)) : p.resets n = some k := (h.ba n).rst k h1
end Thl

/-! How much can still go; rows of frames; the end. -/
namespace Thl

def chs : List Int := [1, 2, 3, 4, 5, 6, 7, 8]
theorem chs_mem {n : Int} (h : 1 ≤ n ∧ n ≤ 8) : n ∈ chs := by
  have : n = 1 ∨ n = 2 ∨ n = 3 ∨ n = 4 ∨ n = 5 ∨ n = 6 ∨ n = 7 ∨ n = 8 := by omega
  rcases this with h | h | h | h | h | h | h | h <;> subst h <;> decide
def sumZ (f : Int → Int) : List Int → Int
  | [] => 0
  | a :: l => f a + sumZ f l
theorem sumZ_le {f g : Int → Int} : ∀ {l : List Int}, (∀ m ∈ l, f m ≤ g m) → sumZ f l ≤ sumZ g l
  | [], _ => Int.le_refl 0
  | a :: l, h => by
    have h1 := h a List.mem_cons_self
    have h2 := sumZ_le (l := l) fun m hm => h m (List.mem_cons_of_mem _ hm)
    simp only [sumZ]
    omega
theorem sumZ_lt {f g : Int → Int} {n k : Int} : ∀ {l : List Int}, n ∈ l → (∀ m ∈ l, f m ≤ g m) → f n + k ≤ g n → sumZ f l + k ≤ sumZ g l
  | [], hn, _, _ => by simp at hn
  | a :: l, hn, h, hk => by
    have h1 := h a List.mem_cons_self
    have hl := fun m hm => h m (List.mem_cons_of_mem _ hm)
    simp only [sumZ]
    rcases List.mem_cons.mp hn with e | hn
    · subst e
      have h2 := sumZ_le (l := l) hl
      omega
    · have h2 := sumZ_lt (l := l) hn hl hk
      omega
theorem sumZ_const {f : Int → Int} {c : Int} : ∀ {l : List Int}, (∀ m ∈ l, f m ≤ c) → sumZ f l ≤ l.length * c
  | [], _ => by simp [sumZ]
  | a :: l, h => by
    have h1 := h a List.mem_cons_self
    have h2 := sumZ_const (l := l) fun m hm => h m (List.mem_cons_of_mem _ hm)
    simp only [sumZ, List.length_cons]
    have : ((l.length + 1 : Nat) : Int) * c = l.length * c + c := by
      rw [Int.natCast_add, Int.add_mul]
      simp
    omega
theorem sumZ_nonneg {f : Int → Int} : ∀ {l : List Int}, (∀ m ∈ l, 0 ≤ f m) → 0 ≤ sumZ f l
  | [], _ => Int.le_refl 0
  | a :: l, h => by
    have h1 := h a List.mem_cons_self
    have h2 := sumZ_nonneg (l := l) fun m hm => h m (List.mem_cons_of_mem _ hm)
    simp only [sumZ]
    omega

def bi (b : Bool) : Int := if b = true then 0 else 1
theorem bi_bd (b : Bool) : 0 ≤ bi b ∧ bi b ≤ 1 := by cases b <;> simp [bi]
@[simp] theorem bi_true : bi true = 0 := rfl
@[simp] theorem bi_false : bi false = 1 := rfl

/-! ### one side alone: how many octets its frames can have before anything comes -/
def beta1 (w : Int) (c : Ch) : Int := 3 * bi c.ann + 5 * bi c.told + 5 * (w - c.due - c.ready.length) + 6 * c.queue.length + 3 * bi c.endS
def beta (A : Co) : Int := sumZ (fun n => beta1 A.win (A.ch n)) chs
theorem beta_bd {A : Co} {a : Nat} (h : SInv A a) : 0 ≤ beta A ∧ beta A ≤ 1144 := by
  have hb : ∀ m, 0 ≤ beta1 A.win (A.ch m) ∧ beta1 A.win (A.ch m) ≤ 143 := fun m => by
    have l := h.loc m
    have := l.dw
    have := l.d0
    have := l.qw
    have := h.w12
    have := bi_bd (A.ch m).ann
    have := bi_bd (A.ch m).told
    have := bi_bd (A.ch m).endS
    unfold beta1
    constructor <;> omega
  constructor
  · exact sumZ_nonneg fun m _ => (hb m).1
  · have := sumZ_const (f := fun n => beta1 A.win (A.ch n)) (c := 143) (l := chs) fun m _ => (hb m).2
    exact this
theorem beta_next {A A' : Co} {a : Nat} {f : Fr} (h : SInv A a) (hn : Next A f A') : beta A' + (enc f).length ≤ beta A := by
  have chg : ∀ (n : Int) (c : Ch) (k : Int), n ∈ A.turns → 0 ≤ k → beta1 A.win c + k ≤ beta1 A.win (A.ch n) → beta (A.set n c) + k ≤ beta A := by
    intro n c k hn hk hc
    refine sumZ_lt (n := n) (chs_mem (h.bound hn)) (fun m _ => ?_) ?_
    · show beta1 A.win ((A.set n c).ch m) ≤ _
      by_cases e : m = n
      · subst e
        rw [Co.set_same]
        omega
      · rw [Co.set_ne _ _ e]
        exact Int.le_refl _
    · show beta1 A.win ((A.set n c).ch n) + k ≤ _
      rw [Co.set_same]
      exact hc
  rw [enc_len]
  cases hn with
  | opn n hn ha hf =>
    refine chg n _ 3 hn (by omega) ?_
    simp [beta1, ha]
    omega
  | rst n k hn hall hr ht =>
    refine chg n _ 5 hn (by omega) ?_
    simp [beta1, ht]
    omega
  | per n m hn hall hr he hm ho =>
    refine chg n _ 5 hn (by omega) ?_
    simp [beta1]
    omega
  | snd n hn hall hh =>
    obtain ⟨l, hr, hq1, hq2⟩ := (h.loc n).sendC h.m1 hh
    show beta (A.set n (sendC A.most (A.ch n))) + _ ≤ _
    by_cases hq : (A.ch n).queue = []
    · have e1 : sendC A.most (A.ch n) = { A.ch n with endS := true } := by simp [sendC, hq]
      have e2 : sendF A.most n (A.ch n) = .fin n := by simp [sendF, hq]
      rw [e1, e2]
      refine chg n _ 3 hn (by omega) ?_
      simp [beta1, (hq1 hq).1]
    · obtain ⟨k1, k2, k3, k4⟩ := cnt_pos h.m1 (hq2 hq) hq
      have e1 : sendC A.most (A.ch n) = { A.ch n with queue := (A.ch n).queue.drop (cnt A.most (A.ch n)).toNat, credit := (A.ch n).credit - cnt A.most (A.ch n) } := by simp [sendC, hq]
      have e2 : sendF A.most n (A.ch n) = .oct n ((A.ch n).queue.take (cnt A.most (A.ch n)).toNat) := by simp [sendF, hq]
      rw [e1, e2]
      have := chg n { A.ch n with queue := (A.ch n).queue.drop (cnt A.most (A.ch n)).toNat, credit := (A.ch n).credit - cnt A.most (A.ch n) } (5 + cnt A.most (A.ch n)) hn (by omega) (by
        simp [beta1]
        omega)
      have e3 : ((5 + ((A.ch n).queue.take (cnt A.most (A.ch n)).toNat).length : Nat) : Int) = 5 + cnt A.most (A.ch n) := by
        rw [List.length_take]
        omega
      show _ + ((5 + ((A.ch n).queue.take (cnt A.most (A.ch n)).toNat).length : Nat) : Int) ≤ _
      rw [e3]
      exact this

/-- frames that go, in this order -/
inductive Makes (A : Co) : List Fr → Co → Prop where
  | nil : Makes A [] A
  | snoc {fs : List Fr} {A1 A2 : Co} {f : Fr} (h : Makes A fs A1) (hn : nextFr A1 = some (f, A2)) : Makes A (fs ++ [f]) A2
theorem SInv.makes {A A' : Co} {a : Nat} {fs : List Fr} (h : SInv A a) (m : Makes A fs A') : ∃ a', SInv A' a' ∧ beta A' + (encs fs).length ≤ beta A := by
  induction m with
  | nil => exact ⟨a, h, by simp [encs]⟩
  | snoc _ hn ih =>
    obtain ⟨a1, s1, b1⟩ := ih
    obtain ⟨a2, s2⟩ := s1.next (next_of hn)
    have b2 := beta_next s1 (next_of hn)
    refine ⟨a2, s2, ?_⟩
    rw [encs_append, encs_one, List.length_append]
    omega
theorem next_same {A A' : Co} {f : Fr} (h : Next A f A') : A'.win = A.win ∧ A'.most = A.most ∧ A'.first = A.first ∧ A'.nums = A.nums := by
  cases h <;> exact ⟨rfl, rfl, rfl, rfl⟩
theorem makes_same {A A' : Co} {fs : List Fr} (m : Makes A fs A') : A'.win = A.win ∧ A'.most = A.most ∧ A'.first = A.first ∧ A'.nums = A.nums := by
  induction m with
  | nil => exact ⟨rfl, rfl, rfl, rfl⟩
  | snoc _ hn ih =>
    obtain ⟨e1, e2, e3, e4⟩ := next_same (next_of hn)
    exact ⟨e1.trans ih.1, e2.trans ih.2.1, e3.trans ih.2.2.1, e4.trans ih.2.2.2⟩

/-! ### both sides: how many frames can still go -/
def phi1 (wr : Int) (s r : Ch) (L : List Fr) : Int := wr - r.due + (octs L).length + 2 * s.queue.length + bi s.ann + bi s.endS + bi s.told
def phi2 (A B : Co) (F G : List Fr) (n : Int) : Int := phi1 B.win (A.ch n) (B.ch n) (chF n F) + phi1 A.win (B.ch n) (A.ch n) (chF n G)
def Phi (A B : Co) (F G : List Fr) : Int := sumZ (phi2 A B F G) chs
theorem phi2_symm (A B : Co) (F G : List Fr) (n : Int) : phi2 A B F G n = phi2 B A G F n := Int.add_comm _ _
theorem Phi_symm (A B : Co) (F G : List Fr) : Phi A B F G = Phi B A G F := by
  unfold Phi
  have : phi2 A B F G = phi2 B A G F := funext fun n => phi2_symm A B F G n
  rw [this]

variable {A B A' B' : Co} {p q p' q' : Bc} {F G F' G' : List Fr} {a b : Nat}
theorem CInv.phi_bd (h : CInv A B p q F G a b) : 0 ≤ Phi A B F G ∧ Phi A B F G ≤ 624 := by
  have hb : ∀ m, 0 ≤ phi2 A B F G m ∧ phi2 A B F G m ≤ 78 := fun m => by
    have := (h.sa.loc m).dw
    have := (h.sa.loc m).qw
    have := (h.sa.loc m).c0
    have := (h.sa.loc m).d0
    have := (h.sb.loc m).dw
    have := (h.sb.loc m).qw
    have := (h.sb.loc m).c0
    have := (h.sb.loc m).d0
    have := h.sa.w12
    have := h.sb.w12
    have := (h.pab m).crd
    have := (h.pba m).crd
    have := bi_bd (A.ch m).ann
    have := bi_bd (A.ch m).told
    have := bi_bd (A.ch m).endS
    have := bi_bd (B.ch m).ann
    have := bi_bd (B.ch m).told
    have := bi_bd (B.ch m).endS
    unfold phi2 phi1
    constructor <;> omega
  constructor
  · exact sumZ_nonneg fun m _ => (hb m).1
  · have := sumZ_const (f := phi2 A B F G) (c := 78) (l := chs) fun m _ => (hb m).2
    exact this

theorem Phi_chg {n k : Int} (hn : 1 ≤ n ∧ n ≤ 8) (hk : 0 ≤ k) (h : ∀ m, m ≠ n → phi2 A' B F' G' m = phi2 A B F G m) (hc : phi2 A' B F' G' n + k ≤ phi2 A B F G n) : Phi A' B F' G' + k ≤ Phi A B F G := by
  refine sumZ_lt (n := n) (chs_mem hn) (fun m _ => ?_) hc
  by_cases e : m = n
  · subst e
    omega
  · rw [h m e]
    exact Int.le_refl _

theorem CInv.phi_next {f : Fr} (h : CInv A B p q F G a b) (hn : Next A f A') : Phi A' B (F ++ [f]) G + 1 ≤ Phi A B F G := by
  have chg : ∀ (n : Int) (c : Ch) (f : Fr), n ∈ A.turns → f.chan = n → phi1 B.win c (B.ch n) (chF n (F ++ [f])) + phi1 A.win (B.ch n) c (chF n G) + 1 ≤ phi2 A B F G n → Phi (A.set n c) B (F ++ [f]) G + 1 ≤ Phi A B F G := by
    intro n c f hn hf hc
    refine Phi_chg (n := n) (h.sa.bound hn) (by omega) (fun m e => ?_) ?_
    · unfold phi2
      rw [Co.set_ne _ _ e, chF_append, chF_one_ne (by rw [hf]; exact fun q => e q.symm), List.append_nil]
      rfl
    · unfold phi2
      rw [Co.set_same]
      exact hc
  cases hn with
  | opn n hn ha hf =>
    refine chg n _ _ hn rfl ?_
    have e1 : chF n (F ++ [Fr.opn n]) = chF n F := by rw [chF_append, chF_opn]; simp [chF]
    rw [e1]
    simp [phi2, phi1, ha]
    omega
  | rst n k hn hall hr ht =>
    refine chg n _ (.rst n k) hn rfl ?_
    have e1 : chF n (F ++ [Fr.rst n k]) = chF n F ++ [Fr.rst n k] := by rw [chF_append, chF_one (f := .rst n k) (n := n) rfl rfl]
    have eo : octs (chF n F ++ [Fr.rst n k]) = octs (chF n F) := by simp [octs_append, octs]
    rw [e1]
    simp [phi2, phi1, ht, eo]
    omega
  | per n m hn hall hr he hm ho =>
    refine chg n _ (.per n m) hn rfl ?_
    have e1 : chF n (F ++ [Fr.per n m]) = chF n F ++ [Fr.per n m] := by rw [chF_append, chF_one (f := .per n m) (n := n) rfl rfl]
    have eo : octs (chF n F ++ [Fr.per n m]) = octs (chF n F) := by simp [octs_append, octs]
    rw [e1]
    simp [phi2, phi1, eo]
    omega
  | snd n hn hall hh =>
    obtain ⟨l, hr, hq1, hq2⟩ := (h.sa.loc n).sendC h.sa.m1 hh
    have ec : (sendF A.most n (A.ch n)).chan = n := by
      unfold sendF
      split <;> rfl
    show Phi (A.set n (sendC A.most (A.ch n))) B (F ++ [sendF A.most n (A.ch n)]) G + 1 ≤ _
    refine chg n _ _ hn ec ?_
    by_cases hq : (A.ch n).queue = []
    · have e1 : sendC A.most (A.ch n) = { A.ch n with endS := true } := by simp [sendC, hq]
      have e2 : sendF A.most n (A.ch n) = .fin n := by simp [sendF, hq]
      have e3 : chF n (F ++ [Fr.fin n]) = chF n F ++ [Fr.fin n] := by rw [chF_append, chF_one (f := .fin n) (n := n) rfl rfl]
      have eo : octs (chF n F ++ [Fr.fin n]) = octs (chF n F) := by simp [octs_append, octs]
      rw [e1, e2, e3]
      simp [phi2, phi1, eo, (hq1 hq).1]
      omega
    · obtain ⟨k1, k2, k3, k4⟩ := cnt_pos h.sa.m1 (hq2 hq) hq
      have e1 : sendC A.most (A.ch n) = { A.ch n with queue := (A.ch n).queue.drop (cnt A.most (A.ch n)).toNat, credit := (A.ch n).credit - cnt A.most (A.ch n) } := by simp [sendC, hq]
      have e2 : sendF A.most n (A.ch n) = .oct n ((A.ch n).queue.take (cnt A.most (A.ch n)).toNat) := by simp [sendF, hq]
      have e3 : chF n (F ++ [sendF A.most n (A.ch n)]) = chF n F ++ [sendF A.most n (A.ch n)] := by
        rw [e2, chF_append, chF_one (n := n) rfl rfl]
      have eo : ((octs (chF n F ++ [sendF A.most n (A.ch n)])).length : Int) = (octs (chF n F)).length + cnt A.most (A.ch n) := by
        rw [e2, octs_append]
        simp [octs]
        omega
      rw [e3]
      unfold phi1
      rw [eo, e1]
      simp [phi2, phi1]
      omega

theorem CInv.phi_recv {g : Fr} (h : CInv A B p q F (g :: G) a b) : Phi (recvF A g) B F G ≤ Phi A B F (g :: G) := by
  have main : ∀ (n : Int), g.isOpn = false → g.chan = n → n ∈ A.turns → Phi (A.set n (takeF (A.ch n) g)) B F G ≤ Phi A B F (g :: G) := by
    intro n ho hc hn
    have e1 : chF n (g :: G) = g :: chF n G := chF_same G ho hc
    have := Phi_chg (A := A) (A' := A.set n (takeF (A.ch n) g)) (B := B) (F := F) (F' := F) (G := g :: G) (G' := G) (n := n) (k := 0) (h.sa.bound hn) (Int.le_refl 0) (fun m z => by
      unfold phi2
      rw [Co.set_ne _ _ z, chF_ne G (by rw [hc]; exact fun q => z q.symm)]
      rfl) (by
      unfold phi2
      rw [Co.set_same, e1]
      show phi1 B.win (takeF (A.ch n) g) (B.ch n) (chF n F) + phi1 A.win (B.ch n) (takeF (A.ch n) g) (chF n G) + 0 ≤ phi1 B.win (A.ch n) (B.ch n) (chF n F) + phi1 A.win (B.ch n) (A.ch n) (g :: chF n G)
      unfold takeF
      split
      · unfold phi1
        have : (octs (g :: chF n G)).length ≥ (octs (chF n G)).length := by
          cases g <;> simp [octs]
        omega
      · cases g with
        | opn x => cases ho
        | oct x d =>
          simp [phi1, octs]
          omega
        | per x m => simp [phi1, octs]
        | fin x => simp [phi1, octs]
        | rst x k =>
          simp [phi1, octs, dropAll]
          omega)
    omega
  obtain ⟨gd, _⟩ := h.recv
  cases g with
  | oct x d => exact main x rfl rfl gd.1
  | per x d => exact main x rfl rfl gd.1
  | fin x => exact main x rfl rfl gd.1
  | rst x d => exact main x rfl rfl gd.1
  | opn x =>
    obtain ⟨_, c⟩ := h.recv
    have hx : x ∈ (recvF A (.opn x)).turns := List.mem_append.mpr (.inr (List.mem_singleton.mpr rfl))
    have hn : x ∉ A.turns := by
      have hc : A.came < 4 := by
        have := h.kba.2.le
        have := h.sb.ao
        have := h.sb.o4
        omega
      have := (h.sa.come hc).2
      rw [gd.2]
      exact this
    have e0 : A.ch x = Ch.new false := h.sa.unk x hn
    have := Phi_chg (A := A) (A' := recvF A (.opn x)) (B := B) (F := F) (F' := F) (G := .opn x :: G) (G' := G) (n := x) (k := 0) (c.sa.bound hx) (Int.le_refl 0) (fun m z => by
      have e1 : (recvF A (.opn x)).ch m = A.ch m := by
        show (if m = x then _ else _) = _
        rw [if_neg z]
      unfold phi2
      rw [chF_opn, e1]
      rfl) (by
      have e2 : (recvF A (.opn x)).ch x = Ch.new true := by
        show (if x = x then _ else _) = _
        rw [if_pos rfl]
      unfold phi2
      rw [chF_opn, e2, e0]
      show phi1 B.win (Ch.new true) (B.ch x) (chF x F) + phi1 A.win (B.ch x) (Ch.new true) (chF x G) + 0 ≤ _
      simp [phi1, Ch.new]
      omega)
    omega

theorem CInv.makes {fs : List Fr} (h : CInv A B p q F G a b) (m : Makes A fs A') : ∃ a', CInv A' B p q (F ++ fs) G a' b ∧ Phi A' B (F ++ fs) G + fs.length ≤ Phi A B F G := by
  induction m with
  | nil => exact ⟨a, by rw [List.append_nil]; exact h, by simp⟩
  | snoc _ hn ih =>
    obtain ⟨a1, c1, f1⟩ := ih
    obtain ⟨a2, c2, _⟩ := c1.next (next_of hn)
    have f2 := c1.phi_next (next_of hn)
    rw [← List.append_assoc]
    refine ⟨a2, c2, ?_⟩
    rw [List.length_append, List.length_singleton]
    omega

/-- frames that come, in this order, and nothing is wrong -/
inductive Recvs : Co → List Fr → Co → Prop where
  | nil {B : Co} : Recvs B [] B
  | cons {B B' : Co} {f : Fr} {l : List Fr} (s : ∃ b, SInv B b) (v : VF f) (g : GoodF B f) (h : Recvs (recvF B f) l B') : Recvs B (f :: l) B'
theorem recvs_nil (h : Recvs A [] A') : A' = A := by cases h; rfl
theorem recvF_same (A : Co) (f : Fr) : (recvF A f).win = A.win ∧ (recvF A f).most = A.most ∧ (recvF A f).first = A.first := by cases f <;> exact ⟨rfl, rfl, rfl⟩
theorem recvs_same {l : List Fr} (h : Recvs A l A') : A'.win = A.win ∧ A'.most = A.most ∧ A'.first = A.first := by
  induction h with
  | nil => exact ⟨rfl, rfl, rfl⟩
  | cons _ _ _ _ ih =>
    obtain ⟨e1, e2, e3⟩ := recvF_same _ _
    exact ⟨ih.1.trans e1, ih.2.1.trans e2, ih.2.2.trans e3⟩
theorem CInv.recvs : ∀ {G1 : List Fr} {A : Co}, CInv A B p q F (G1 ++ G) a b → ∃ A', Recvs A G1 A' ∧ CInv A' B p q F G a b ∧ Phi A' B F G ≤ Phi A B F (G1 ++ G)
  | [], A, h => ⟨A, .nil, h, Int.le_refl _⟩
  | g :: G1, A, h => by
    have h : CInv A B p q F (g :: (G1 ++ G)) a b := h
    obtain ⟨gd, c⟩ := h.recv
    have f1 := h.phi_recv
    obtain ⟨A', r, c', f2⟩ := CInv.recvs c
    refine ⟨A', .cons ⟨a, h.sa⟩ (h.vb g List.mem_cons_self) gd r, c', ?_⟩
    show _ ≤ Phi A B F (g :: (G1 ++ G))
    omega

/-- a frame under way is short -/
theorem octs_mem {n : Int} {d : List Int} : ∀ {F : List Fr}, Fr.oct n d ∈ F → d.length ≤ (octs (chF n F)).length
  | f :: F, h => by
    rcases List.mem_cons.mp h with e | h
    · subst e
      rw [chF_same (f := .oct n d) (n := n) F rfl rfl]
      simp [octs]
    · have ih := octs_mem (F := F) h
      by_cases e : f.isOpn = false ∧ f.chan = n
      · rw [chF_same F e.1 e.2]
        cases f <;> simp [octs] <;> omega
      · have : chF n (f :: F) = chF n F := by
          unfold chF
          rw [List.filter_cons, if_neg]
          simp
          intro z1 z2
          exact e ⟨z1, z2⟩
        rw [this]
        exact ih
theorem CInv.short (h : CInv A B p q F G a b) {f : Fr} (hf : f ∈ F) : (enc f).length ≤ 17 := by
  rw [enc_len]
  cases f with
  | oct n d =>
    have := octs_mem hf
    have := (h.pab n).crd
    have := (h.sa.loc n).c0
    have := (h.sb.loc n).dw
    have := h.sb.w12
    show 5 + d.length ≤ 17
    omega
  | opn n => show 3 ≤ 17; omega
  | fin n => show 3 ≤ 17; omega
  | per n m => show 5 ≤ 17; omega
  | rst n m => show 5 ≤ 17; omega

/-! ### nothing is left -/
theorem CInv.settled (h : CInv A B p q [] [] a b) (n1 : nextFr A = none) (n2 : nextFr B = none) : A.nums = B.nums := by
  refine sorted_mem h.sa.srt h.sb.srt fun x => ?_
  rw [h.sa.nm, h.sb.nm, h.sa.mem, h.sb.mem]
  have e1 : B.came = a := h.kab
  have e2 : A.came = b := h.kba
  have all : ∀ {C : Co} {c : Nat}, SInv C c → nextFr C = none → C.opened = c := by
    intro C c s hn
    have z : C.turns.filter (fun n => !(C.ch n).ann) = [] := by
      rw [List.filter_eq_nil_iff]
      intro m hm
      simp [(next_none hn m hm).1]
    rw [s.una] at z
    have := congrArg List.length z
    simp at this
    have := s.ao
    omega
  have e3 := all h.sa n1
  have e4 := all h.sb n2
  rw [e3, e4, e1, e2, h.fst, Bool.not_not]
  exact ⟨Or.symm, Or.symm⟩
theorem CInv.both (h : CInv A B p q [] [] a b) (n1 : nextFr A = none) {n : Int} (hn : n ∈ A.turns) (hr : (A.ch n).rst ≠ none) : (B.ch n).rst ≠ none := by
  obtain ⟨_, x2, _, _⟩ := next_none n1 n hn
  cases e : (A.ch n).rst with
  | none => exact absurd e hr
  | some bk =>
    obtain ⟨b', k⟩ := bk
    cases b' with
    | true =>
      have ht : (A.ch n).told = true := by
        unfold untold at x2
        rw [e] at x2
        cases q : (A.ch n).told with
        | true => rfl
        | false => simp [q] at x2
      rcases (h.pab n).toldL ht with ⟨c, k, z⟩ | z
      · simp [chF] at z
      · exact z
    | false =>
      have := ((h.pba n).noth k e).2.1
      rw [this]
      exact fun z => nomatch z
theorem CInv.whole (h : CInv A B p q [] [] a b) (n1 : nextFr A = none) (n2 : nextFr B = none) (hB : ∀ n ∈ B.turns, (B.ch n).ready = []) {n : Int} (ha : n ∈ A.turns) (hb : n ∈ B.turns) (r1 : (A.ch n).rst = none) (r2 : (B.ch n).rst = none) :
    (A.ch n).queue = [] ∧ q.given n = p.written n ∧ (B.ch n).endC = p.fin n := by
  have P := h.pab n
  have LA := h.sa.loc n
  have LB := h.sb.loc n
  obtain ⟨_, _, _, x4⟩ := next_none n1 n ha
  obtain ⟨_, _, y3, _⟩ := next_none n2 n hb
  have rd := hB n hb
  have hq : (A.ch n).queue = [] := by
    cases hq : (A.ch n).queue with
    | nil => rfl
    | cons z zs =>
      exfalso
      have ne : (A.ch n).queue ≠ [] := by rw [hq]; exact fun q => nomatch q
      have hc : ¬ 0 < (A.ch n).credit := by
        unfold has at x4
        rw [if_neg (by rw [r1]; simp), if_neg ne] at x4
        exact of_decide_eq_false x4
      have hE : (A.ch n).endS = false := by
        cases e : (A.ch n).endS with
        | false => rfl
        | true => exact absurd (LA.endS e).2 ne
      have hC : (B.ch n).endC = false := by
        cases e : (B.ch n).endC with
        | false => rfl
        | true =>
          have := P.finL (.inl e)
          rw [hE] at this
          cases this
      have := LA.c0
      have hd : (B.ch n).due = 0 := by
        have := P.crdE r1 r2
        simp [chF, pers, octs] at this
        omega
      have ho : owes B.win (B.ch n) = B.win := by
        unfold owes
        rw [if_neg (by rw [r2, hC]; simp), hd, rd]
        simp
      unfold wants at y3
      rw [ho] at y3
      have := h.sb.w1
      simp at y3
      omega
  refine ⟨hq, ?_, ?_⟩
  · obtain ⟨x, e1, e2⟩ := P.dat
    obtain ⟨y, e3, e4⟩ := e2 r2
    rw [e1, e3, e4 (.inl r1), hq, rd]
    simp [chF, octs]
  · rw [← (h.ba n).fin]
    cases e : (B.ch n).endC with
    | true => exact ((LA.endS (P.finL (.inl e))).1).symm
    | false =>
      cases ef : (A.ch n).fin with
      | false => rfl
      | true =>
        exfalso
        unfold has at x4
        rw [if_neg (by rw [r1]; simp), if_pos hq, ef] at x4
        simp at x4
        rcases P.endL x4 with z | ⟨c, z⟩ | z
        · rw [e] at z
          cases z
        · simp [chF] at z
        · exact z r2
end Thl

/-! Both sides with what is under way, by turn: false is the first side, true the other. -/
namespace Thl
def up {α : Type} (f : Bool → α) (t : Bool) (x : α) : Bool → α := fun u => if u = t then x else f u
@[simp] theorem up_same {α : Type} (f : Bool → α) (t : Bool) (x : α) : up f t x t = x := if_pos rfl
@[simp] theorem up_not {α : Type} (f : Bool → α) (t : Bool) (x : α) : up f t x (!t) = f (!t) := if_neg (by cases t <;> decide)
@[simp] theorem up_not' {α : Type} (f : Bool → α) (t : Bool) (x : α) : up f (!t) x t = f t := if_neg (by cases t <;> decide)
theorem up_ne {α : Type} (f : Bool → α) {t u : Bool} (x : α) (h : u ≠ t) : up f t x u = f u := if_neg h
theorem bcase (t u : Bool) : u = t ∨ u = !t := by cases t <;> cases u <;> simp

/-- no whole frame -/
def Tail (rest : List Int) : Prop := rest = [] ∨ ∃ g r, VF g ∧ r ≠ [] ∧ enc g = rest ++ r

structure LW where
  c : Bool → Co
  k : Bool → Bc
  wire : Bool → List Int
  out : Bool → List Int
  inc : Bool → List Int

structure WI (W : LW) (F : Bool → List Fr) (a : Bool → Nat) : Prop where
  cinv : ∀ t, CInv (W.c t) (W.c !t) (W.k t) (W.k !t) (F t) (F !t) (a t) (a !t)
  str : ∀ t, W.inc (!t) ++ W.wire t ++ W.out t = encs (F t)
  tl : ∀ t, Tail (W.inc t)
theorem cinv_all {c : Bool → Co} {k : Bool → Bc} {F : Bool → List Fr} {a : Bool → Nat} {t : Bool} (h : CInv (c t) (c !t) (k t) (k !t) (F t) (F !t) (a t) (a !t)) : ∀ u, CInv (c u) (c !u) (k u) (k !u) (F u) (F !u) (a u) (a !u) := by
  intro u
  cases t <;> cases u <;> first | exact h | exact h.symm
def LW.phi (W : LW) (F : Bool → List Fr) : Int := Phi (W.c false) (W.c true) (F false) (F true)
theorem LW.phi_at (W : LW) (F : Bool → List Fr) (t : Bool) : W.phi F = Phi (W.c t) (W.c !t) (F t) (F !t) := by
  cases t
  · rfl
  · exact Phi_symm _ _ _ _

variable {W : LW} {F : Bool → List Fr} {a : Bool → Nat} {t : Bool}
/-- one side and its book change, nothing under way does -/
def LW.app (W : LW) (t : Bool) (A : Co) (p : Bc) : LW := { W with c := up W.c t A, k := up W.k t p }
theorem WI.app (h : WI W F a) {A : Co} {p : Bc} (hc : CInv A (W.c !t) p (W.k !t) (F t) (F !t) (a t) (a !t)) : WI (W.app t A p) F a := by
  refine ⟨cinv_all (t := t) ?_, h.str, h.tl⟩
  simp only [LW.app, up_same, up_not]
  exact hc
/-- the side t hands out n octets at most, the frames fs being made -/
def LW.takeW (W : LW) (t : Bool) (A : Co) (fs : List Fr) (n : Nat) : LW :=
  { W with c := up W.c t A, wire := up W.wire t (W.wire t ++ (W.out t ++ encs fs).take n), out := up W.out t ((W.out t ++ encs fs).drop n) }
theorem WI.take (h : WI W F a) {A : Co} {fs : List Fr} (n : Nat) (hm : Makes (W.c t) fs A) : ∃ a', WI (W.takeW t A fs n) (up F t (F t ++ fs)) a' ∧ (W.takeW t A fs n).phi (up F t (F t ++ fs)) + fs.length ≤ W.phi F := by
  obtain ⟨a', c', f'⟩ := (h.cinv t).makes hm
  refine ⟨up a t a', ⟨cinv_all (t := t) ?_, fun u => ?_, h.tl⟩, ?_⟩
  · simp only [LW.takeW, up_same, up_not]
    exact c'
  · rcases bcase t u with e | e
    · subst e
      simp only [LW.takeW, up_same, encs_append]
      rw [← h.str u]
      simp
    · subst e
      simp only [LW.takeW, up_not]
      exact h.str (!t)
  · rw [LW.phi_at _ _ t, LW.phi_at _ _ t]
    simp only [LW.takeW, up_same, up_not]
    exact f'
/-- n octets at most come to the other side: the frames fs, and a rest that is no whole frame -/
def LW.moveW (W : LW) (t : Bool) (B : Co) (rest : List Int) (n : Nat) : LW := { W with c := up W.c (!t) B, wire := up W.wire t ((W.wire t).drop n), inc := up W.inc (!t) rest }
theorem WI.move (h : WI W F a) (n : Nat) : ∃ (fs G : List Fr) (rest : List Int) (B : Co), W.inc (!t) ++ (W.wire t).take n = encs fs ++ rest ∧ Tail rest ∧ Recvs (W.c !t) fs B ∧ F t = fs ++ G ∧ WI (W.moveW t B rest n) (up F t G) a ∧
    (W.moveW t B rest n).phi (up F t G) ≤ W.phi F ∧ rest.length ≤ 17 ∧ ((W.wire t).drop n = [] → W.out t = [] → G = [] ∧ rest = []) := by
  obtain ⟨fs, G, rest, e1, e2, e3, e4, e5⟩ := split_pre (F t) (W.inc (!t) ++ (W.wire t).take n) ((W.wire t).drop n ++ W.out t) (by rw [← h.str t, List.append_assoc, List.append_assoc, ← List.append_assoc (List.take n (W.wire t)), List.take_append_drop])
  have ci := (h.cinv t).symm
  rw [e1] at ci
  obtain ⟨B, hr, cB, fB⟩ := ci.recvs
  have hv : ∀ g ∈ F t, VF g := (h.cinv t).va
  have ht : Tail rest := by
    cases G with
    | nil => exact .inl (e4 rfl)
    | cons g G' =>
      obtain ⟨r, hr, er⟩ := e5 g G' rfl
      exact .inr ⟨g, r, hv g (by rw [e1]; simp), hr, er⟩
  refine ⟨fs, G, rest, B, e2, ht, hr, e1, ⟨cinv_all (t := !t) ?_, fun u => ?_, fun u => ?_⟩, ?_, ?_, fun z1 z2 => ?_⟩
  · simp only [LW.moveW, up_same, Bool.not_not, up_not', up_not]
    exact cB
  · rcases bcase t u with e | e
    · subst e
      simp only [LW.moveW, up_same]
      rw [← e3]
      simp
    · subst e
      have := h.str (!t)
      rw [Bool.not_not] at this
      simp only [LW.moveW, Bool.not_not, up_not, up_not']
      exact this
  · rcases bcase t u with e | e
    · subst e
      simp only [LW.moveW, up_not']
      exact h.tl u
    · subst e
      simp only [LW.moveW, up_same]
      exact ht
  · rw [LW.phi_at _ _ (!t), LW.phi_at _ _ (!t)]
    simp only [LW.moveW, up_same, Bool.not_not, up_not', up_not, e1]
    exact fB
  · cases G with
    | nil =>
      rw [e4 rfl]
      exact Nat.zero_le _
    | cons g G' =>
      obtain ⟨r, hr, er⟩ := e5 g G' rfl
      have := (h.cinv t).short (f := g) (by rw [e1]; simp)
      have := congrArg List.length er
      rw [List.length_append] at this
      omega
  · rw [z1, z2, List.append_nil] at e3
    cases G with
    | nil => exact ⟨rfl, e4 rfl⟩
    | cons g G' =>
      exfalso
      obtain ⟨r, hr, er⟩ := e5 g G' rfl
      have := congrArg List.length e3
      rw [encs_cons] at this
      simp at this
      have := congrArg List.length er
      rw [List.length_append] at this
      have : r.length ≠ 0 := by simpa using hr
      omega
theorem recvs_tail {B B' : Co} {rest rest' : List Int} {fs : List Fr} (ht : Tail rest) (e : rest = encs fs ++ rest') (hr : Recvs B fs B') : fs = [] := by
  cases hr with
  | nil => rfl
  | @cons _ _ g gs s v gd h =>
    exfalso
    rw [encs_cons, List.append_assoc] at e
    have pe := parse_enc v (encs gs ++ rest')
    rw [← e] at pe
    rcases ht with z | ⟨g', r, h1, h2, h3⟩
    · rw [z] at pe
      cases pe
    · rw [parse_pre h1 h2 h3] at pe
      cases pe

/-! ### with the sizes; N: how many steps were done; wn: the windows -/
structure WOk (W : LW) (wn : Bool → Int) (N : Nat) : Prop where
  inv : ∃ F a, WI W F a
  wn : ∀ t, (W.c t).win = wn t
  ol : ∀ t, (W.out t).length ≤ 17
  il : ∀ t, (W.inc t).length ≤ 17
  wl : ∀ t, (W.wire t).length ≤ 400 * N
  wr : ∀ t n, ((W.k t).written n).length ≤ 12 * N
theorem WOk.mono {wn : Bool → Int} {N M : Nat} (h : WOk W wn N) (hN : N ≤ M) : WOk W wn M :=
  ⟨h.inv, h.wn, h.ol, h.il, fun t => Nat.le_trans (h.wl t) (Nat.mul_le_mul_left _ hN), fun t n => Nat.le_trans (h.wr t n) (Nat.mul_le_mul_left _ hN)⟩
theorem WOk.take {wn : Bool → Int} {N : Nat} (h : WOk W wn N) {A : Co} {fs : List Fr} {n : Nat} (hn : n ≤ 400) (hm : Makes (W.c t) fs A) (hlast : ∀ gs g, fs = gs ++ [g] → ((W.out t ++ encs gs).length : Int) < n) : WOk (W.takeW t A fs n) wn (N + 1) := by
  obtain ⟨F, a, hi⟩ := h.inv
  obtain ⟨a', hi', _⟩ := hi.take n hm
  refine ⟨⟨_, a', hi'⟩, fun u => ?_, fun u => ?_, h.il, fun u => ?_, fun u m => Nat.le_trans (h.wr u m) (Nat.mul_le_mul_left _ (Nat.le_succ _))⟩
  · rcases bcase t u with e | e
    · subst e
      simp only [LW.takeW, up_same]
      rw [(makes_same hm).1]
      exact h.wn u
    · subst e
      simp only [LW.takeW, up_not]
      exact h.wn _
  · rcases bcase t u with e | e
    · subst e
      simp only [LW.takeW, up_same, List.length_drop]
      rcases List.eq_nil_or_concat fs with z | ⟨gs, g, z⟩
      · subst z
        have := h.ol u
        simp [encs]
        omega
      · rw [List.concat_eq_append] at z
        have h1 := hlast gs g z
        have h2 := (hi'.cinv u).short (f := g) (by simp [z])
        rw [z, encs_append, encs_one, ← List.append_assoc, List.length_append]
        omega
    · subst e
      simp only [LW.takeW, up_not]
      exact h.ol _
  · rcases bcase t u with e | e
    · subst e
      simp only [LW.takeW, up_same, List.length_append, List.length_take]
      have := h.wl u
      omega
    · subst e
      simp only [LW.takeW, up_not]
      have := h.wl (!t)
      omega
theorem WOk.move {wn : Bool → Int} {N : Nat} (h : WOk W wn N) (n : Nat) : ∃ (fs : List Fr) (rest : List Int) (B : Co), W.inc (!t) ++ (W.wire t).take n = encs fs ++ rest ∧ Tail rest ∧ Recvs (W.c !t) fs B ∧ WOk (W.moveW t B rest n) wn N := by
  obtain ⟨F, a, hi⟩ := h.inv
  obtain ⟨fs, G, rest, B, h1, h2, h3, h4, h5, h6, h7, h8⟩ := hi.move (t := t) n
  refine ⟨fs, rest, B, h1, h2, h3, ⟨⟨_, a, h5⟩, fun u => ?_, h.ol, fun u => ?_, fun u => ?_, h.wr⟩⟩
  · rcases bcase t u with e | e
    · subst e
      simp only [LW.moveW, up_not']
      exact h.wn u
    · subst e
      simp only [LW.moveW, up_same]
      rw [(recvs_same h3).1]
      exact h.wn _
  · rcases bcase t u with e | e
    · subst e
      simp only [LW.moveW, up_not']
      exact h.il u
    · subst e
      simp only [LW.moveW, up_same]
      exact h7
  · rcases bcase t u with e | e
    · subst e
      simp only [LW.moveW, up_same, List.length_drop]
      have := h.wl u
      omega
    · subst e
      simp only [LW.moveW, up_not]
      exact h.wl _
theorem WOk.app {wn : Bool → Int} {N : Nat} (h : WOk W wn N) {A : Co} {p : Bc} (hc : ∀ F G a b, CInv (W.c t) (W.c !t) (W.k t) (W.k !t) F G a b → CInv A (W.c !t) p (W.k !t) F G a b) (hw : A.win = (W.c t).win)
    (hl : ∀ n, (p.written n).length ≤ ((W.k t).written n).length + 12) : WOk (W.app t A p) wn (N + 1) := by
  obtain ⟨F, a, hi⟩ := h.inv
  refine ⟨⟨F, a, hi.app (hc _ _ _ _ (hi.cinv t))⟩, fun u => ?_, h.ol, h.il, fun u => Nat.le_trans (h.wl u) (Nat.mul_le_mul_left _ (Nat.le_succ _)), fun u n => ?_⟩
  · rcases bcase t u with e | e
    · subst e
      simp only [LW.app, up_same]
      rw [hw]
      exact h.wn u
    · subst e
      simp only [LW.app, up_not]
      exact h.wn _
  · rcases bcase t u with e | e
    · subst e
      simp only [LW.app, up_same]
      have := hl n
      have := h.wr u n
      omega
    · subst e
      simp only [LW.app, up_not]
      exact Nat.le_trans (h.wr _ n) (Nat.mul_le_mul_left _ (Nat.le_succ _))
theorem WOk.sinv {wn : Bool → Int} {N : Nat} (h : WOk W wn N) (t : Bool) : ∃ a, SInv (W.c t) a := by
  obtain ⟨F, a, hi⟩ := h.inv
  exact ⟨a t, (hi.cinv t).sa⟩
theorem WOk.given {wn : Bool → Int} {N : Nat} (h : WOk W wn N) (t : Bool) (n : Int) : ((W.k t).given n).length + ((W.c t).ch n).ready.length ≤ 12 * N := by
  obtain ⟨F, a, hi⟩ := h.inv
  have := (hi.cinv (!t)).prefix n
  rw [Bool.not_not] at this
  obtain ⟨x, e⟩ := this
  have := congrArg List.length e
  have := h.wr (!t) n
  simp at *
  omega

/-! ### the end -/
def Clean (W : LW) : Prop := ∀ t, W.wire t = [] ∧ W.out t = [] ∧ ∀ n, ((W.c t).ch n).ready = []
def Quiet (W : LW) : Prop := (∃ a, WI W (fun _ => []) a) ∧ (∀ t, nextFr (W.c t) = none) ∧ ∀ t n, ((W.c t).ch n).ready = []
theorem Quiet.nums (h : Quiet W) : (W.c false).nums = (W.c true).nums := by
  obtain ⟨⟨a, hi⟩, h1, h2⟩ := h
  exact (hi.cinv false).settled (h1 false) (h1 true)
theorem read_none {A : Co} {n : Int} {k : Nat} (h : (A.ch n).ready = []) : A.set n { A.ch n with ready := (A.ch n).ready.drop k } = A := by
  have : (A.set n { A.ch n with ready := (A.ch n).ready.drop k }).ch = A.ch := by
    funext m
    by_cases e : m = n
    · subst e
      rw [Co.set_same, h]
      cases q : A.ch m
      rw [q] at h
      simp at h
      rw [h]
      simp
    · rw [Co.set_ne _ _ e]
  cases A
  simp only [Co.set] at this ⊢
  rw [this]
end Thl

/-! Rules for len(o) and for x in o, o an instance with its own __len__ and __iter__. -/
namespace Thl
open PySem PySem.Spec PyProof.Rows L2
/-! ### a promise that knows how large the heap was at the entry -/
structure FnS (P : Program) (w : World) (K : PySem.W.Frag) (mg : Str → Option Value) (base : Heap) (k : Nat) (f : Addr) (fd : FuncData) (ps : List Str) (sp : Nat → Sp) : Prop where
  go : ∀ (A : Around) (fr : List Env) (z : Shared) (H : Hp) (ar : Args) (us : List Value) (vs : List V) (Q : VK) (E : XK), Room k A → Env0 P w K mg base A fr z H → BindsTo z fd ar (ps.zip us) → Vals vs us → vs.length = ps.length → sp z.heap.objs.size vs H Q E →
    codeAny (model P w) A (.call (.ref f) ar) (CR CX0 fr P w H z Q E) z
section
variable {P : Program} {w : World} {K : PySem.W.Frag} {mg : Str → Option Value} {base : Heap}
theorem fns_of {x qual : Str} {st : Stmt} {f : Addr} {fd : FuncData} {N ps : List Str} {k : Nat} {sp : Nat → Sp} (F : Fun K x qual st f fd) (S : FnScope N ps (defScope st))
    (hb : ∀ (cdv : Value) (A : Around) (fr : List Env) (z : Shared) (H : Hp) (vs : List V) (Q : VK) (E : XK), Room k (A.deeper (envOfC qual (defScope st) z.heap.objs.size f cdv)) → sp z.heap.objs.size vs H Q E →
      ∃ t, PSs (cxOf CX0 P w K mg base N qual (defScope st) f cdv A fr z H E) (defBody st) t ∧ t { nx := fun _ H' => Q .non H', rt := Q } (start N vs) H) : FnS P w K mg base (k + 1) f fd ps sp := by
  obtain ⟨oc, od, kV, doc, pm, an, cdv, ct, osl, rfl, lk, hcd⟩ := F.ex
  refine ⟨fun A fr z H ar us vs Q E hr e0 bi r hl hq => ?_⟩
  have kx : K.In z.heap := e0.mod.kin.keeps fun b o q => (e0.bs b o q).1
  have nl : z.heap.NoLimit := e0.mod.nolimit.keeps fun b o q => (e0.bs b o q).1
  refine codeAny_call_function hr.depth (kx _ _ lk) rfl S.co S.gen rfl (PySem.W.codeRec_of kx hcd) (bi _ _ _ _ ?_)
  refine wpAny_newFunctionEnv_cells S.kind (fun ⟨n, v⟩ hy => ?_) fun en hen z1 ic => ?_
  · rcases S.par n (List.of_mem_zip hy).1 with q | q
    · exact .inl q
    · exact .inr ⟨q, PySem.W.cellsFrom_some _ _ _ (.inl q)⟩
  subst hen
  refine ⟨nl.keeps ic.toInCall.keep, codeAny_func ?_⟩
  obtain ⟨t, ht, hq⟩ := hb cdv A fr z H vs Q E (hr.deeper _) hq
  refine wpAny_mono (ht.run [] z1 (start N vs) H _ (inv_start S hr.hd e0 hl r ic) hq) (fun fl z' hs => ?_) fun e z' hs => hs
  cases fl with
  | ret u =>
    obtain ⟨v, σ', H', J, rv, q⟩ := hs
    exact ⟨v, H', J.os, J.bare, J.base, J.hok, rv, q⟩
  | next =>
    obtain ⟨σ', H', J, q⟩ := hs
    exact ⟨V.non, H', J.os, J.bare, J.base, J.hok, rfl, q⟩
  | brk => exact (hs.elim fun _ h => h.elim fun _ h => False.elim h.2)
  | cont => exact (hs.elim fun _ h => h.elim fun _ h => False.elim h.2)
end
section
variable {X : Cx} {CX : CXT} {k : Nat} {f C : Addr} {fd : FuncData} {sp : Sp} {E : XK} {tg e : Expr} {te : TE}
/-- len(o), o with its own __len__ -/
def rLenO (C : Addr) (sp : Sp) (E : XK) : List V → Hp → VK → Prop := fun xs H Q => ∃ a dx fs, xs = [.ref a] ∧ H a = some (.ins C dx fs) ∧ sp [.ref a] H (fun v H' => ∃ n : Int, v = .int n ∧ 0 ≤ n ∧ n < 2 ^ 62 ∧ Q (.int n) H') E
theorem call_lenO (hm : PySem.W.findIn X.K (.ref C) "__len__" = some (some (.ref f))) (hf : PySem.W.isFn X.K (.ref f) = true) (F : FnOk X.prog X.w X.K X.mg X.base CX k f fd ["self"] sp) (hb : Binds X.K fd ["self"] []) (hr : Room (k + 1) X.A) (hx : Passes CX X E) :
    CallR X (.builtin "len") (rLenO C sp E) := by
  intro pins s σ H xs us Q I r h
  obtain ⟨a, dx, fs, rfl, ha, hsp⟩ := h
  obtain ⟨u, rfl, ru⟩ := vals1 r
  cases ru
  obtain ⟨mA, J, _⟩ := ins_get I.hok ha
  obtain ⟨od, J, _⟩ := J.look
  obtain ⟨m, hF⟩ := I.fr
  refine PySem.W.len_K hF I.ok.mod.kin J hm hf ?_
  refine wpAny_call (codeAny_mono (F.run X.A.in1 X.stack s H ⟨[.ref a], []⟩ [.ref a] [.ref a] _ E hr.in1 I.env0.in1 (by simpa using hb s [.ref a] I.kIn rfl) (.cons rfl .nil) hsp) fun r s' hq => ?_)
  cases r with
  | error e => exact hx pins σ H s e s' I hq
  | ok fl =>
    cases fl with
    | ret u =>
      obtain ⟨v, H', I3, rv, n, ev, h0, h1, q⟩ := I.after hq
      subst ev
      obtain ⟨t, rfl⟩ := rv
      exact ⟨⟨h0, by omega⟩, .int n, H', I3.tok _, ⟨_, rfl⟩, q⟩
    | next => exact False.elim hq
    | brk => exact False.elim hq
    | cont => exact False.elim hq
/-- what __iter__ promises: a new iterator over the list that stands at l xs; n: how large the heap was -/
def spIter (C : Addr) (lk : List (Str × V) → Option V) (n : Nat) : Sp := fun vs H Q _ => ∃ (a dx l : Addr) (fs : List (Str × V)) (xs : List V), vs = [.ref a] ∧ H a = some (.ins C dx fs) ∧ lk fs = some (.ref l) ∧ H l = some (.lst xs) ∧
  ∀ it, H it = none → n ≤ it → Q (.ref it) (upd H it (ItO l it 0))
/-- for x in o: over the list that o's __iter__ walks -/
def iOwn (C : Addr) (lk : List (Str × V) → Option V) (te : TE) (K : PySem.W.Frag) : TI := fun σ H R => te σ H fun x H1 => ∃ (a dx l : Addr) (fs : List (Str × V)) (xs : List V), x = .ref a ∧ H1 a = some (.ins C dx fs) ∧ lk fs = some (.ref l) ∧ H1 l = some (.lst xs) ∧ R (Itl K l) H1
theorem pi_own {lk : List (Str × V) → Option V} (hm : PySem.W.findIn X.K (.ref C) "__iter__" = some (some (.ref f))) (hf : PySem.W.isFn X.K (.ref f) = true) (F : FnS X.prog X.w X.K X.mg X.base k f fd ["self"] (spIter C lk)) (hb : Binds X.K fd ["self"] []) (hr : Room k X.A) (he : PE X e te) :
    PI X tg e (iOwn C lk te X.K) := by
  refine ⟨fun pins s σ H R I h => ?_⟩
  refine thn (he.run pins s σ H _ I h) fun v s1 ⟨x, H1, I1, r1, q1⟩ => ?_
  obtain ⟨a, dx, l, fs, xs, rfl, ha, hl, hxs, q⟩ := q1
  cases r1
  obtain ⟨mA, J, _⟩ := ins_get I1.hok ha
  obtain ⟨od, J, _⟩ := J.look
  obtain ⟨m, hF⟩ := I1.fr
  refine PySem.W.owit_iter hF I1.ok.mod.kin J hm hf ?_
  refine wpAny_call (codeAny_mono (F.go X.A X.stack s1 H1 ⟨[.ref a], []⟩ [.ref a] [.ref a] (fun v H' => ∃ it, v = .ref it ∧ H1 it = none ∧ s1.heap.objs.size ≤ it ∧ H' = upd H1 it (ItO l it 0)) E0 hr I1.env0 (by simpa using hb s1 [.ref a] I1.kIn rfl) (.cons rfl .nil) rfl
    ⟨a, dx, l, fs, xs, rfl, ha, hl, hxs, fun it h1 h2 => ⟨it, rfl, h1, h2, rfl⟩⟩) fun r s' hq => ?_)
  cases r with
  | error e => exact False.elim hq
  | ok fl =>
    cases fl with
    | next => exact False.elim hq
    | brk => exact False.elim hq
    | cont => exact False.elim hq
    | ret u =>
      obtain ⟨v, H', I3, rv, it, ev, hn, hy, eH⟩ := I1.after hq
      subst ev
      cases rv
      subst eH
      have hi : (upd H1 it (ItO l it 0)) it = some (ItO l it 0) := upd_same
      have eo := itO_get I3 hi
      have hT : s'.TypeIs (.ref it) "list_iterator" := ⟨_, eo, rfl⟩
      refine wpAny_specialOf (name := Str.ofString "__next__") hT slot_listiter_next.lookup ?_
      have hi' := hi
      unfold ItO at hi'
      have dH : ItX.dropH (upd H1 it (ItO l it 0)) it = H1 := ItX.dropH_upd hn
      have I4 : Inv X pins σ H1 s' := by
        have := ItX.inv_drop I3 hi'
        rw [dH] at this
        exact this
      refine ⟨it, [it], _, _, H1, rfl, I4, turn_list l it, ⟨_, eo, rfl, rfl⟩, fun b hb' => ?_, q⟩
      have e : b = it := by simpa using hb'
      have := ItX.inv_fp I3 hi (Nat.le_trans I1.sz hy)
      rw [dH] at this
      rw [e]
      exact this
end
end Thl

/-! The text by places; who owns which object; what stands at an address; rules in short. -/
namespace Thl
open PySem PySem.Spec PyProof.Rows L2 Evl

/-! ### the text by places -/
def top (i : Nat) : Stmt := PySem.Challenge.pw_throughline_k55_whole_channels_over_any.main.body.getD i (.Pass ⟨0, 0, 0, 0⟩)
abbrev sCh (j : Nat) : Stmt := inClass (top 2) j
abbrev sSd (j : Nat) : Stmt := inClass (top 16) j

/-! ### ghost owners: which thing an object is a part of -/
abbrev Role := Nat × Int × Nat
abbrev Ow := Addr → Role
def tmpR : Role := (9, 0, 0)
def Ow.put (o : Ow) (p : Addr) (r : Role) : Ow := fun b => if b = p then r else o b
theorem put_same {o : Ow} {p : Addr} {r : Role} : o.put p r p = r := if_pos rfl
theorem put_ne {o : Ow} {p b : Addr} {r : Role} (h : b ≠ p) : o.put p r b = o b := if_neg h
theorem ne_rl {o : Ow} {a b : Addr} {r s : Role} (h1 : o a = r) (h2 : o b = s) (h : r ≠ s) : a ≠ b := by
  rintro rfl
  exact h (h1.symm.trans h2)
/-- all that S does not own is as it was -/
def Keep (S : Role → Prop) (o : Ow) (H : Hp) (o' : Ow) (H' : Hp) : Prop := ∀ b x, H b = some x → ¬ S (o b) → H' b = some x ∧ o' b = o b
section
variable {S S' : Role → Prop} {o o' o2 : Ow} {H H' H2 : Hp}
theorem Keep.refl : Keep S o H o H := fun _ _ h _ => ⟨h, rfl⟩
theorem Keep.ex (e : Ex H H') : Keep S o H o H' := fun _ _ h _ => ⟨e _ _ h, rfl⟩
theorem Keep.trans (a : Keep S o H o' H') (b : Keep S o' H' o2 H2) : Keep S o H o2 H2 := fun c x h hs => by
  obtain ⟨h1, e1⟩ := a c x h hs
  obtain ⟨h2, e2⟩ := b c x h1 (by rw [e1]; exact hs)
  exact ⟨h2, e2.trans e1⟩
theorem Keep.mono (k : Keep S o H o' H') (h : ∀ r, S r → S' r) : Keep S' o H o' H' := fun b x e hs => k b x e fun z => hs (h _ z)
/-- a thing of S changes -/
theorem Keep.upd {a : Addr} {x : HO} (k : Keep S o H o' H') (h : ∀ y, H a = some y → S (o a)) : Keep S o H o' (upd H' a x) := fun b y e hs => by
  obtain ⟨e1, e2⟩ := k b y e hs
  have hb : b ≠ a := by
    rintro rfl
    exact hs (h y e)
  exact ⟨(upd_ne hb).trans e1, e2⟩
/-- a new thing is given an owner -/
theorem Keep.own {p : Addr} {r : Role} (k : Keep S o H o' H') (h : H p = none) : Keep S o H (o'.put p r) H' := fun b y e hs => by
  obtain ⟨e1, e2⟩ := k b y e hs
  exact ⟨e1, (put_ne (ne_of_none e h)).trans e2⟩
end
abbrev OfC (i : Nat) (n : Int) : Role → Prop := fun r => r.1 = i ∧ r.2.1 = n ∧ 10 ≤ r.2.2
abbrev OfS (i : Nat) : Role → Prop := fun r => r.1 = i

/-! ### attributes -/
abbrev il (l : List Int) : List V := l.map V.int
def chFs (n a q c f e r d ec rb rt : V) : List (Str × V) := [("number", n), ("announced", a), ("queue", q), ("credit", c), ("finished", f), ("end_sent", e), ("arrived_octets", r), ("due", d), ("end_came", ec), ("reset_by", rb), ("reset_told", rt)]
section
variable {n a q c f e r d ec rb rt v : V}
theorem ch_number : (chFs n a q c f e r d ec rb rt).lookup ("number" : Str) = some n := rfl
theorem ch_announced : (chFs n a q c f e r d ec rb rt).lookup ("announced" : Str) = some a := rfl
theorem ch_queue : (chFs n a q c f e r d ec rb rt).lookup ("queue" : Str) = some q := rfl
theorem ch_credit : (chFs n a q c f e r d ec rb rt).lookup ("credit" : Str) = some c := rfl
theorem ch_finished : (chFs n a q c f e r d ec rb rt).lookup ("finished" : Str) = some f := rfl
theorem ch_end_sent : (chFs n a q c f e r d ec rb rt).lookup ("end_sent" : Str) = some e := rfl
theorem ch_arrived : (chFs n a q c f e r d ec rb rt).lookup ("arrived_octets" : Str) = some r := rfl
theorem ch_due : (chFs n a q c f e r d ec rb rt).lookup ("due" : Str) = some d := rfl
theorem ch_end_came : (chFs n a q c f e r d ec rb rt).lookup ("end_came" : Str) = some ec := rfl
theorem ch_reset_by : (chFs n a q c f e r d ec rb rt).lookup ("reset_by" : Str) = some rb := rfl
theorem ch_reset_told : (chFs n a q c f e r d ec rb rt).lookup ("reset_told" : Str) = some rt := rfl
theorem ch_put_announced : putF "announced" v (chFs n a q c f e r d ec rb rt) = chFs n v q c f e r d ec rb rt := rfl
theorem ch_put_queue : putF "queue" v (chFs n a q c f e r d ec rb rt) = chFs n a v c f e r d ec rb rt := rfl
theorem ch_put_credit : putF "credit" v (chFs n a q c f e r d ec rb rt) = chFs n a q v f e r d ec rb rt := rfl
theorem ch_put_finished : putF "finished" v (chFs n a q c f e r d ec rb rt) = chFs n a q c v e r d ec rb rt := rfl
theorem ch_put_end_sent : putF "end_sent" v (chFs n a q c f e r d ec rb rt) = chFs n a q c f v r d ec rb rt := rfl
theorem ch_put_arrived : putF "arrived_octets" v (chFs n a q c f e r d ec rb rt) = chFs n a q c f e v d ec rb rt := rfl
theorem ch_put_due : putF "due" v (chFs n a q c f e r d ec rb rt) = chFs n a q c f e r v ec rb rt := rfl
theorem ch_put_end_came : putF "end_came" v (chFs n a q c f e r d ec rb rt) = chFs n a q c f e r d v rb rt := rfl
theorem ch_put_reset_by : putF "reset_by" v (chFs n a q c f e r d ec rb rt) = chFs n a q c f e r d ec v rt := rfl
theorem ch_put_reset_told : putF "reset_told" v (chFs n a q c f e r d ec rb rt) = chFs n a q c f e r d ec rb v := rfl
end
def sdFs (f w m fl c n t op cm ac og ic : V) : List (Str × V) := [("first_side", f), ("window", w), ("most", m), ("failure", fl), ("_channels", c), ("_numbers", n), ("_turns", t), ("_opened", op), ("_came", cm), ("_accepted", ac), ("_outgoing", og), ("_incoming", ic)]
section
variable {f w m fl c n t op cm ac og ic v : V}
theorem sd_first : (sdFs f w m fl c n t op cm ac og ic).lookup ("first_side" : Str) = some f := rfl
theorem sd_window : (sdFs f w m fl c n t op cm ac og ic).lookup ("window" : Str) = some w := rfl
theorem sd_most : (sdFs f w m fl c n t op cm ac og ic).lookup ("most" : Str) = some m := rfl
theorem sd_failure : (sdFs f w m fl c n t op cm ac og ic).lookup ("failure" : Str) = some fl := rfl
theorem sd_channels : (sdFs f w m fl c n t op cm ac og ic).lookup ("_channels" : Str) = some c := rfl
theorem sd_numbers : (sdFs f w m fl c n t op cm ac og ic).lookup ("_numbers" : Str) = some n := rfl
theorem sd_turns : (sdFs f w m fl c n t op cm ac og ic).lookup ("_turns" : Str) = some t := rfl
theorem sd_opened : (sdFs f w m fl c n t op cm ac og ic).lookup ("_opened" : Str) = some op := rfl
theorem sd_came : (sdFs f w m fl c n t op cm ac og ic).lookup ("_came" : Str) = some cm := rfl
theorem sd_outgoing : (sdFs f w m fl c n t op cm ac og ic).lookup ("_outgoing" : Str) = some og := rfl
theorem sd_incoming : (sdFs f w m fl c n t op cm ac og ic).lookup ("_incoming" : Str) = some ic := rfl
theorem sd_put_failure : putF "failure" v (sdFs f w m fl c n t op cm ac og ic) = sdFs f w m v c n t op cm ac og ic := rfl
theorem sd_put_numbers : putF "_numbers" v (sdFs f w m fl c n t op cm ac og ic) = sdFs f w m fl c v t op cm ac og ic := rfl
theorem sd_put_turns : putF "_turns" v (sdFs f w m fl c n t op cm ac og ic) = sdFs f w m fl c n v op cm ac og ic := rfl
theorem sd_put_opened : putF "_opened" v (sdFs f w m fl c n t op cm ac og ic) = sdFs f w m fl c n t v cm ac og ic := rfl
theorem sd_put_came : putF "_came" v (sdFs f w m fl c n t op cm ac og ic) = sdFs f w m fl c n t op v ac og ic := rfl
theorem sd_put_outgoing : putF "_outgoing" v (sdFs f w m fl c n t op cm ac og ic) = sdFs f w m fl c n t op cm ac v ic := rfl
theorem sd_put_incoming : putF "_incoming" v (sdFs f w m fl c n t op cm ac og ic) = sdFs f w m fl c n t op cm ac og v := rfl
end

/-! ### what stands at an address -/
def plc (b : Bool) : Str := if b = true then "here" else "there"
def rstV : Option (Bool × Int) → Addr → V
  | none, _ => .non
  | some _, t => .ref t
/-- the channel n of the side i stands at a -/
structure ChAt (C : Addr) (o : Ow) (H : Hp) (i : Nat) (n : Int) (a : Addr) (c : Ch) (dx q r t : Addr) : Prop where
  ob : H a = some (.ins C dx (chFs (.int n) (.bl c.ann) (.ref q) (.int c.credit) (.bl c.fin) (.bl c.endS) (.ref r) (.int c.due) (.bl c.endC) (rstV c.rst t) (.bl c.told)))
  qu : H q = some (.lst (il c.queue))
  rd : H r = some (.lst (il c.ready))
  rs : ∀ b k, c.rst = some (b, k) → H t = some (.tup [.str (plc b), .int k]) ∧ o t = (i, n, 13)
  oa : o a = (i, n, 10)
  oq : o q = (i, n, 11)
  ord : o r = (i, n, 12)
def ChX (C : Addr) (o : Ow) (H : Hp) (i : Nat) (n : Int) (a : Addr) (c : Ch) : Prop := ∃ dx q r t, ChAt C o H i n a c dx q r t
section
variable {C a dx q r t : Addr} {o o' : Ow} {H H' : Hp} {i : Nat} {n : Int} {c : Ch} {S : Role → Prop}
theorem ChAt.keep (h : ChAt C o H i n a c dx q r t) (k : Keep S o H o' H') (hs : ∀ j, 10 ≤ j → ¬ S (i, n, j)) : ChAt C o' H' i n a c dx q r t := by
  have h1 := k _ _ h.ob (by rw [h.oa]; exact hs _ (by decide))
  have h2 := k _ _ h.qu (by rw [h.oq]; exact hs _ (by decide))
  have h3 := k _ _ h.rd (by rw [h.ord]; exact hs _ (by decide))
  refine ⟨h1.1, h2.1, h3.1, fun b j e => ?_, h1.2.trans h.oa, h2.2.trans h.oq, h3.2.trans h.ord⟩
  obtain ⟨x1, x2⟩ := h.rs b j e
  have h4 := k _ _ x1 (by rw [x2]; exact hs _ (by decide))
  exact ⟨h4.1, h4.2.trans x2⟩
theorem ChAt.ex (h : ChAt C o H i n a c dx q r t) (e : Ex H H') : ChAt C o H' i n a c dx q r t := h.keep (S := fun _ => False) (.ex e) fun _ _ => id
theorem ChX.keep (h : ChX C o H i n a c) (k : Keep S o H o' H') (hs : ∀ j, 10 ≤ j → ¬ S (i, n, j)) : ChX C o' H' i n a c := by
  obtain ⟨dx, q, r, t, h⟩ := h
  exact ⟨dx, q, r, t, h.keep k hs⟩
end
/-- a frame stands at p -/
def FrAt (o : Ow) (H : Hp) (p : Addr) : Fr → Prop
  | .opn c => H p = some (.tup [.str "open", .int c]) ∧ o p = tmpR
  | .oct c d => (∃ l, H p = some (.tup [.str "octets", .int c, .ref l]) ∧ H l = some (.lst (il d)) ∧ o l = tmpR) ∧ o p = tmpR
  | .per c m => H p = some (.tup [.str "permit", .int c, .int m]) ∧ o p = tmpR
  | .fin c => H p = some (.tup [.str "end", .int c]) ∧ o p = tmpR
  | .rst c k => H p = some (.tup [.str "reset", .int c, .int k]) ∧ o p = tmpR
theorem FrAt.keep {o o' : Ow} {H H' : Hp} {p : Addr} {f : Fr} {S : Role → Prop} (h : FrAt o H p f) (k : Keep S o H o' H') (hs : ¬ S tmpR) : FrAt o' H' p f := by
  cases f with
  | oct c d =>
    obtain ⟨⟨l, h1, h2, h3⟩, h4⟩ := h
    have k1 := k _ _ h1 (by rw [h4]; exact hs)
    have k2 := k _ _ h2 (by rw [h3]; exact hs)
    exact ⟨⟨l, k1.1, k2.1, k2.2.trans h3⟩, k1.2.trans h4⟩
  | _ =>
    obtain ⟨h1, h4⟩ := h
    have k1 := k _ _ h1 (by rw [h4]; exact hs)
    exact ⟨k1.1, k1.2.trans h4⟩

/-! ### what the top has left -/
def chNames : List Str := ["number", "announced", "queue", "credit", "finished", "end_sent", "arrived_octets", "due", "end_came", "reset_by", "reset_told"]
def sdNames : List Str := ["first_side", "window", "most", "failure", "_channels", "_numbers", "_turns", "_opened", "_came", "_accepted", "_outgoing", "_incoming"]
def frWords : List Str := ["open", "octets", "permit", "end", "reset"]
structure Txt (K : PySem.W.Frag) (mg : Str → Option Value) (C D : Addr) : Prop where
  clC : Cls K C
  clD : Cls K D
  naC : ∀ f, f ∈ chNames → NoAttr K C f
  naD : ∀ f, f ∈ sdNames → NoAttr K D f
  mgC : mg "Channel" = some (.ref C)
  mgD : mg "Channels" = some (.ref D)
  len : mg "len" = none
  min : mg "min" = none
  max : mg "max" = none
  int : mg "int" = none
  bool : mg "bool" = none
  list : mg "list" = none
  isi : mg "isinstance" = none
  iter : mg "iter" = none
  sorted : mg "sorted" = none
  range : mg "range" = none
  words : ∃ W, mg "WORDS" = some (.ref W) ∧ (∃ o, K.lookup W = some o ∧ o.cls = .type "tuple" ∧ o.dict = none) ∧ ∀ H, SqT K H W (frWords.map V.str)
  most : ∃ mc u, ClX.CRead K D mc ∧ ClX.CVal K D mc "MOST_CHANNELS" (.int 100) u

/-! ### rules in short -/
/-- a def of the top -/
def Ft (P : Program) (w : World) (K : PySem.W.Frag) (mg : Str → Option Value) (base : Heap) (x : Str) (k : Nat) (ps : List Str) (sp : Sp) : Prop :=
  ∃ f fd, mg x = some (.ref f) ∧ PySem.W.keepIn K (.ref f) = true ∧ Binds K fd ps [] ∧ FnOk P w K mg base CX0 k f fd ps sp
/-- a method of the class at C -/
def Mt (P : Program) (w : World) (K : PySem.W.Frag) (mg : Str → Option Value) (base : Heap) (C : Addr) (m : Str) (k : Nat) (ps : List Str) (sp : Sp) : Prop :=
  ∃ f fd, Meth K C m f ∧ Binds K fd ps [] ∧ FnOk P w K mg base CX0 k f fd ps sp
section
variable {X : Cx} {k : Nat} {ps : List Str} {sp : Sp} {x m : Str} {p pos apos : Pos} {e o : Expr} {es : List Expr} {t : TA} {ta : TE} {C : Addr}
theorem pfn (F : Ft X.prog X.w X.K X.mg X.base x k ps sp) (hr : Room k X.A) (ha : PA X (e :: es) t) (hg : Gl X x := by rfl) (hdb : (x == ("__debug__" : Str)) = false := by decide) (he : starEach (e :: es) X.env = (false, eval e X.env) :: starEach es X.env := by rfl)
    (hpl : (backTo pos (starEach es X.env)).any (·.1) = false := by rfl) : PE X (.Call (.Name x p) (e :: es) [] pos) (tCall sp [] E0 t) := by
  obtain ⟨f, fd, h1, h2, h3, h4⟩ := F
  exact pe_call h4 hr hg h1 h2 h3 .nil pass0 ha hdb he hpl
theorem pmt {ex : Expr} {tx : TE} (M : Mt X.prog X.w X.K X.mg X.base C m k ps sp) (h : ∀ f fd, Meth X.K C m f → FnOk X.prog X.w X.K X.mg X.base CX0 k f fd ps sp → Binds X.K fd ps [] → PE X ex tx) : PE X ex tx := by
  obtain ⟨f, fd, h1, h3, h4⟩ := M
  exact h f fd h1 h4 h3
end
end Thl

/-! Readings in short. -/
namespace Thl
open PySem PySem.Spec PyProof.Rows L2 Evl
section
variable {K : PySem.W.Frag} {σ : L2.St} {H H' : Hp} {ta tb tc te tv : TE} {t u : TT} {x y z v : V} {r r' : R2} {D : Ends} {tu tw tz : TS} {f m : Str} {a C dx : Addr} {fs : List (Str × V)} {xs ys : List V}
/-! ### expressions -/
theorem ev_fld (h : Ev te σ H (.ref a)) (ha : H a = some (.ins C dx fs)) (c : Cls K C) (na : NoAttr K C f) (lk : fs.lookup f = some v) : Ev (tFld K te f) σ H v := fun H1 e Q q =>
  h H1 e _ fun H2 e2 => ⟨a, C, dx, fs, v, rfl, e2 _ _ (e _ _ ha), c, na, lk, q H2 e2⟩
theorem rv_isN : RV (fun x y H Q => y = .non ∧ Q (.bl (decide (x = .non))) H) x .non H (.bl (decide (x = .non))) := fun H1 _ _ q => ⟨rfl, q H1 (Ex.refl H1)⟩
theorem rv_notN : RV (fun x y H Q => y = .non ∧ Q (.bl (!decide (x = .non))) H) x .non H (.bl (!decide (x = .non))) := fun H1 _ _ q => ⟨rfl, q H1 (Ex.refl H1)⟩
/-- a list, new or not -/
def EvM (te : TE) (σ : L2.St) (H : Hp) (xs : List V) : Prop := ∀ H1, Ex H H1 → ∀ Q : VK, (∀ p H2, Ex H1 H2 → H2 p = some (.lst xs) → Q (.ref p) H2) → te σ H1 Q
theorem evm_ref {p : Addr} (h : Ev te σ H (.ref p)) (hp : H p = some (.lst xs)) : EvM te σ H xs := fun H1 e Q q => h H1 e Q fun H2 e2 => q p H2 e2 (e2 _ _ (e _ _ hp))
theorem evm_new (h : EvL te σ H xs) : EvM te σ H xs := fun H1 e Q q => h H1 e Q fun p H2 _ e2 h2 => q p H2 e2 h2
theorem el_cat (ha : EvM ta σ H xs) (hb : EvM tb σ H ys) (hl : xs.length + ys.length ≤ 100000) : EvL (tOp rCat ta tb) σ H (xs ++ ys) := fun H1 e Q q =>
  ha H1 e _ fun p H2 e2 h2 => hb H2 (e.trans e2) _ fun p' H3 e3 h3 => ⟨p, p', xs, ys, rfl, rfl, e3 _ _ h2, h3, sz_of hl, fun d hd => q d _ (fresh_back (e2.trans e3) hd) ((e2.trans e3).trans (Ex.new hd)) upd_same⟩
theorem ev_lenM (ha : EvM ta σ H xs) : Ev (tCB (rLenS K) (tCons ta tNil)) σ H (.int (xs.length : Int)) := fun H1 e Q q =>
  ha H1 e _ fun p H2 e2 h2 => ⟨p, xs, rfl, Or.inl (sq_of h2), q H2 e2⟩
theorem el_listM (ha : EvM ta σ H xs) : EvL (tCB (rListS K) (tCons ta tNil)) σ H xs := fun H1 e Q q =>
  ha H1 e _ fun p H2 e2 h2 => ⟨p, xs, rfl, Or.inl (sq_of h2), fun l hl => q l _ (fresh_back e2 hl) (e2.trans (Ex.new hl)) upd_same⟩
theorem el_slM {tl th : TO} {lo hi : Option Int} (h : EvM te σ H xs) (h1 : EvO tl σ H lo) (h2 : EvO th σ H hi) : EvL (tSl (rSlL K) te tl th) σ H (cutV xs lo hi) := fun H1 e _ q =>
  h H1 e _ fun a H2 e2 ha => h1 H2 (e.trans e2) _ fun H3 e3 => h2 H3 ((e.trans e2).trans e3) _ fun H4 e4 =>
    ⟨a, xs, rfl, sq_of (e4 _ _ (e3 _ _ ha)), fun p hp => q p _ (fresh_back ((e2.trans e3).trans e4) hp) (((e2.trans e3).trans e4).trans (Ex.new hp)) upd_same⟩
theorem ev_ixM {i : Int} (h : EvM te σ H xs) (hi : Ev tb σ H (.int i)) (hx : atI xs i = some v) : Ev (tOp (rIxL K) te tb) σ H v := fun H1 e _ q =>
  h H1 e _ fun p H2 e2 h2 => hi H2 (e.trans e2) _ fun H3 e3 => ⟨p, xs, i, v, rfl, rfl, sq_of (e3 _ _ h2), hx, q H3 (e2.trans e3)⟩
theorem ev_ixL {p : Addr} {i : Int} (h : Ev te σ H (.ref p)) (hp : SqL K H p xs) (hi : Ev tb σ H (.int i)) (hx : atI xs i = some v) : Ev (tOp (rIxL K) te tb) σ H v := ev_op h hi (rv_ixL hp hx)
theorem ev_ixT {p : Addr} {i : Int} (h : Ev te σ H (.ref p)) (hp : H p = some (.tup xs)) (hi : Ev tb σ H (.int i)) (hx : atI xs i = some v) : Ev (tOp (rIxT K) te tb) σ H v := ev_op h hi (rv_ixT (st_of hp) hx)
theorem ev_lenT {p : Addr} (h : Ev te σ H (.ref p)) (hp : SqT K H p xs) : Ev (tCB (rLenS K) (tCons te tNil)) σ H (.int (xs.length : Int)) := fun H1 e Q q =>
  h H1 e _ fun H2 e2 => ⟨p, xs, rfl, Or.inr (ex_t (e.trans e2) hp), q H2 e2⟩
theorem ev_chain {k k2 : Bool} (ha : Ev ta σ H x) (hb : Ev tb σ H y) (h1 : RV r x y H (.bl k)) (hc : k = true → Ev tc σ H z) (h2 : k = true → RV r' y z H (.bl k2)) : Ev (tChain r r' ta tb tc) σ H (.bl (k && k2)) := fun H1 e Q q =>
  ha H1 e _ fun H2 e2 => hb H2 (e.trans e2) _ fun H3 e3 => h1 H3 ((e.trans e2).trans e3) _ fun H4 e4 => ⟨k, rfl, by
    have e14 := (e2.trans e3).trans e4
    cases k with
    | true =>
      rw [if_pos rfl]
      exact hc rfl H4 (e.trans e14) _ fun H5 e5 => h2 rfl H5 ((e.trans e14).trans e5) Q fun H6 e6 => q H6 ((e14.trans e5).trans e6)
    | false =>
      rw [if_neg Bool.false_ne_true]
      exact q H4 e14⟩
theorem et_truthL {p : Addr} (h : Ev te σ H (.ref p)) (hp : H p = some (.lst xs)) : EvT (fun σ H Q => te σ H fun x H' => ∃ k, TruV K x H' k ∧ Q k H') σ H (!xs.isEmpty) := fun H1 e Q q =>
  h H1 e _ fun H2 e2 => ⟨_, Or.inl ⟨xs, sq_of (e2 _ _ (e _ _ hp)), rfl⟩, q H2 e2⟩
/-! ### dicts -/
theorem ev_dget {p : Addr} {kvs : List (Key × V)} {n : Key} (hd : Ev ta σ H (.ref p)) (hp : H p = some (.dK kvs)) (hk : Ev tb σ H (kV n)) (hv : valV kvs n = some v) : Ev (tDGet ta tb) σ H v := fun H1 e Q q =>
  hd H1 e _ fun H2 e2 => hk H2 (e.trans e2) _ fun H3 e3 => ⟨p, v, rfl, by rw [← hv]; exact DGet.k (((e.trans e2).trans e3) _ _ hp), q H3 (e2.trans e3)⟩
theorem ev_din {p : Addr} {kvs : List (Key × V)} {n : Key} (hk : Ev tb σ H (kV n)) (hd : Ev ta σ H (.ref p)) (hp : H p = some (.dK kvs)) : Ev (tDIn tb ta) σ H (.bl (valV kvs n).isSome) := fun H1 e Q q =>
  hk H1 e _ fun H2 e2 => hd H2 (e.trans e2) _ fun H3 e3 => ⟨p, _, rfl, DGet.k (((e.trans e2).trans e3) _ _ hp), q H3 (e2.trans e3)⟩
theorem ev_dnotin {p : Addr} {kvs : List (Key × V)} {n : Key} (hk : Ev tb σ H (kV n)) (hd : Ev ta σ H (.ref p)) (hp : H p = some (.dK kvs)) : Ev (tDNotIn tb ta) σ H (.bl (!(valV kvs n).isSome)) := fun H1 e Q q =>
  hk H1 e _ fun H2 e2 => hd H2 (e.trans e2) _ fun H3 e3 => ⟨p, _, rfl, DGet.k (((e.trans e2).trans e3) _ _ hp), q H3 (e2.trans e3)⟩
/-! ### calls -/
theorem go_call {sp : Sp} {E : XK} {t : TA} {vs : List V} {Q : VK} (ht : EvA t σ H vs) (k : ∀ H1, Ex H H1 → sp vs H1 Q E) : tCall sp [] E t σ H Q := ht H (Ex.refl H) _ fun H1 e => by
  rw [List.append_nil]
  exact k H1 e
theorem go_meth {sp : Sp} {E : XK} {t : TA} {vs : List V} {Q : VK} (ho : Ev ta σ H (.ref a)) (hi : H a = some (.ins C dx fs)) (hn : fs.lookup m = none) (ht : EvA t σ H vs) (k : ∀ H1, Ex H H1 → sp (.ref a :: vs) H1 Q E) : tMeth C m sp [] E ta t σ H Q :=
  ho H (Ex.refl H) _ fun H1 e => ⟨a, dx, fs, rfl, e _ _ hi, hn, ht H1 e _ fun H2 e2 => by
    rw [List.append_nil]
    exact k H2 (e.trans e2)⟩
theorem ev_meth {sp : Sp} {E : XK} {t : TA} {vs : List V} (ho : Ev ta σ H (.ref a)) (hi : H a = some (.ins C dx fs)) (hn : fs.lookup m = none) (ht : EvA t σ H vs) (hs : SpV sp (.ref a :: vs) H z) : Ev (tMeth C m sp [] E ta t) σ H z := fun H1 e Q q =>
  go_meth (ho.mono e) (e _ _ hi) hn (ht.mono e) fun H2 e2 => hs H2 (e.trans e2) Q (fun H3 e3 => q H3 (e2.trans e3)) E
theorem ev_fn {sp : Sp} {E : XK} {t : TA} {vs : List V} (ht : EvA t σ H vs) (hs : SpV sp vs H z) : Ev (tCall sp [] E t) σ H z := ev_call ht (by rw [List.append_nil]; exact hs)
theorem el_fn {sp : Sp} {E : XK} {t : TA} {vs : List V} (ht : EvA t σ H vs) (hs : SpL sp vs H xs) : EvL (tCall sp [] E t) σ H xs := el_call ht (by rw [List.append_nil]; exact hs)
/-! ### statements -/
theorem s_fld (hv : Ev tv σ H y) (ha : Ev ta σ H (.ref a)) (ho : H a = some (.ins C dx fs)) (c : Cls K C) (na : NoAttr K C f) (hl : fs.length < 1000) (k : ∀ H1, Ex H H1 → D.nx σ (upd H1 a (.ins C dx (putF f y fs)))) : sFld K ta tv f D σ H :=
  hv H (Ex.refl H) _ fun H1 e1 => ha H1 e1 _ fun H2 e2 => ⟨a, C, dx, fs, rfl, (e1.trans e2) _ _ ho, c, na, hl, k H2 (e1.trans e2)⟩
theorem s_fldL (hv : EvL tv σ H xs) (ha : Ev ta σ H (.ref a)) (ho : H a = some (.ins C dx fs)) (c : Cls K C) (na : NoAttr K C f) (hl : fs.length < 1000)
    (k : ∀ p H1, H p = none → Ex H H1 → H1 p = some (.lst xs) → D.nx σ (upd H1 a (.ins C dx (putF f (.ref p) fs)))) : sFld K ta tv f D σ H :=
  hv H (Ex.refl H) _ fun p H1 hp e1 h1 => ha H1 e1 _ fun H2 e2 => ⟨a, C, dx, fs, rfl, (e1.trans e2) _ _ ho, c, na, hl, k p H2 hp (e1.trans e2) (e2 _ _ h1)⟩
theorem s_fldU (hv : EvU tv σ H xs) (ha : Ev ta σ H (.ref a)) (ho : H a = some (.ins C dx fs)) (c : Cls K C) (na : NoAttr K C f) (hl : fs.length < 1000)
    (k : ∀ p H1, H p = none → Ex H H1 → H1 p = some (.tup xs) → D.nx σ (upd H1 a (.ins C dx (putF f (.ref p) fs)))) : sFld K ta tv f D σ H :=
  hv H (Ex.refl H) _ fun p H1 hp e1 h1 => ha H1 e1 _ fun H2 e2 => ⟨a, C, dx, fs, rfl, (e1.trans e2) _ _ ho, c, na, hl, k p H2 hp (e1.trans e2) (e2 _ _ h1)⟩
theorem s_fldAdd {i j : Int} (ha : Ev ta σ H (.ref a)) (ho : H a = some (.ins C dx fs)) (c : Cls K C) (na : NoAttr K C f) (lk : fs.lookup f = some (.int i)) (hv : Ev tv σ H (.int j)) (hl : fs.length < 1000)
    (k : ∀ H1, Ex H H1 → D.nx σ (upd H1 a (.ins C dx (putF f (.int (i + j)) fs)))) : sFldAug K ta tv rAdd f D σ H :=
  ha H (Ex.refl H) _ fun H1 e1 => ⟨a, C, dx, fs, _, rfl, e1 _ _ ho, c, na, lk, hv H1 e1 _ fun H2 e2 => ⟨i, j, rfl, rfl, dx, fs, (e1.trans e2) _ _ ho, hl, k H2 (e1.trans e2)⟩⟩
theorem s_fldSub {i j : Int} (ha : Ev ta σ H (.ref a)) (ho : H a = some (.ins C dx fs)) (c : Cls K C) (na : NoAttr K C f) (lk : fs.lookup f = some (.int i)) (hv : Ev tv σ H (.int j)) (hl : fs.length < 1000)
    (k : ∀ H1, Ex H H1 → D.nx σ (upd H1 a (.ins C dx (putF f (.int (i - j)) fs)))) : sFldAug K ta tv rSub f D σ H :=
  ha H (Ex.refl H) _ fun H1 e1 => ⟨a, C, dx, fs, _, rfl, e1 _ _ ho, c, na, lk, hv H1 e1 _ fun H2 e2 => ⟨i, j, rfl, rfl, dx, fs, (e1.trans e2) _ _ ho, hl, k H2 (e1.trans e2)⟩⟩
/-- xs.extend(ys) -/
theorem s_ext {l : Addr} (hl : H l = some (.lst xs)) (ha : Ev ta σ H (.ref l)) (h : EvM te σ H ys) (hz : xs.length + ys.length ≤ 100000) (k : ∀ H1, Ex H H1 → D.nx σ (upd H1 l (.lst (xs ++ ys)))) :
    tDrop (tBM K "list" rExtend ta (tCons te tNil)) D σ H := ha H (Ex.refl H) _ fun H1 e1 =>
  ⟨Or.inl ⟨rfl, xs, sq_of (e1 l _ hl)⟩, h H1 e1 _ fun p H2 e2 h2 => ⟨l, p, xs, ys, rfl, rfl, e2 l _ (e1 l _ hl), h2, sz_of hz, k H2 (e1.trans e2)⟩⟩
theorem s_dput {p : Addr} {kvs : List (Key × V)} {n : Key} (hv : Ev tv σ H v) (hd : Ev ta σ H (.ref p)) (hp : H p = some (.dK kvs)) (hk : Ev tb σ H (kV n)) (hl : kvs.length < 100000) (k : ∀ H1, Ex H H1 → D.nx σ (upd H1 p (.dK (putK kvs n v)))) : sDPut ta tb tv D σ H :=
  hv H (Ex.refl H) _ fun H1 e1 => hd H1 e1 _ fun H2 e2 => hk H2 (e1.trans e2) _ fun H3 e3 => ⟨p, _, rfl, DPut.k (((e1.trans e2).trans e3) _ _ hp) (sz_lt hl), k H3 ((e1.trans e2).trans e3)⟩
theorem s_dputL {p : Addr} {kvs : List (Key × V)} {n : Key} (hv : EvL tv σ H xs) (hd : Ev ta σ H (.ref p)) (hp : H p = some (.dK kvs)) (hk : Ev tb σ H (kV n)) (hl : kvs.length < 100000)
    (k : ∀ q H1, H q = none → Ex H H1 → H1 q = some (.lst xs) → D.nx σ (upd H1 p (.dK (putK kvs n (.ref q))))) : sDPut ta tb tv D σ H :=
  hv H (Ex.refl H) _ fun q H1 hq e1 h1 => hd H1 e1 _ fun H2 e2 => hk H2 (e1.trans e2) _ fun H3 e3 => ⟨p, _, rfl, DPut.k (((e1.trans e2).trans e3) _ _ hp) (sz_lt hl), k q H3 hq ((e1.trans e2).trans e3) (e3 _ _ (e2 _ _ h1))⟩
theorem q_fld (hv : Ev tv σ H y) (ha : Ev ta σ H (.ref a)) (ho : H a = some (.ins C dx fs)) (c : Cls K C) (na : NoAttr K C f) (hl : fs.length < 1000) (k : ∀ H1, Ex H H1 → tz D σ (upd H1 a (.ins C dx (putF f y fs)))) : tSeq (sFld K ta tv f) tz D σ H :=
  s_fld (D := { D with nx := tz D }) hv ha ho c na hl k
theorem q_fldL (hv : EvL tv σ H xs) (ha : Ev ta σ H (.ref a)) (ho : H a = some (.ins C dx fs)) (c : Cls K C) (na : NoAttr K C f) (hl : fs.length < 1000)
    (k : ∀ p H1, H p = none → Ex H H1 → H1 p = some (.lst xs) → tz D σ (upd H1 a (.ins C dx (putF f (.ref p) fs)))) : tSeq (sFld K ta tv f) tz D σ H := s_fldL (D := { D with nx := tz D }) hv ha ho c na hl k
theorem q_fldU (hv : EvU tv σ H xs) (ha : Ev ta σ H (.ref a)) (ho : H a = some (.ins C dx fs)) (c : Cls K C) (na : NoAttr K C f) (hl : fs.length < 1000)
    (k : ∀ p H1, H p = none → Ex H H1 → H1 p = some (.tup xs) → tz D σ (upd H1 a (.ins C dx (putF f (.ref p) fs)))) : tSeq (sFld K ta tv f) tz D σ H := s_fldU (D := { D with nx := tz D }) hv ha ho c na hl k
theorem q_fldAdd {i j : Int} (ha : Ev ta σ H (.ref a)) (ho : H a = some (.ins C dx fs)) (c : Cls K C) (na : NoAttr K C f) (lk : fs.lookup f = some (.int i)) (hv : Ev tv σ H (.int j)) (hl : fs.length < 1000)
    (k : ∀ H1, Ex H H1 → tz D σ (upd H1 a (.ins C dx (putF f (.int (i + j)) fs)))) : tSeq (sFldAug K ta tv rAdd f) tz D σ H := s_fldAdd (D := { D with nx := tz D }) ha ho c na lk hv hl k
theorem q_fldSub {i j : Int} (ha : Ev ta σ H (.ref a)) (ho : H a = some (.ins C dx fs)) (c : Cls K C) (na : NoAttr K C f) (lk : fs.lookup f = some (.int i)) (hv : Ev tv σ H (.int j)) (hl : fs.length < 1000)
    (k : ∀ H1, Ex H H1 → tz D σ (upd H1 a (.ins C dx (putF f (.int (i - j)) fs)))) : tSeq (sFldAug K ta tv rSub f) tz D σ H := s_fldSub (D := { D with nx := tz D }) ha ho c na lk hv hl k
theorem q_ext {l : Addr} (hl : H l = some (.lst xs)) (ha : Ev ta σ H (.ref l)) (h : EvM te σ H ys) (hz : xs.length + ys.length ≤ 100000) (k : ∀ H1, Ex H H1 → tz D σ (upd H1 l (.lst (xs ++ ys)))) :
    tSeq (tDrop (tBM K "list" rExtend ta (tCons te tNil))) tz D σ H := s_ext (D := { D with nx := tz D }) hl ha h hz k
theorem q_dput {p : Addr} {kvs : List (Key × V)} {n : Key} (hv : Ev tv σ H v) (hd : Ev ta σ H (.ref p)) (hp : H p = some (.dK kvs)) (hk : Ev tb σ H (kV n)) (hl : kvs.length < 100000) (k : ∀ H1, Ex H H1 → tz D σ (upd H1 p (.dK (putK kvs n v)))) : tSeq (sDPut ta tb tv) tz D σ H :=
  s_dput (D := { D with nx := tz D }) hv hd hp hk hl k
theorem q_dputL {p : Addr} {kvs : List (Key × V)} {n : Key} (hv : EvL tv σ H xs) (hd : Ev ta σ H (.ref p)) (hp : H p = some (.dK kvs)) (hk : Ev tb σ H (kV n)) (hl : kvs.length < 100000)
    (k : ∀ q H1, H q = none → Ex H H1 → H1 q = some (.lst xs) → tz D σ (upd H1 p (.dK (putK kvs n (.ref q))))) : tSeq (sDPut ta tb tv) tz D σ H := s_dputL (D := { D with nx := tz D }) hv hd hp hk hl k
/-- a call of a method as a statement, or assigned to a name -/
theorem q_meth {sp : Sp} {E : XK} {t : TA} {vs : List V} (ho : Ev ta σ H (.ref a)) (hi : H a = some (.ins C dx fs)) (hn : fs.lookup m = none) (ht : EvA t σ H vs) (k : ∀ H1, Ex H H1 → sp (.ref a :: vs) H1 (fun _ H2 => tz D σ H2) E) : tSeq (tDrop (tMeth C m sp [] E ta t)) tz D σ H :=
  go_meth ho hi hn ht k
theorem s_meth {sp : Sp} {E : XK} {t : TA} {vs : List V} (ho : Ev ta σ H (.ref a)) (hi : H a = some (.ins C dx fs)) (hn : fs.lookup m = none) (ht : EvA t σ H vs) (k : ∀ H1, Ex H H1 → sp (.ref a :: vs) H1 (fun _ H2 => D.nx σ H2) E) : tDrop (tMeth C m sp [] E ta t) D σ H :=
  go_meth ho hi hn ht k
theorem q_asgM {sp : Sp} {E : XK} {t : TA} {vs : List V} {i : Nat} (ho : Ev ta σ H (.ref a)) (hi : H a = some (.ins C dx fs)) (hn : fs.lookup m = none) (ht : EvA t σ H vs) (k : ∀ H1, Ex H H1 → sp (.ref a :: vs) H1 (fun v H2 => tz D (σ.set i (some v)) H2) E) :
    tSeq (tAsg (tMeth C m sp [] E ta t) (gName i)) tz D σ H := go_meth ho hi hn ht k
theorem s_asgM {sp : Sp} {E : XK} {t : TA} {vs : List V} {i : Nat} (ho : Ev ta σ H (.ref a)) (hi : H a = some (.ins C dx fs)) (hn : fs.lookup m = none) (ht : EvA t σ H vs) (k : ∀ H1, Ex H H1 → sp (.ref a :: vs) H1 (fun v H2 => D.nx (σ.set i (some v)) H2) E) :
    tAsg (tMeth C m sp [] E ta t) (gName i) D σ H := go_meth ho hi hn ht k
theorem s_retM {sp : Sp} {E : XK} {t : TA} {vs : List V} (ho : Ev ta σ H (.ref a)) (hi : H a = some (.ins C dx fs)) (hn : fs.lookup m = none) (ht : EvA t σ H vs) (k : ∀ H1, Ex H H1 → sp (.ref a :: vs) H1 D.rt E) : tRet (tMeth C m sp [] E ta t) D σ H := go_meth ho hi hn ht k
theorem s_retN (k : D.rt .non H) : tRetN D σ H := k
theorem s_never (h : False) : tNever D σ H := h
end
/-! ### slices -/
theorem il_length (l : List Int) : (il l).length = l.length := List.length_map _
theorem cut_take {l : List Int} {c : Int} (h : 0 ≤ c) : cutV (il l) none (some c) = il (l.take c.toNat) := by
  have e : c = (c.toNat : Int) := by omega
  unfold cutV
  rw [HT.sIx_none, e, HT.sIx_nat, List.drop_zero, Nat.sub_zero, il_length, Int.toNat_natCast]
  show List.take _ (l.map V.int) = (l.take _).map V.int
  rw [← List.map_take]
  congr 1
  by_cases h : c.toNat ≤ l.length
  · rw [Nat.min_eq_left h]
  · rw [Nat.min_eq_right (by omega), List.take_of_length_le (Nat.le_refl _), List.take_of_length_le (by omega)]
theorem cut_drop {l : List Int} {c : Int} (h : 0 ≤ c) : cutV (il l) (some c) none = il (l.drop c.toNat) := by
  have e : c = (c.toNat : Int) := by omega
  unfold cutV
  rw [HT.sIx_none, e, HT.sIx_nat, il_length, Int.toNat_natCast, List.take_of_length_le (by rw [List.length_drop, il_length]; exact Nat.le_refl _)]
  show List.drop _ (l.map V.int) = (l.drop _).map V.int
  rw [← List.map_drop]
  congr 1
  by_cases h : c.toNat ≤ l.length
  · rw [Nat.min_eq_left h]
  · rw [Nat.min_eq_right (by omega), List.drop_of_length_le (Nat.le_refl _), List.drop_of_length_le (by omega)]
end Thl

/-! Frames as octets: the defs of the module frames. -/
namespace Thl
open PySem PySem.Spec PyProof.Rows L2 Evl
variable {P : Program} {w : World} {K : PySem.W.Frag} {mg : Str → Option Value} {base : Heap} {C D : Addr}

/-! ### two_octets -/
def spTwo : Sp := fun vs H Q _ => ∃ n : Int, vs = [.int n] ∧ RetL (il (two n)) H Q
theorem scTwo : FnScope ["number"] ["number"] (defScope (top 12)) := ⟨rfl, rfl, rfl, by decide +kernel, rfl, by decide +kernel, by decide +kernel⟩
theorem ok_two {f : Addr} {fd : FuncData} (F : Fun K "two_octets" "two_octets" (top 12) f fd) : FnOk P w K mg base CX0 1 f fd ["number"] spTwo := by
  refine F.ok scTwo (fun vs H Q E h => ?_) (fun cdv A outer s H vs Q E hr h => ?_)
  · obtain ⟨n, rfl, _⟩ := h
    rfl
  · obtain ⟨n, rfl, k⟩ := h
    refine ⟨_, pss_one (ps_ret (pe_lst (pa_cons (pe_op op_fdiv (pv 0) pe_int) (pa_cons (pe_op op_mod (pv 0) pe_int) pa_nil)))), ?_⟩
    exact s_retL (el_lst (ea_cons (ev_op (ev_var rfl) ev_c (rv_I ⟨by decide, by decide⟩)) (ea_cons (ev_op (ev_var rfl) ev_c (rv_I (by decide))) ea_nil)) (by show 2 ≤ 100000; decide)) k
theorem sl_two {n : Int} {H : Hp} : SpL spTwo [.int n] H (il (two n)) := fun H1 e Q q E => ⟨n, rfl, q⟩

/-! ### write_frame -/
def spWrite : Sp := fun vs H Q _ => ∃ (o : Ow) (p : Addr) (f : Fr), vs = [.ref p] ∧ FrAt o H p f ∧ (enc f).length ≤ 1200 ∧ RetL (il (enc f)) H Q
theorem scWrite : FnScope ["frame", "octets"] ["frame"] (defScope (top 13)) := ⟨rfl, rfl, rfl, by decide +kernel, rfl, by decide +kernel, by decide +kernel⟩
abbrev rTupIx (K : PySem.W.Frag) : V → List V → Hp → VK → Prop := fun x xs H Q => ∃ p, ∃ ys : List Str, ∃ z j, x = .ref p ∧ xs = [.str z] ∧ SqT K H p (ys.map V.str) ∧ ys[j]? = some z ∧ (∀ m, m < j → ys[m]? ≠ some z) ∧ Q (.int (j : Nat)) H
theorem el_head {W p : Addr} {H : Hp} {j : Nat} {wd : Str} {c : Int} {rest : List V} {σ : L2.St} (hs : σ[0]? = some (some (.ref p))) (hp : H p = some (.tup (.str wd :: .int c :: rest))) (hj : frWords[j]? = some wd) (hn : ∀ m, m < j → frWords[m]? ≠ some wd)
    (ty : ∃ o, K.lookup W = some o ∧ o.cls = .type "tuple" ∧ o.dict = none) (sq : ∀ H, SqT K H W (frWords.map V.str)) :
    EvL (tOp rCat (tLst (tCons (tOp (rI0 fun i j => .int (i + j)) (tBM K "tuple" (rTupIx K) (tC (.ref W)) (tCons (tOp (rIxT K) (tVar 0) (tC (.int 0))) tNil)) (tC (.int 1))) tNil)) (tCall spTwo [] E0 (tCons (tOp (rIxT K) (tVar 0) (tC (.int 1))) tNil))) σ H
      (il (((j : Int) + 1) :: two c)) := by
  have e0 : Ev (tOp (rIxT K) (tVar 0) (tC (.int 0))) σ H (.str wd) := ev_ixT (ev_var hs) hp ev_c (atI_nat (j := 0) rfl)
  have e1 : Ev (tOp (rIxT K) (tVar 0) (tC (.int 1))) σ H (.int c) := ev_ixT (ev_var hs) hp ev_c (atI_nat (j := 1) rfl)
  have ei : Ev (tBM K "tuple" (rTupIx K) (tC (.ref W)) (tCons (tOp (rIxT K) (tVar 0) (tC (.int 0))) tNil)) σ H (.int (j : Nat)) := fun H1 e Q q =>
    ⟨Or.inr (Or.inl ⟨rfl, ty⟩), e0 H1 e _ fun H2 e2 => ⟨W, frWords, wd, j, rfl, rfl, sq H2, hj, hn, q H2 e2⟩⟩
  exact el_cat (evm_new (el_lst (ea_cons (ev_op ei ev_c rv_I0) ea_nil) (by show 1 ≤ 100000; decide))) (evm_new (el_fn (ea_cons e1 ea_nil) sl_two)) (by show 1 + 2 ≤ 100000; decide)
theorem ok_write {f : Addr} {fd : FuncData} (F : Fun K "write_frame" "write_frame" (top 13) f fd) (T : Txt K mg C D) (F2 : Ft P w K mg base "two_octets" 1 ["number"] spTwo) : FnOk P w K mg base CX0 2 f fd ["frame"] spWrite := by
  refine F.ok scWrite (fun vs H Q E h => ?_) (fun cdv A outer s H vs Q E hr h => ?_)
  · obtain ⟨o, p, f, rfl, _⟩ := h
    rfl
  · obtain ⟨o, p, f, rfl, hf, hl, k⟩ := h
    obtain ⟨W, mgW, tyW, sqW⟩ := T.words
    refine ⟨_, pss_cons (ps_set (i := 1) scWrite.nd rfl (.inl rfl) (pe_op op_cat (pe_lst (pa_cons (pe_op op_add (pe_bm PySem.F.plainAttrs_tuple PySem.F.slot_tuple_index PySem.F.type_tuple_index mt_tup_index (pe_glob (v := .ref W) rfl mgW rfl) (pa_cons (pe_ix ix_tup (pv 0) pe_int (fun _ _ => rfl)) pa_nil)) pe_int) pa_nil))
        (pfn F2 hr (pa_cons (pe_ix ix_tup (pv 0) pe_int (fun _ _ => rfl)) pa_nil))))
      (pss_cons (ps_if (pt_cmpR op_eq (pe_ix ix_tup (pv 0) pe_int (fun _ _ => rfl)) pe_str (nomark _))
        (pss_one (ps_ret (pe_op op_cat (pe_op op_cat (pv 1) (pfn F2 hr (pa_cons (pe_callB call_len_seq (by rfl) T.len PySem.boot_len (pa_cons (pe_ix ix_tup (pv 0) pe_int (fun _ _ => rfl)) pa_nil)) pa_nil))) (pe_callTy call_list_of (by rfl) T.list (by decide +kernel) (pa_cons (pe_ix ix_tup (pv 0) pe_int (fun _ _ => rfl)) pa_nil))))) pss_nil)
      (pss_cons (ps_if (pt_cmpR op_gt (pe_callB call_len_seq (by rfl) T.len PySem.boot_len (pa_cons (pv 0) pa_nil)) pe_int (nomark _)) (pss_one (ps_ret (pe_op op_cat (pv 1) (pfn F2 hr (pa_cons (pe_ix ix_tup (pv 0) pe_int (fun _ _ => rfl)) pa_nil))))) pss_nil)
      (pss_one (ps_ret (pv 1))))), ?_⟩
    cases f with
    | opn c =>
      obtain ⟨hp, _⟩ := hf
      refine q_asgL (el_head (j := 0) rfl hp rfl (by decide +kernel) tyW sqW) fun b H1 hb e1 h1 => ?_
      refine q_when (b := false) (et_is (et_test (ev_op (ev_ixT (ev_var rfl) (e1 _ _ hp) ev_c (atI_nat (j := 0) rfl)) ev_c (rv_eq rfl))) (by decide +kernel)) (fun h => nomatch h) fun _ H2 e2 => ?_
      refine q_when (b := false) (et_is (et_test (ev_op (ev_lenT (ev_var rfl) (st_of (e2 _ _ (e1 _ _ hp)))) ev_c rv_I0)) rfl) (fun h => nomatch h) fun _ H3 e3 => ?_
      exact s_ret (ev_var rfl) fun H4 e4 => k b H4 hb (((e1.trans e2).trans e3).trans e4) (e4 _ _ (e3 _ _ (e2 _ _ h1)))
    | fin c =>
      obtain ⟨hp, _⟩ := hf
      refine q_asgL (el_head (j := 3) rfl hp rfl (by decide +kernel) tyW sqW) fun b H1 hb e1 h1 => ?_
      refine q_when (b := false) (et_is (et_test (ev_op (ev_ixT (ev_var rfl) (e1 _ _ hp) ev_c (atI_nat (j := 0) rfl)) ev_c (rv_eq rfl))) (by decide +kernel)) (fun h => nomatch h) fun _ H2 e2 => ?_
      refine q_when (b := false) (et_is (et_test (ev_op (ev_lenT (ev_var rfl) (st_of (e2 _ _ (e1 _ _ hp)))) ev_c rv_I0)) rfl) (fun h => nomatch h) fun _ H3 e3 => ?_
      exact s_ret (ev_var rfl) fun H4 e4 => k b H4 hb (((e1.trans e2).trans e3).trans e4) (e4 _ _ (e3 _ _ (e2 _ _ h1)))
    | per c m =>
      obtain ⟨hp, _⟩ := hf
      refine q_asgL (el_head (j := 2) rfl hp rfl (by decide +kernel) tyW sqW) fun b H1 hb e1 h1 => ?_
      refine q_when (b := false) (et_is (et_test (ev_op (ev_ixT (ev_var rfl) (e1 _ _ hp) ev_c (atI_nat (j := 0) rfl)) ev_c (rv_eq rfl))) (by decide +kernel)) (fun h => nomatch h) fun _ H2 e2 => ?_
      refine q_when (b := true) (et_is (et_test (ev_op (ev_lenT (ev_var rfl) (st_of (e2 _ _ (e1 _ _ hp)))) ev_c rv_I0)) rfl) (fun _ H3 e3 => ?_) fun h => nomatch h
      have e13 := (e1.trans e2).trans e3
      exact s_retL (el_cat (evm_ref (ev_var rfl) (e3 _ _ (e2 _ _ h1))) (evm_new (el_fn (ea_cons (ev_ixT (ev_var rfl) (e13 _ _ hp) ev_c (atI_nat (j := 2) rfl)) ea_nil) sl_two)) (by show 3 + 2 ≤ 100000; decide))
        fun d H4 hd e4 h4 => k d H4 (fresh_back e13 hd) (e13.trans e4) h4
    | rst c m =>
      obtain ⟨hp, _⟩ := hf
      refine q_asgL (el_head (j := 4) rfl hp rfl (by decide +kernel) tyW sqW) fun b H1 hb e1 h1 => ?_
      refine q_when (b := false) (et_is (et_test (ev_op (ev_ixT (ev_var rfl) (e1 _ _ hp) ev_c (atI_nat (j := 0) rfl)) ev_c (rv_eq rfl))) (by decide +kernel)) (fun h => nomatch h) fun _ H2 e2 => ?_
      refine q_when (b := true) (et_is (et_test (ev_op (ev_lenT (ev_var rfl) (st_of (e2 _ _ (e1 _ _ hp)))) ev_c rv_I0)) rfl) (fun _ H3 e3 => ?_) fun h => nomatch h
      have e13 := (e1.trans e2).trans e3
      exact s_retL (el_cat (evm_ref (ev_var rfl) (e3 _ _ (e2 _ _ h1))) (evm_new (el_fn (ea_cons (ev_ixT (ev_var rfl) (e13 _ _ hp) ev_c (atI_nat (j := 2) rfl)) ea_nil) sl_two)) (by show 3 + 2 ≤ 100000; decide))
        fun d H4 hd e4 h4 => k d H4 (fresh_back e13 hd) (e13.trans e4) h4
    | oct c d =>
      obtain ⟨⟨l, hp, hd, _⟩, _⟩ := hf
      have hdl : d.length ≤ 1200 := by
        rw [enc_len] at hl
        have hl : 5 + d.length ≤ 1200 := hl
        omega
      refine q_asgL (el_head (j := 1) rfl hp rfl (by decide +kernel) tyW sqW) fun b H1 hb e1 h1 => ?_
      refine q_when (b := true) (et_is (et_test (ev_op (ev_ixT (ev_var rfl) (e1 _ _ hp) ev_c (atI_nat (j := 0) rfl)) ev_c (rv_eq rfl))) (by decide +kernel)) (fun _ H2 e2 => ?_) fun h => nomatch h
      have e12 := e1.trans e2
      have el : Ev (tOp (rIxT K) (tVar 0) (tC (.int 2))) [some (.ref p), some (.ref b)] H2 (.ref l) := ev_ixT (ev_var rfl) (e12 _ _ hp) ev_c (atI_nat (j := 2) rfl)
      have em : EvM (tOp (rIxT K) (tVar 0) (tC (.int 2))) [some (.ref p), some (.ref b)] H2 (il d) := evm_ref el (e12 _ _ hd)
      have en := ev_lenM (K := K) em
      rw [il_length] at en
      have z1 : (il ((((1 : Nat) : Int) + 1) :: two c)).length + (il (two (d.length : Int))).length ≤ 100000 := by show 3 + 2 ≤ 100000; decide
      have z2 : (il ((((1 : Nat) : Int) + 1) :: two c) ++ il (two (d.length : Int))).length + (il d).length ≤ 100000 := by
        rw [il_length, List.length_append]
        show 3 + 2 + d.length ≤ 100000
        omega
      refine s_retL (el_cat (evm_new (el_cat (evm_ref (ev_var rfl) (e2 _ _ h1)) (evm_new (el_fn (ea_cons en ea_nil) sl_two)) z1)) (evm_new (el_listM em)) z2) fun q H4 hq e4 h4 => k q H4 (fresh_back e12 hq) (e12.trans e4) ?_
      have ee : il (enc (.oct c d)) = (il ((((1 : Nat) : Int) + 1) :: two c) ++ il (two (d.length : Int))) ++ il d := by simp [enc, two, il]
      rw [ee]
      exact h4
end Thl

/-! first_frame. -/
namespace Thl
open PySem PySem.Spec PyProof.Rows L2 Evl
variable {P : Program} {w : World} {K : PySem.W.Frag} {mg : Str → Option Value} {base : Heap} {C D : Addr}

/-- a frame that is new between H and H' -/
def FrN (H H' : Hp) (p : Addr) (f : Fr) : Prop := H p = none ∧ match f with
  | .opn c => H' p = some (.tup [.str "open", .int c])
  | .oct c d => ∃ l, H l = none ∧ H' p = some (.tup [.str "octets", .int c, .ref l]) ∧ H' l = some (.lst (il d))
  | .per c m => H' p = some (.tup [.str "permit", .int c, .int m])
  | .fin c => H' p = some (.tup [.str "end", .int c])
  | .rst c k => H' p = some (.tup [.str "reset", .int c, .int k])
theorem FrN.ex {H H' H2 : Hp} {p : Addr} {f : Fr} (h : FrN H H' p f) (e : Ex H' H2) : FrN H H2 p f := by
  obtain ⟨h0, h⟩ := h
  refine ⟨h0, ?_⟩
  cases f with
  | oct c d =>
    obtain ⟨l, h1, h2, h3⟩ := h
    exact ⟨l, h1, e _ _ h2, e _ _ h3⟩
  | opn c => exact e _ _ h
  | per c m => exact e _ _ h
  | fin c => exact e _ _ h
  | rst c k => exact e _ _ h
theorem FrN.back {H0 H H' : Hp} {p : Addr} {f : Fr} (h : FrN H H' p f) (e : Ex H0 H) : FrN H0 H' p f := by
  obtain ⟨h0, h⟩ := h
  refine ⟨fresh_back e h0, ?_⟩
  cases f with
  | oct c d =>
    obtain ⟨l, h1, h2, h3⟩ := h
    exact ⟨l, fresh_back e h1, h2, h3⟩
  | opn c => exact h
  | per c m => exact h
  | fin c => exact h
  | rst c k => exact h
/-- a new frame is given to the law's scratch -/
theorem FrN.at {o : Ow} {H H' : Hp} {p : Addr} {f : Fr} (h : FrN H H' p f) : ∃ o' : Ow, FrAt o' H' p f ∧ ∀ b x, H b = some x → o' b = o b := by
  obtain ⟨h0, h⟩ := h
  cases f with
  | oct c d =>
    obtain ⟨l, h1, h2, h3⟩ := h
    refine ⟨(o.put l tmpR).put p tmpR, ⟨⟨l, h2, h3, ?_⟩, put_same⟩, fun b x e => ?_⟩
    · have : l ≠ p := ne_of h3 h2 (by intro z; cases z)
      rw [put_ne this, put_same]
    · rw [put_ne (ne_of_none e h0), put_ne (ne_of_none e h1)]
  | opn c => exact ⟨o.put p tmpR, ⟨h, put_same⟩, fun b x e => put_ne (ne_of_none e h0)⟩
  | per c m => exact ⟨o.put p tmpR, ⟨h, put_same⟩, fun b x e => put_ne (ne_of_none e h0)⟩
  | fin c => exact ⟨o.put p tmpR, ⟨h, put_same⟩, fun b x e => put_ne (ne_of_none e h0)⟩
  | rst c k => exact ⟨o.put p tmpR, ⟨h, put_same⟩, fun b x e => put_ne (ne_of_none e h0)⟩

/-- an expression gives a new frame -/
def EvF (te : TE) (σ : L2.St) (H : Hp) (f : Fr) : Prop := ∀ H1, Ex H H1 → ∀ Q : VK, (∀ p H2, FrN H1 H2 p f → Ex H1 H2 → Q (.ref p) H2) → te σ H1 Q
section
variable {σ : L2.St} {H : Hp} {tw tc tn te tv : TE} {c n : Int} {d : List Int} {v : V} {xs : List V}
theorem ef_two {f : Fr} (h : EvU te σ H xs) (hf : ∀ H1 H2 p, H1 p = none → H2 p = some (.tup xs) → FrN H1 H2 p f) : EvF te σ H f := fun H1 e Q q =>
  h H1 e Q fun p H2 hp e2 h2 => q p H2 (hf _ _ _ hp h2) e2
theorem ef_oct (hw : Ev tw σ H (.str "octets")) (hc : Ev tc σ H (.int c)) (hd : EvL te σ H (il d)) : EvF (tTup (tCons tw (tCons tc (tCons te tNil)))) σ H (.oct c d) := fun H1 e Q q =>
  hw H1 e _ fun H2 e2 => hc H2 (e.trans e2) _ fun H3 e3 => hd H3 ((e.trans e2).trans e3) _ fun l H4 hl e4 h4 =>
    ⟨by show 3 ≤ sizeLine; decide, fun p hp => by
      have e14 := (e2.trans e3).trans e4
      refine q p _ ⟨fresh_back e14 hp, l, fresh_back (e2.trans e3) hl, upd_same, ?_⟩ (e14.trans (Ex.new hp))
      rw [upd_ne (ne_of_none h4 hp)]
      exact h4⟩
/-- the pair of a new frame and a value -/
theorem s_retF {D : Ends} {f : Fr} (h : EvF te σ H f) (hv : Ev tv σ H v) (k : ∀ q p H1, H q = none → FrN H H1 p f → Ex H H1 → H1 q = some (.tup [.ref p, v]) → D.rt (.ref q) H1) : tRet (tTup (tCons te (tCons tv tNil))) D σ H :=
  h H (Ex.refl H) _ fun p H1 hp e1 => hv H1 e1 _ fun H2 e2 => ⟨by show 2 ≤ sizeLine; decide, fun q hq => by
    refine k q p _ (fresh_back (e1.trans e2) hq) ((hp.ex e2).ex (Ex.new hq)) ((e1.trans e2).trans (Ex.new hq)) upd_same⟩
end

/-- what is known of the octets that begin a frame -/
def Hdr (os : List Int) : Prop := ∀ w x y t, os = w :: x :: y :: t → (1 ≤ w ∧ w ≤ 5) ∧ (0 ≤ x ∧ x ≤ 255) ∧ (w ≠ 1 → w ≠ 4 → ∀ u v t', t = u :: v :: t' → (0 ≤ u ∧ u ≤ 255) ∧ 0 ≤ v)
theorem hdr_enc {f : Fr} (h : VF f) (t : List Int) : Hdr (enc f ++ t) := by
  intro w x y t' e
  have bd : ∀ {n : Int}, B16 n → (0 ≤ n / 256 ∧ n / 256 ≤ 255) ∧ 0 ≤ n % 256 := fun {n} ⟨h1, h2⟩ => by omega
  cases f with
  | opn c =>
    simp only [enc, two, List.cons_append, List.nil_append, List.cons.injEq] at e
    obtain ⟨rfl, rfl, _⟩ := e
    exact ⟨by decide, (bd h).1, fun z => absurd rfl z⟩
  | fin c =>
    simp only [enc, two, List.cons_append, List.nil_append, List.cons.injEq] at e
    obtain ⟨rfl, rfl, _⟩ := e
    exact ⟨by decide, (bd h).1, fun _ z => absurd rfl z⟩
  | per c m =>
    simp only [enc, two, List.cons_append, List.nil_append, List.cons.injEq] at e
    obtain ⟨rfl, rfl, _, rfl⟩ := e
    refine ⟨by decide, (bd h.1).1, fun _ _ u v t' e => ?_⟩
    simp only [List.cons.injEq] at e
    obtain ⟨rfl, rfl, _⟩ := e
    exact bd h.2
  | rst c m =>
    simp only [enc, two, List.cons_append, List.nil_append, List.cons.injEq] at e
    obtain ⟨rfl, rfl, _, rfl⟩ := e
    refine ⟨by decide, (bd h.1).1, fun _ _ u v t' e => ?_⟩
    simp only [List.cons.injEq] at e
    obtain ⟨rfl, rfl, _⟩ := e
    exact bd h.2
  | oct c d =>
    simp only [enc, two, List.cons_append, List.nil_append, List.cons.injEq] at e
    obtain ⟨rfl, rfl, _, rfl⟩ := e
    refine ⟨by decide, (bd h.1).1, fun _ _ u v t' e => ?_⟩
    simp only [List.cons.injEq] at e
    obtain ⟨rfl, rfl, _⟩ := e
    exact bd h.2
theorem hdr_pre {f : Fr} (h : VF f) {os r : List Int} (e : enc f = os ++ r) : Hdr os := by
  intro w x y t e2
  have := hdr_enc h [] w x y (t ++ r) (by rw [List.append_nil, e, e2]; rfl)
  refine ⟨this.1, this.2.1, fun z1 z2 u v t' e3 => this.2.2 z1 z2 u v (t' ++ r) ?_⟩
  rw [e3]
  rfl
theorem hdr_nil : Hdr [] := fun w x y t e => nomatch e

def spFirst : Sp := fun vs H Q _ => ∃ (p : Addr) (os : List Int), vs = [.ref p] ∧ H p = some (.lst (il os)) ∧ os.length ≤ 90000 ∧ Hdr os ∧ match parse os with
  | none => RetV .non H Q
  | some (f, n) => ∀ q fr H', H q = none → FrN H H' fr f → Ex H H' → H' q = some (.tup [.ref fr, .int (n : Int)]) → Q (.ref q) H'
theorem scFirst : FnScope ["octets", "word", "channel", "number"] ["octets"] (defScope (top 14)) := ⟨rfl, rfl, rfl, by decide +kernel, rfl, by decide +kernel, by decide +kernel⟩
theorem ok_first {f : Addr} {fd : FuncData} (F : Fun K "first_frame" "first_frame" (top 14) f fd) (T : Txt K mg C D) : FnOk P w K mg base CX0 1 f fd ["octets"] spFirst := by
  refine F.ok scFirst (fun vs H Q E h => ?_) (fun cdv A outer s H vs Q E hr h => ?_)
  · obtain ⟨p, os, rfl, _⟩ := h
    rfl
  · obtain ⟨p, os, rfl, hp, hl, hh, k⟩ := h
    obtain ⟨W, mgW, tyW, sqW⟩ := T.words
    refine ⟨_, pss_cons (ps_if (pt_cmpR op_lt (pe_callB call_len_seq (by rfl) T.len PySem.boot_len (pa_cons (pv 0) pa_nil)) pe_int (nomark _)) (pss_one (ps_ret pe_non)) pss_nil)
      (pss_cons (ps_if (pt_not (pt_chain op_le op_le pe_int (pe_ix ix_list (pv 0) pe_int (fun _ _ => rfl)) (pe_callB call_len_seq (by rfl) T.len PySem.boot_len (pa_cons (pe_glob (v := .ref W) rfl mgW rfl) pa_nil)))) (pss_one ps_never) pss_nil)
      (pss_cons (ps_set (i := 1) scFirst.nd rfl (.inl rfl) (pe_ix ix_tup (pe_glob (v := .ref W) rfl mgW rfl) (pe_op op_sub (pe_ix ix_list (pv 0) pe_int (fun _ _ => rfl)) pe_int) (fun _ _ => rfl)))
      (pss_cons (ps_set (i := 2) scFirst.nd rfl (.inl rfl) (pe_op op_add (pe_op op_mul (pe_ix ix_list (pv 0) pe_int (fun _ _ => rfl)) pe_int) (pe_ix ix_list (pv 0) pe_int (fun _ _ => rfl))))
      (pss_cons (ps_if (PW.pt (pw_or (pt_cmpR op_eq (pv 1) pe_str (nomark _)) (pw_or1 (pt_cmpR op_eq (pv 1) pe_str (nomark _))))) (pss_one (ps_ret (pe_tup (pa_cons (pe_tup (pa_cons (pv 1) (pa_cons (pv 2) pa_nil))) (pa_cons pe_int pa_nil))))) pss_nil)
      (pss_cons (ps_if (pt_cmpR op_lt (pe_callB call_len_seq (by rfl) T.len PySem.boot_len (pa_cons (pv 0) pa_nil)) pe_int (nomark _)) (pss_one (ps_ret pe_non)) pss_nil)
      (pss_cons (ps_set (i := 3) scFirst.nd rfl (.inl rfl) (pe_op op_add (pe_op op_mul (pe_ix ix_list (pv 0) pe_int (fun _ _ => rfl)) pe_int) (pe_ix ix_list (pv 0) pe_int (fun _ _ => rfl))))
      (pss_cons (ps_if (pt_cmpR op_ne (pv 1) pe_str (nomark _)) (pss_one (ps_ret (pe_tup (pa_cons (pe_tup (pa_cons (pv 1) (pa_cons (pv 2) (pa_cons (pv 3) pa_nil)))) (pa_cons pe_int pa_nil))))) pss_nil)
      (pss_cons (ps_if (pt_cmpR op_lt (pe_callB call_len_seq (by rfl) T.len PySem.boot_len (pa_cons (pv 0) pa_nil)) (pe_op op_add pe_int (pv 3)) (nomark _)) (pss_one (ps_ret pe_non)) pss_nil)
      (pss_one (ps_ret (pe_tup (pa_cons (pe_tup (pa_cons (pv 1) (pa_cons (pv 2) (pa_cons (pe_slice sl_list (pv 0) (po_some pe_int) (po_some (pe_op op_add pe_int (pv 3)))) pa_nil)))) (pa_cons (pe_op op_add pe_int (pv 3)) pa_nil))))))))))))), ?_⟩
    have short : ∀ (tz : TS) (l : List Int), os = l → l.length < 3 → parse l = none → tSeq (tIfS (tTest (tOp (rI0 fun i j => .bl (decide (i < j))) (tCB (rLenS K) (tCons (tVar 0) tNil)) (tC (.int 3)))) (tRet (tC .non)) tNext) tz { nx := fun _ H' => Q .non H', rt := Q } [some (.ref p), none, none, none] H := by
      intro tz l e hl3 hn
      subst e
      rw [hn] at k
      refine q_when (b := true) (et_is (et_test (ev_op (ev_lenM (evm_ref (ev_var rfl) hp)) ev_c rv_I0)) (decide_eq_true (by rw [il_length]; omega))) (fun _ H1 e1 => ?_) (fun h => nomatch h)
      exact s_ret ev_c fun H2 e2 => k H2 (e1.trans e2)
    rcases os with _ | ⟨b0, _ | ⟨b1, _ | ⟨b2, t⟩⟩⟩
    · exact (short _ [] rfl (by show 0 < 3; decide) rfl : _)
    · exact (short _ [b0] rfl (by show 1 < 3; decide) rfl : _)
    · exact (short _ [b0, b1] rfl (by show 2 < 3; decide) rfl : _)
    clear short
    obtain ⟨hw, hx, huv⟩ := hh b0 b1 b2 t rfl
    have hlen : ((il (b0 :: b1 :: b2 :: t)).length : Int) = t.length + 3 := by
      rw [il_length]
      simp
      omega
    have M : ∀ {σ : L2.St} {H' : Hp}, Ex H H' → σ[0]? = some (some (.ref p)) → EvM (tVar 0) σ H' (il (b0 :: b1 :: b2 :: t)) := fun e hs => evm_ref (ev_var hs) (e _ _ hp)
    have L : ∀ {σ : L2.St} {H' : Hp}, Ex H H' → σ[0]? = some (some (.ref p)) → Ev (tCB (rLenS K) (tCons (tVar 0) tNil)) σ H' (.int (t.length + 3)) := fun e hs => by
      have := ev_lenM (K := K) (M e hs)
      rw [hlen] at this
      exact this
    refine q_when (b := false) (et_is (et_test (ev_op (L (Ex.refl H) rfl) ev_c rv_I0)) (decide_eq_false (by omega))) (fun h => nomatch h) fun _ H1 e1 => ?_
    refine q_when (b := false) (et_is (et_not (et_test (ev_chain (k := true) (k2 := true) ev_c (ev_ixM (M e1 rfl) ev_c (atI_nat (j := 0) rfl)) ?_ (fun _ => ev_lenT ev_c (sqW H1)) (fun _ => ?_)))) rfl) (fun h => nomatch h) fun _ H2 e2 => ?_
    · have : (V.bl true) = V.bl (decide (1 ≤ b0)) := by rw [decide_eq_true hw.1]
      rw [this]
      exact rv_I0
    · have : (V.bl true) = V.bl (decide (b0 ≤ ((frWords.map V.str).length : Int))) := by
        have z : ((frWords.map V.str).length : Int) = 5 := rfl
        rw [z, decide_eq_true hw.2]
      rw [this]
      exact rv_I0
    have e12 := e1.trans e2
    obtain ⟨j, wd, hj, hwd, hcase⟩ : ∃ (j : Nat) (wd : Str), b0 - 1 = (j : Int) ∧ frWords[j]? = some wd ∧ ((b0 = 1 ∧ wd = "open") ∨ (b0 = 2 ∧ wd = "octets") ∨ (b0 = 3 ∧ wd = "permit") ∨ (b0 = 4 ∧ wd = "end") ∨ (b0 = 5 ∧ wd = "reset")) := by
      have : b0 = 1 ∨ b0 = 2 ∨ b0 = 3 ∨ b0 = 4 ∨ b0 = 5 := by omega
      rcases this with h | h | h | h | h
      · exact ⟨0, "open", by omega, rfl, .inl ⟨h, rfl⟩⟩
      · exact ⟨1, "octets", by omega, rfl, .inr (.inl ⟨h, rfl⟩)⟩
      · exact ⟨2, "permit", by omega, rfl, .inr (.inr (.inl ⟨h, rfl⟩))⟩
      · exact ⟨3, "end", by omega, rfl, .inr (.inr (.inr (.inl ⟨h, rfl⟩)))⟩
      · exact ⟨4, "reset", by omega, rfl, .inr (.inr (.inr (.inr ⟨h, rfl⟩)))⟩
    refine q_asg (v := .str wd) (ev_op ev_c (ev_op (ev_ixM (M e12 rfl) ev_c (atI_nat (j := 0) rfl)) ev_c rv_I0) (rv_ixT (sqW H2) (at_of hj (by rw [List.getElem?_map, hwd]; rfl)))) fun H3 e3 => ?_
    have e13 := e12.trans e3
    refine q_asg (v := .int (b1 * 256 + b2)) (ev_op (ev_op (ev_ixM (M e13 rfl) ev_c (atI_nat (j := 1) rfl)) ev_c (rv_I (.inr ⟨by decide, by decide⟩))) (ev_ixM (M e13 rfl) ev_c (atI_nat (j := 2) rfl)) rv_I0) fun H4 e4 => ?_
    have e14 := e13.trans e4
    have hor : EvT (tOr (tTest (tOp rEq (tVar 1) (tC (V.str "open")))) (tTest (tOp rEq (tVar 1) (tC (V.str "end"))))) (((L2.start ["octets", "word", "channel", "number"] [V.ref p]).set 1 (some (.str wd))).set 2 (some (.int (b1 * 256 + b2)))) H4 (decide (V.str wd = V.str "open") || decide (V.str wd = V.str "end")) :=
      et_or (et_test (ev_op (ev_var rfl) ev_c (rv_eq rfl))) fun _ => et_test (ev_op (ev_var rfl) ev_c (rv_eq rfl))
    -- the two frames of three octets
    by_cases h14 : b0 = 1 ∨ b0 = 4
    · rcases h14 with h | h
      · subst h
        have : wd = "open" := by
          rcases hcase with z | z | z | z | z
          · exact z.2
          all_goals (exfalso; have := z.1; omega)
        subst this
        refine q_when (b := true) (et_is hor (by decide +kernel)) (fun _ H5 e5 => ?_) fun h => nomatch h
        have e15 := e14.trans e5
        exact s_retF (f := .opn (b1 * 256 + b2)) (ef_two (eu_tup (ea_cons (ev_var rfl) (ea_cons (ev_var rfl) ea_nil)) (by show 2 ≤ 100000; decide)) fun _ _ _ h1 h2 => ⟨h1, h2⟩) ev_c fun q fr H6 hq hf e6 h6 => k q fr H6 (fresh_back e15 hq) (hf.back e15) (e15.trans e6) h6
      · subst h
        have : wd = "end" := by
          rcases hcase with z | z | z | z | z
          · exfalso; have := z.1; omega
          · exfalso; have := z.1; omega
          · exfalso; have := z.1; omega
          · exact z.2
          · exfalso; have := z.1; omega
        subst this
        refine q_when (b := true) (et_is hor (by decide +kernel)) (fun _ H5 e5 => ?_) fun h => nomatch h
        have e15 := e14.trans e5
        exact s_retF (f := .fin (b1 * 256 + b2)) (ef_two (eu_tup (ea_cons (ev_var rfl) (ea_cons (ev_var rfl) ea_nil)) (by show 2 ≤ 100000; decide)) fun _ _ _ h1 h2 => ⟨h1, h2⟩) ev_c fun q fr H6 hq hf e6 h6 => k q fr H6 (fresh_back e15 hq) (hf.back e15) (e15.trans e6) h6
    have n1 : b0 ≠ 1 := fun z => h14 (.inl z)
    have n4 : b0 ≠ 4 := fun z => h14 (.inr z)
    have hcase : (b0 = 2 ∧ wd = "octets") ∨ (b0 = 3 ∧ wd = "permit") ∨ (b0 = 5 ∧ wd = "reset") := by
      rcases hcase with z | z | z | z | z
      · exact absurd z.1 n1
      · exact .inl z
      · exact .inr (.inl z)
      · exact absurd z.1 n4
      · exact .inr (.inr z)
    have huv := huv n1 n4
    have hno : (decide (V.str wd = V.str "open") || decide (V.str wd = V.str "end")) = false := by
      rcases hcase with ⟨_, rfl⟩ | ⟨_, rfl⟩ | ⟨_, rfl⟩ <;> decide +kernel
    refine q_when (b := false) (et_is hor hno) (fun h => nomatch h) fun _ H5 e5 => ?_
    have e15 := e14.trans e5
    have short : ∀ (tz : TS) (σ : L2.St), σ[0]? = some (some (.ref p)) → t.length < 2 → tSeq (tIfS (tTest (tOp (rI0 fun i j => .bl (decide (i < j))) (tCB (rLenS K) (tCons (tVar 0) tNil)) (tC (.int 5)))) (tRet (tC .non)) tNext) tz { nx := fun _ H' => Q .non H', rt := Q } σ H5 := by
      intro tz σ hs h2
      have hn : parse (b0 :: b1 :: b2 :: t) = none := by
        match t, h2 with
        | [], _ => simp [parse, n1, n4]
        | [_], _ => simp [parse, n1, n4]
        | _ :: _ :: _, h2 => simp at h2; omega
      rw [hn] at k
      refine q_when (b := true) (et_is (et_test (ev_op (L e15 hs) ev_c rv_I0)) (decide_eq_true (by omega))) (fun _ H6 e6 => ?_) (fun h => nomatch h)
      exact s_ret ev_c fun H7 e7 => k H7 ((e15.trans e6).trans e7)
    rcases t with _ | ⟨b3, _ | ⟨b4, t⟩⟩
    · refine short _ _ ?_ (by show 0 < 2; decide)
      rfl
    · refine short _ _ ?_ (by show 1 < 2; decide)
      rfl
    clear short
    obtain ⟨hu, hv⟩ := huv b3 b4 t rfl
    have hl5 : (((b3 :: b4 :: t).length : Nat) : Int) + 3 = t.length + 5 := by
      simp
      omega
    refine q_when (b := false) (et_is (et_test (ev_op (L e15 rfl) ev_c rv_I0)) (decide_eq_false (by omega))) (fun h => nomatch h) fun _ H6 e6 => ?_
    have e16 := e15.trans e6
    refine q_asg (v := .int (b3 * 256 + b4)) (ev_op (ev_op (ev_ixM (M e16 rfl) ev_c (atI_nat (j := 3) rfl)) ev_c (rv_I (.inr ⟨by decide, by decide⟩))) (ev_ixM (M e16 rfl) ev_c (atI_nat (j := 4) rfl)) rv_I0) fun H7 e7 => ?_
    have e17 := e16.trans e7
    have hne : EvT (tTest (tOp rNe (tVar 1) (tC (V.str "octets")))) ((((L2.start ["octets", "word", "channel", "number"] [V.ref p]).set 1 (some (.str wd))).set 2 (some (.int (b1 * 256 + b2)))).set 3 (some (.int (b3 * 256 + b4)))) H7 (!decide (V.str wd = V.str "octets")) :=
      et_test (ev_op (ev_var rfl) ev_c (rv_ne rfl))
    rcases hcase with ⟨h, rfl⟩ | ⟨h, rfl⟩ | ⟨h, rfl⟩
    · subst h
      refine q_when (b := false) (et_is hne (by decide +kernel)) (fun h => nomatch h) fun _ H8 e8 => ?_
      have e18 := e17.trans e8
      have hnum : 0 ≤ b3 * 256 + b4 := by omega
      have es : Ev (tOp (rI0 fun i j => .int (i + j)) (tC (.int 5)) (tVar 3)) ((((L2.start ["octets", "word", "channel", "number"] [V.ref p]).set 1 (some (.str "octets"))).set 2 (some (.int (b1 * 256 + b2)))).set 3 (some (.int (b3 * 256 + b4)))) H8 (.int (5 + (b3 * 256 + b4))) := ev_op ev_c (ev_var rfl) rv_I0
      by_cases hs : (t.length : Int) < b3 * 256 + b4
      · have hn : parse (2 :: b1 :: b2 :: b3 :: b4 :: t) = none := by simp [parse, hs]
        rw [hn] at k
        refine q_when (b := true) (et_is (et_test (ev_op (L e18 rfl) es rv_I0)) (decide_eq_true (by omega))) (fun _ H9 e9 => ?_) (fun h => nomatch h)
        exact s_ret ev_c fun H10 e10 => k H10 ((e18.trans e9).trans e10)
      · have hn : parse (2 :: b1 :: b2 :: b3 :: b4 :: t) = some (.oct (b1 * 256 + b2) (t.take (b3 * 256 + b4).toNat), 5 + (b3 * 256 + b4).toNat) := by simp [parse, hs]
        rw [hn] at k
        refine q_when (b := false) (et_is (et_test (ev_op (L e18 rfl) es rv_I0)) (decide_eq_false (by omega))) (fun h => nomatch h) fun _ H9 e9 => ?_
        have e19 := e18.trans e9
        have hcut : cutV (il (2 :: b1 :: b2 :: b3 :: b4 :: t)) (some 5) (some (5 + (b3 * 256 + b4))) = il (t.take (b3 * 256 + b4).toNat) := by
          have z5 : (5 + (b3 * 256 + b4)) = ((5 + (b3 * 256 + b4).toNat : Nat) : Int) := by omega
          unfold cutV
          rw [show (5 : Int) = ((5 : Nat) : Int) from rfl, HT.sIx_nat, show ((5 : Nat) : Int) + (b3 * 256 + b4) = ((5 + (b3 * 256 + b4).toNat : Nat) : Int) by omega, HT.sIx_nat]
          have zl : (il (2 :: b1 :: b2 :: b3 :: b4 :: t)).length = t.length + 5 := by
            rw [il_length]
            simp
          rw [zl, Nat.min_eq_left (by omega), Nat.min_eq_left (by omega), Nat.add_sub_cancel_left]
          show List.take _ (il t) = _
          rw [← List.map_take]
        refine s_retF (v := .int ((5 + (b3 * 256 + b4).toNat : Nat) : Int)) (f := .oct (b1 * 256 + b2) (t.take (b3 * 256 + b4).toNat)) (ef_oct (ev_var rfl) (ev_var rfl) ?_) ?_ fun q fr H10 hq hf e10 h10 => k q fr H10 (fresh_back e19 hq) (hf.back e19) (e19.trans e10) h10
        · have := el_slM (K := K) (M e19 (σ := (((L2.start ["octets", "word", "channel", "number"] [V.ref p]).set 1 (some (.str "octets"))).set 2 (some (.int (b1 * 256 + b2)))).set 3 (some (.int (b3 * 256 + b4)))) rfl) (eo_some (i := 5) ev_c) (eo_some (es.mono e9))
          rw [hcut] at this
          exact this
        · refine ev_is (es.mono e9) ?_
          congr 1
          omega
    · subst h
      refine q_when (b := true) (et_is hne (by decide +kernel)) (fun _ H8 e8 => ?_) fun h => nomatch h
      have e18 := e17.trans e8
      exact s_retF (f := .per (b1 * 256 + b2) (b3 * 256 + b4)) (ef_two (eu_tup (ea_cons (ev_var rfl) (ea_cons (ev_var rfl) (ea_cons (ev_var rfl) ea_nil))) (by show 3 ≤ 100000; decide)) fun _ _ _ h1 h2 => ⟨h1, h2⟩) ev_c fun q fr H9 hq hf e9 h9 => k q fr H9 (fresh_back e18 hq) (hf.back e18) (e18.trans e9) h9
    · subst h
      refine q_when (b := true) (et_is hne (by decide +kernel)) (fun _ H8 e8 => ?_) fun h => nomatch h
      have e18 := e17.trans e8
      exact s_retF (f := .rst (b1 * 256 + b2) (b3 * 256 + b4)) (ef_two (eu_tup (ea_cons (ev_var rfl) (ea_cons (ev_var rfl) (ea_cons (ev_var rfl) ea_nil))) (by show 3 ≤ 100000; decide)) fun _ _ _ h1 h2 => ⟨h1, h2⟩) ev_c fun q fr H9 hq hf e9 h9 => k q fr H9 (fresh_back e18 hq) (hf.back e18) (e18.trans e9) h9
end Thl

/-! A channel: the defs of the class Channel. -/
namespace Thl
open PySem PySem.Spec PyProof.Rows L2 Evl
variable {P : Program} {w : World} {K : PySem.W.Frag} {mg : Str → Option Value} {base : Heap} {C D : Addr}
theorem lt1000 {n : Nat} (h : Nat.ble (n + 1) 1000 = true) : n < 1000 := Nat.le_of_ble_eq_true h
section
variable {o : Ow} {H : Hp} {i : Nat} {n : Int} {a dx q r t : Addr} {c : Ch} {te : TE} {σ : L2.St}
theorem in_number : ("number" : Str) ∈ chNames := by decide +kernel
theorem ChAt.nu (h : ChAt C o H i n a c dx q r t) (T : Txt K mg C D) (ht : Ev te σ H (.ref a)) : Ev (tFld K te "number") σ H (.int n) := ev_fld ht h.ob T.clC (T.naC _ in_number) ch_number
theorem in_announced : ("announced" : Str) ∈ chNames := by decide +kernel
theorem ChAt.an (h : ChAt C o H i n a c dx q r t) (T : Txt K mg C D) (ht : Ev te σ H (.ref a)) : Ev (tFld K te "announced") σ H (.bl c.ann) := ev_fld ht h.ob T.clC (T.naC _ in_announced) ch_announced
theorem in_queue : ("queue" : Str) ∈ chNames := by decide +kernel
theorem ChAt.fq (h : ChAt C o H i n a c dx q r t) (T : Txt K mg C D) (ht : Ev te σ H (.ref a)) : Ev (tFld K te "queue") σ H (.ref q) := ev_fld ht h.ob T.clC (T.naC _ in_queue) ch_queue
theorem in_credit : ("credit" : Str) ∈ chNames := by decide +kernel
theorem ChAt.cr (h : ChAt C o H i n a c dx q r t) (T : Txt K mg C D) (ht : Ev te σ H (.ref a)) : Ev (tFld K te "credit") σ H (.int c.credit) := ev_fld ht h.ob T.clC (T.naC _ in_credit) ch_credit
theorem in_finished : ("finished" : Str) ∈ chNames := by decide +kernel
theorem ChAt.fi (h : ChAt C o H i n a c dx q r t) (T : Txt K mg C D) (ht : Ev te σ H (.ref a)) : Ev (tFld K te "finished") σ H (.bl c.fin) := ev_fld ht h.ob T.clC (T.naC _ in_finished) ch_finished
theorem in_end_sent : ("end_sent" : Str) ∈ chNames := by decide +kernel
theorem ChAt.es (h : ChAt C o H i n a c dx q r t) (T : Txt K mg C D) (ht : Ev te σ H (.ref a)) : Ev (tFld K te "end_sent") σ H (.bl c.endS) := ev_fld ht h.ob T.clC (T.naC _ in_end_sent) ch_end_sent
theorem in_arrived_octets : ("arrived_octets" : Str) ∈ chNames := by decide +kernel
theorem ChAt.ar (h : ChAt C o H i n a c dx q r t) (T : Txt K mg C D) (ht : Ev te σ H (.ref a)) : Ev (tFld K te "arrived_octets") σ H (.ref r) := ev_fld ht h.ob T.clC (T.naC _ in_arrived_octets) ch_arrived
theorem in_due : ("due" : Str) ∈ chNames := by decide +kernel
theorem ChAt.du (h : ChAt C o H i n a c dx q r t) (T : Txt K mg C D) (ht : Ev te σ H (.ref a)) : Ev (tFld K te "due") σ H (.int c.due) := ev_fld ht h.ob T.clC (T.naC _ in_due) ch_due
theorem in_end_came : ("end_came" : Str) ∈ chNames := by decide +kernel
theorem ChAt.ec (h : ChAt C o H i n a c dx q r t) (T : Txt K mg C D) (ht : Ev te σ H (.ref a)) : Ev (tFld K te "end_came") σ H (.bl c.endC) := ev_fld ht h.ob T.clC (T.naC _ in_end_came) ch_end_came
theorem in_reset_by : ("reset_by" : Str) ∈ chNames := by decide +kernel
theorem ChAt.rb (h : ChAt C o H i n a c dx q r t) (T : Txt K mg C D) (ht : Ev te σ H (.ref a)) : Ev (tFld K te "reset_by") σ H (rstV c.rst t) := ev_fld ht h.ob T.clC (T.naC _ in_reset_by) ch_reset_by
theorem in_reset_told : ("reset_told" : Str) ∈ chNames := by decide +kernel
theorem ChAt.rt (h : ChAt C o H i n a c dx q r t) (T : Txt K mg C D) (ht : Ev te σ H (.ref a)) : Ev (tFld K te "reset_told") σ H (.bl c.told) := ev_fld ht h.ob T.clC (T.naC _ in_reset_told) ch_reset_told
end
theorem rst_some (x : Option (Bool × Int)) (t : Addr) : (!decide (rstV x t = V.non)) = x.isSome := by
  cases x with
  | none => rfl
  | some p => simp [rstV]
theorem rst_none (x : Option (Bool × Int)) (t : Addr) : decide (rstV x t = V.non) = x.isNone := by
  cases x with
  | none => rfl
  | some p => simp [rstV]
theorem ex_ne {H H1 H2 : Hp} {p : Addr} {y : HO} (h : ∀ b x, H b = some x → b ≠ p → H1 b = some x) (e : Ex H1 H2) : ∀ b x, H b = some x → b ≠ p → (upd H2 p y) b = some x := fun b x hb ne => by
  rw [upd_ne ne]
  exact e _ _ (h b x hb ne)

/-! ### __init__ -/
def spCInit (C : Addr) : Sp := fun vs H Q _ => ∃ (p dx : Addr) (n : Int) (an : Bool), vs = [.ref p, .int n, .bl an] ∧ H p = some (.ins C dx []) ∧
  ∀ q r H', H q = none → H r = none → q ≠ r → (∀ b x, H b = some x → b ≠ p → H' b = some x) → H' q = some (.lst []) → H' r = some (.lst []) →
    H' p = some (.ins C dx (chFs (.int n) (.bl an) (.ref q) (.int 0) (.bl false) (.bl false) (.ref r) (.int 0) (.bl false) .non (.bl false))) → Q .non H'
theorem scCInit : FnScope ["self", "number", "announced"] ["self", "number", "announced"] (defScope (sCh 0)) := ⟨rfl, rfl, rfl, by decide +kernel, rfl, by decide +kernel, by decide +kernel⟩
theorem ok_cinit {f : Addr} {fd : FuncData} (F : Fun K "__init__" "Channel.__init__" (sCh 0) f fd) (T : Txt K mg C D) : FnOk P w K mg base CX0 1 f fd ["self", "number", "announced"] (spCInit C) := by
  refine F.ok scCInit (fun vs H Q E h => ?_) (fun cdv A outer s H vs Q E hr h => ?_)
  · obtain ⟨p, dx, n, an, rfl, _⟩ := h
    rfl
  · obtain ⟨p, dx, n, an, rfl, hp, k⟩ := h
    refine ⟨_, pss_cons (ps_fld (pv 0) (pv 1) rfl) (pss_cons (ps_fld (pv 0) (pv 2) rfl) (pss_cons (ps_fld (pv 0) (pe_lst pa_nil) rfl) (pss_cons (ps_fld (pv 0) pe_int rfl) (pss_cons (ps_fld (pv 0) pe_bl rfl) (pss_cons (ps_fld (pv 0) pe_bl rfl)
      (pss_cons (ps_fld (pv 0) (pe_lst pa_nil) rfl) (pss_cons (ps_fld (pv 0) pe_int rfl) (pss_cons (ps_fld (pv 0) pe_bl rfl) (pss_cons (ps_fld (pv 0) pe_non rfl) (pss_one (ps_fld (pv 0) pe_bl rfl))))))))))), ?_⟩
    refine q_fld (ev_var rfl) (ev_var rfl) hp T.clC (T.naC _ in_number) (lt1000 rfl) fun H1 e1 => ?_
    have k1 := ex_ne (p := p) (fun b x h _ => h) e1 (y := .ins C dx (putF "number" (.int n) []))
    refine q_fld (ev_var rfl) (ev_var rfl) upd_same T.clC (T.naC _ in_announced) (lt1000 rfl) fun H2 e2 => ?_
    have k2 := ex_ne k1 e2 (y := .ins C dx (putF "announced" (.bl an) (putF "number" (.int n) [])))
    refine q_fldL (el_lst ea_nil (by show 0 ≤ 100000; decide)) (ev_var rfl) upd_same T.clC (T.naC _ in_queue) (lt1000 rfl) fun q H3 hq e3 g3 => ?_
    have npq : q ≠ p := fun z => by
      rw [z, upd_same] at hq
      cases hq
    have hq0 : H q = none := by
      cases z : H q with
      | none => rfl
      | some x =>
        rw [k2 _ _ z npq] at hq
        cases hq
    have k3 := ex_ne k2 e3 (y := .ins C dx (putF "queue" (.ref q) (putF "announced" (.bl an) (putF "number" (.int n) []))))
    refine q_fld ev_c (ev_var rfl) upd_same T.clC (T.naC _ in_credit) (lt1000 rfl) fun H4 e4 => ?_
    refine q_fld ev_c (ev_var rfl) upd_same T.clC (T.naC _ in_finished) (lt1000 rfl) fun H5 e5 => ?_
    refine q_fld ev_c (ev_var rfl) upd_same T.clC (T.naC _ in_end_sent) (lt1000 rfl) fun H6 e6 => ?_
    have k6 := ex_ne (ex_ne (ex_ne k3 e4) e5) e6 (y := .ins C dx (putF "end_sent" (.bl false) (putF "finished" (.bl false) (putF "credit" (.int 0) (putF "queue" (.ref q) (putF "announced" (.bl an) (putF "number" (.int n) [])))))))
    have g6 : (upd H6 p (.ins C dx (putF "end_sent" (.bl false) (putF "finished" (.bl false) (putF "credit" (.int 0) (putF "queue" (.ref q) (putF "announced" (.bl an) (putF "number" (.int n) [])))))))) q = some (.lst []) := by
      rw [upd_ne npq]
      refine e6 _ _ ?_
      rw [upd_ne npq]
      refine e5 _ _ ?_
      rw [upd_ne npq]
      refine e4 _ _ ?_
      rw [upd_ne npq]
      exact g3
    refine q_fldL (el_lst ea_nil (by show 0 ≤ 100000; decide)) (ev_var rfl) upd_same T.clC (T.naC _ in_arrived_octets) (lt1000 rfl) fun r H7 hr7 e7 g7 => ?_
    have npr : r ≠ p := fun z => by
      rw [z, upd_same] at hr7
      cases hr7
    have hr0 : H r = none := by
      cases z : H r with
      | none => rfl
      | some x =>
        rw [k6 _ _ z npr] at hr7
        cases hr7
    have nqr : q ≠ r := ne_of_none g6 hr7
    have k7 := ex_ne k6 e7 (y := .ins C dx (putF "arrived_octets" (.ref r) (putF "end_sent" (.bl false) (putF "finished" (.bl false) (putF "credit" (.int 0) (putF "queue" (.ref q) (putF "announced" (.bl an) (putF "number" (.int n) []))))))))
    refine q_fld ev_c (ev_var rfl) upd_same T.clC (T.naC _ in_due) (lt1000 rfl) fun H8 e8 => ?_
    refine q_fld ev_c (ev_var rfl) upd_same T.clC (T.naC _ in_end_came) (lt1000 rfl) fun H9 e9 => ?_
    refine q_fld ev_c (ev_var rfl) upd_same T.clC (T.naC _ in_reset_by) (lt1000 rfl) fun H10 e10 => ?_
    refine s_fld ev_c (ev_var rfl) upd_same T.clC (T.naC _ in_reset_told) (lt1000 rfl) fun H11 e11 => ?_
    have up : ∀ z x, z ≠ p → H7 z = some x → (upd H11 p (.ins C dx (chFs (.int n) (.bl an) (.ref q) (.int 0) (.bl false) (.bl false) (.ref r) (.int 0) (.bl false) .non (.bl false)))) z = some x := fun z x hz h => by
      rw [upd_ne hz]
      refine e11 _ _ ?_
      rw [upd_ne hz]
      refine e10 _ _ ?_
      rw [upd_ne hz]
      refine e9 _ _ ?_
      rw [upd_ne hz]
      refine e8 _ _ ?_
      rw [upd_ne hz]
      exact h
    exact k q r (upd H11 p (.ins C dx (chFs (.int n) (.bl an) (.ref q) (.int 0) (.bl false) (.bl false) (.ref r) (.int 0) (.bl false) .non (.bl false)))) hq0 hr0 nqr (ex_ne (ex_ne (ex_ne (ex_ne k7 e8) e9) e10) e11) (up q _ npq (e7 _ _ g6)) (up r _ npr g7) upd_same

/-! ### has_something -/
def spHas (C : Addr) : Sp := fun vs H Q _ => ∃ (o : Ow) (i : Nat) (n : Int) (a : Addr) (c : Ch), vs = [.ref a] ∧ ChX C o H i n a c ∧ RetV (.bl (has c)) H Q
theorem scHas : FnScope ["self"] ["self"] (defScope (sCh 1)) := ⟨rfl, rfl, rfl, by decide +kernel, rfl, by decide +kernel, by decide +kernel⟩
theorem ok_has {f : Addr} {fd : FuncData} (F : Fun K "has_something" "Channel.has_something" (sCh 1) f fd) (T : Txt K mg C D) : FnOk P w K mg base CX0 1 f fd ["self"] (spHas C) := by
  refine F.ok scHas (fun vs H Q E h => ?_) (fun cdv A outer s H vs Q E hr h => ?_)
  · obtain ⟨o, i, n, a, c, rfl, _⟩ := h
    rfl
  · obtain ⟨o, i, n, a, c, rfl, ⟨dx, q, r, t, h⟩, k⟩ := h
    refine ⟨_, pss_cons (ps_if (pt_cmpR op_notN (pe_fld (pv 0) rfl) pe_non (nomark _)) (pss_one (ps_ret pe_bl)) pss_nil)
      (pss_cons (ps_if (pt_truth (pe_fld (pv 0) rfl) (by intro _; rfl)) (pss_one (ps_ret (pe_cmpR op_gt (pe_fld (pv 0) rfl) pe_int (nomark _)))) pss_nil)
      (pss_one (ps_ret (pe_and (pe_fld (pv 0) rfl) (pe_one (pe_not (pe_fld (pv 0) rfl))))))), ?_⟩
    refine q_when (b := c.rst.isSome) (et_is (et_test (ev_op (h.rb T (ev_var rfl)) ev_c rv_notN)) (rst_some _ _)) (fun hb H1 e1 => ?_) fun hb H1 e1 => ?_
    · refine s_ret ev_c fun H2 e2 => ?_
      have e : has c = false := by simp [has, hb]
      rw [e] at k
      exact k H2 (e1.trans e2)
    have h1 := h.ex e1
    refine q_when (b := !(il c.queue).isEmpty) (et_truthL (h1.fq T (ev_var rfl)) h1.qu) (fun hq H2 e2 => ?_) fun hq H2 e2 => ?_
    · refine s_ret (ev_op ((h1.ex e2).cr T (ev_var rfl)) ev_c rv_I0) fun H3 e3 => ?_
      have e : has c = decide (0 < c.credit) := by
        have : c.queue ≠ [] := by
          intro z
          rw [z] at hq
          simp at hq
        simp [has, hb, this]
      rw [e] at k
      exact k H3 ((e1.trans e2).trans e3)
    · refine s_ret (ev_andV ((h1.ex e2).fi T (ev_var rfl)) fun _ => ev_notV ((h1.ex e2).es T (ev_var rfl))) fun H3 e3 => ?_
      have e : has c = (c.fin && !c.endS) := by
        have : c.queue = [] := by
          cases z : c.queue with
          | nil => rfl
          | cons x l => rw [z] at hq; simp at hq
        simp [has, hb, this]
      rw [e] at k
      exact k H3 ((e1.trans e2).trans e3)

/-! ### owes -/
def spOwes (C : Addr) : Sp := fun vs H Q _ => ∃ (o : Ow) (i : Nat) (n : Int) (a : Addr) (c : Ch) (w : Int), vs = [.ref a, .int w] ∧ ChX C o H i n a c ∧ RetV (.int (owes w c)) H Q
theorem scOwes : FnScope ["self", "window"] ["self", "window"] (defScope (sCh 2)) := ⟨rfl, rfl, rfl, by decide +kernel, rfl, by decide +kernel, by decide +kernel⟩
theorem ok_owes {f : Addr} {fd : FuncData} (F : Fun K "owes" "Channel.owes" (sCh 2) f fd) (T : Txt K mg C D) : FnOk P w K mg base CX0 1 f fd ["self", "window"] (spOwes C) := by
  refine F.ok scOwes (fun vs H Q E h => ?_) (fun cdv A outer s H vs Q E hr h => ?_)
  · obtain ⟨o, i, n, a, c, w, rfl, _⟩ := h
    rfl
  · obtain ⟨o, i, n, a, c, w, rfl, ⟨dx, q, r, t, h⟩, k⟩ := h
    refine ⟨_, pss_cons (ps_if (PW.pt (pw_or (pt_cmpR op_notN (pe_fld (pv 0) rfl) pe_non (nomark _)) (pw_or1 (pt_val (pe_fld (pv 0) rfl))))) (pss_one (ps_ret pe_int)) pss_nil)
      (pss_one (ps_ret (pe_op op_sub (pe_op op_sub (pv 1) (pe_fld (pv 0) rfl)) (pe_callB call_len_seq (by rfl) T.len PySem.boot_len (pa_cons (pe_fld (pv 0) rfl) pa_nil))))), ?_⟩
    refine q_when (b := c.rst.isSome || c.endC) (et_or (et_is (et_test (ev_op (h.rb T (ev_var rfl)) ev_c rv_notN)) (rst_some _ _)) fun _ => et_B (h.ec T (ev_var rfl))) (fun hb H1 e1 => ?_) fun hb H1 e1 => ?_
    · refine s_ret ev_c fun H2 e2 => ?_
      have e : owes w c = 0 := by
        unfold owes
        rw [if_pos (by simpa using hb)]
      rw [e] at k
      exact k H2 (e1.trans e2)
    · have h1 := h.ex e1
      have z := ev_lenM (K := K) (evm_ref (h1.ar T (ev_var (i := 0) (σ := [some (.ref a), some (.int w)]) rfl)) h1.rd)
      rw [il_length] at z
      refine s_ret (ev_op (ev_op (ev_var rfl) (h1.du T (ev_var rfl)) rv_I0) z rv_I0) fun H2 e2 => ?_
      have e : owes w c = w - c.due - c.ready.length := by
        unfold owes
        rw [if_neg (by simpa using hb)]
      rw [e] at k
      exact k H2 (e1.trans e2)
end Thl

/-! A channel, further. -/
namespace Thl
open PySem PySem.Spec PyProof.Rows L2 Evl
variable {P : Program} {w : World} {K : PySem.W.Frag} {mg : Str → Option Value} {base : Heap} {C D : Addr}
section
variable {o o' : Ow} {H H1 : Hp} {i : Nat} {n : Int} {a dx q r t p : Addr} {c c' : Ch} {fs : List (Str × V)}
/-- the channel's attributes change, its lists and its reset do not -/
theorem ChAt.wr (h : ChAt C o H i n a c dx q r t) (e1 : c'.queue = c.queue) (e2 : c'.ready = c.ready) (e3 : c'.rst = c.rst)
    (ef : fs = chFs (.int n) (.bl c'.ann) (.ref q) (.int c'.credit) (.bl c'.fin) (.bl c'.endS) (.ref r) (.int c'.due) (.bl c'.endC) (rstV c'.rst t) (.bl c'.told)) : ChAt C o (upd H a (.ins C dx fs)) i n a c' dx q r t := by
  refine ⟨by rw [upd_same, ef], ?_, ?_, fun b k z => ?_, h.oa, h.oq, h.ord⟩
  · rw [upd_ne (ne_rl h.oq h.oa (by simp)), e1]
    exact h.qu
  · rw [upd_ne (ne_rl h.ord h.oa (by simp)), e2]
    exact h.rd
  · obtain ⟨x1, x2⟩ := h.rs b k (by rw [← e3]; exact z)
    rw [upd_ne (ne_rl x2 h.oa (by simp))]
    exact ⟨x1, x2⟩
theorem ChAt.put (h : ChAt C o H i n a c dx q r t) {x : Role} (hp : H p = none) : ChAt C (o.put p x) H i n a c dx q r t := h.keep (S := fun _ => False) (Keep.refl.own hp) fun _ _ => id
/-- a new list becomes the queue -/
theorem ChAt.newq (h : ChAt C o H i n a c dx q r t) (hp : H p = none) (e : Ex H H1) {l : List Int} (g : H1 p = some (.lst (il l)))
    (ef : fs = chFs (.int n) (.bl c.ann) (.ref p) (.int c.credit) (.bl c.fin) (.bl c.endS) (.ref r) (.int c.due) (.bl c.endC) (rstV c.rst t) (.bl c.told)) : ChAt C (o.put p (i, n, 11)) (upd H1 a (.ins C dx fs)) i n a { c with queue := l } dx p r t := by
  have h1 := (h.put (p := p) (x := (i, n, 11)) hp).ex e
  refine ⟨by rw [upd_same, ef], ?_, ?_, fun b k z => ?_, h1.oa, put_same, h1.ord⟩
  · rw [upd_ne (ne_rl (o := o.put p (i, n, 11)) put_same h1.oa (by simp))]
    exact g
  · rw [upd_ne (ne_rl h1.ord h1.oa (by simp))]
    exact h1.rd
  · obtain ⟨x1, x2⟩ := h1.rs b k z
    rw [upd_ne (ne_rl x2 h1.oa (by simp))]
    exact ⟨x1, x2⟩
/-- a new list becomes what is ready -/
theorem ChAt.newr (h : ChAt C o H i n a c dx q r t) (hp : H p = none) (e : Ex H H1) {l : List Int} (g : H1 p = some (.lst (il l)))
    (ef : fs = chFs (.int n) (.bl c.ann) (.ref q) (.int c.credit) (.bl c.fin) (.bl c.endS) (.ref p) (.int c.due) (.bl c.endC) (rstV c.rst t) (.bl c.told)) : ChAt C (o.put p (i, n, 12)) (upd H1 a (.ins C dx fs)) i n a { c with ready := l } dx q p t := by
  have h1 := (h.put (p := p) (x := (i, n, 12)) hp).ex e
  refine ⟨by rw [upd_same, ef], ?_, ?_, fun b k z => ?_, h1.oa, h1.oq, put_same⟩
  · rw [upd_ne (ne_rl h1.oq h1.oa (by simp))]
    exact h1.qu
  · rw [upd_ne (ne_rl (o := o.put p (i, n, 12)) put_same h1.oa (by simp))]
    exact g
  · obtain ⟨x1, x2⟩ := h1.rs b k z
    rw [upd_ne (ne_rl x2 h1.oa (by simp))]
    exact ⟨x1, x2⟩
/-- a new tuple becomes the reset -/
theorem ChAt.newt (h : ChAt C o H i n a c dx q r t) (hp : H p = none) (e : Ex H H1) {b : Bool} {k : Int} (g : H1 p = some (.tup [.str (plc b), .int k]))
    (ef : fs = chFs (.int n) (.bl c.ann) (.ref q) (.int c.credit) (.bl c.fin) (.bl c.endS) (.ref r) (.int c.due) (.bl c.endC) (.ref p) (.bl c.told)) : ChAt C (o.put p (i, n, 13)) (upd H1 a (.ins C dx fs)) i n a { c with rst := some (b, k) } dx q r p := by
  have h1 := (h.put (p := p) (x := (i, n, 13)) hp).ex e
  refine ⟨by rw [upd_same, ef]; rfl, ?_, ?_, fun b' k' z => ?_, h1.oa, h1.oq, h1.ord⟩
  · rw [upd_ne (ne_rl h1.oq h1.oa (by simp))]
    exact h1.qu
  · rw [upd_ne (ne_rl h1.ord h1.oa (by simp))]
    exact h1.rd
  · have z : some (b, k) = some (b', k') := z
    cases z
    rw [upd_ne (ne_rl (o := o.put p (i, n, 13)) put_same h1.oa (by simp))]
    exact ⟨g, put_same⟩
/-- who changes the channel's own object changes nothing else -/
theorem ChAt.kp (h : ChAt C o H i n a c dx q r t) (e : Ex H H1) {x : HO} : Keep (OfC i n) o H o (upd H1 a x) := (Keep.ex e).upd fun _ _ => by rw [h.oa]; exact ⟨rfl, rfl, Nat.le_of_ble_eq_true rfl⟩
end
theorem min3_int (a b c : Int) : nuMin3 (.int a) (.int b) (.int c) = some (.int (min (min a b) c)) := by
  have two' : ∀ x y : Int, nuMin2 (.int x) (.int y) = some (.int (min x y)) := fun x y => by
    show some (if decide (y < x) = true then V.int y else V.int x) = _
    by_cases h : y < x
    · rw [decide_eq_true h, if_pos rfl, Int.min_eq_right (by omega)]
    · rw [decide_eq_false h, if_neg Bool.false_ne_true, Int.min_eq_left (by omega)]
  unfold nuMin3
  rw [two']
  exact two' _ _
theorem ev_min3 {ta tb tc : TE} {σ : L2.St} {H : Hp} {a b c : Int} (ha : Ev ta σ H (.int a)) (hb : Ev tb σ H (.int b)) (hc : Ev tc σ H (.int c)) : Ev (tCB (rNuC3 nuMin3) (tCons ta (tCons tb (tCons tc tNil)))) σ H (.int (min (min a b) c)) :=
  ev_cb (ea_cons ha (ea_cons hb (ea_cons hc ea_nil))) fun H1 _ Q q => ⟨_, _, _, _, rfl, min3_int a b c, q H1 (Ex.refl H1)⟩

/-! ### next_frame -/
def spNextF (C : Addr) : Sp := fun vs H Q _ => ∃ (o : Ow) (i : Nat) (n : Int) (a : Addr) (c : Ch) (most : Int), vs = [.ref a, .int most] ∧ ChX C o H i n a c ∧ i ≠ 9 ∧ 1 ≤ most ∧ (c.queue ≠ [] → 0 < c.credit) ∧ c.queue.length ≤ 1000 ∧
  ∀ p o' H', H p = none → FrAt o' H' p (sendF most n c) → ChX C o' H' i n a (sendC most c) → Keep (OfC i n) o H o' H' → Q (.ref p) H'
theorem scNextF : FnScope ["self", "most", "count", "data"] ["self", "most"] (defScope (sCh 3)) := ⟨rfl, rfl, rfl, by decide +kernel, rfl, by decide +kernel, by decide +kernel⟩
theorem ok_nextf {f : Addr} {fd : FuncData} (F : Fun K "next_frame" "Channel.next_frame" (sCh 3) f fd) (T : Txt K mg C D) : FnOk P w K mg base CX0 1 f fd ["self", "most"] (spNextF C) := by
  refine F.ok scNextF (fun vs H Q E h => ?_) (fun cdv A outer s H vs Q E hr h => ?_)
  · obtain ⟨o, i, n, a, c, most, rfl, _⟩ := h
    rfl
  · obtain ⟨o, i, n, a, c, most, rfl, ⟨dx, q, r, t, h⟩, hi, hm, hc, hl, k⟩ := h
    refine ⟨_, pss_cons (ps_if (pt_not (pt_truth (pe_fld (pv 0) rfl) (by intro _; rfl))) (pss_cons (ps_fld (pv 0) pe_bl rfl) (pss_one (ps_ret (pe_tup (pa_cons pe_str (pa_cons (pe_fld (pv 0) rfl) pa_nil)))))) pss_nil)
      (pss_cons (ps_set (i := 2) scNextF.nd rfl (.inl rfl) (pe_callB (call_min3Nu rfl) (by rfl) T.min (by decide +kernel) (pa_cons (pv 1) (pa_cons (pe_fld (pv 0) rfl) (pa_cons (pe_callB call_len_seq (by rfl) T.len PySem.boot_len (pa_cons (pe_fld (pv 0) rfl) pa_nil)) pa_nil)))))
      (pss_cons (ps_set (i := 3) scNextF.nd rfl (.inl rfl) (pe_slice sl_list (pe_fld (pv 0) rfl) po_none (po_some (pv 2))))
      (pss_cons (ps_fld (pv 0) (pe_slice sl_list (pe_fld (pv 0) rfl) (po_some (pv 2)) po_none) rfl)
      (pss_cons (ps_fldaug (pv 0) (pv 2) in_sub)
      (pss_one (ps_ret (pe_tup (pa_cons pe_str (pa_cons (pe_fld (pv 0) rfl) (pa_cons (pv 3) pa_nil)))))))))), ?_⟩
    refine q_when (b := !(!(il c.queue).isEmpty)) (et_not (et_truthL (h.fq T (ev_var rfl)) h.qu)) (fun hq H1 e1 => ?_) fun hq H1 e1 => ?_
    · have hq0 : c.queue = [] := by
        cases z : c.queue with
        | nil => rfl
        | cons x l => rw [z] at hq; simp at hq
      have h1 := h.ex e1
      refine q_fld ev_c (ev_var rfl) h1.ob T.clC (T.naC _ in_end_sent) (lt1000 rfl) fun H2 e2 => ?_
      have h2 := (h1.ex e2).wr (c' := { c with endS := true }) rfl rfl rfl (ch_put_end_sent (e := .bl c.endS))
      refine s_retU (eu_tup (ea_cons ev_c (ea_cons (h2.nu T (ev_var rfl)) ea_nil)) (by show 2 ≤ 100000; decide)) fun p H3 hp e3 g3 => ?_
      have hp0 : H p = none := by
        have ne : p ≠ a := fun z => by
          rw [z, upd_same] at hp
          cases hp
        rw [upd_ne ne] at hp
        exact fresh_back (e1.trans e2) hp
      have eF : sendF most n c = .fin n := by simp [sendF, hq0]
      have eC : sendC most c = { c with endS := true } := by simp [sendC, hq0]
      refine k p (o.put p tmpR) H3 hp0 ?_ ?_ ((((h.kp (e1.trans e2)).trans (Keep.ex e3))).own hp0)
      · rw [eF]
        exact ⟨g3, put_same⟩
      · rw [eC]
        exact ⟨dx, q, r, t, (h2.put hp).ex e3⟩
    · have hq0 : c.queue ≠ [] := by
        intro z
        rw [z] at hq
        simp at hq
      obtain ⟨k1, k2, k3, k4⟩ := cnt_pos hm (hc hq0) hq0
      have eF : sendF most n c = .oct n (c.queue.take (cnt most c).toNat) := by simp [sendF, hq0]
      have eC : sendC most c = { c with queue := c.queue.drop (cnt most c).toNat, credit := c.credit - cnt most c } := by simp [sendC, hq0]
      have h1 := h.ex e1
      have hlen := ev_lenM (K := K) (evm_ref (h1.fq T (ev_var (i := 0) (σ := [some (.ref a), some (.int most), none, none]) rfl)) h1.qu)
      rw [il_length] at hlen
      refine q_asg (v := .int (cnt most c)) (ev_min3 (ev_var rfl) (h1.cr T (ev_var rfl)) hlen) fun H2 e2 => ?_
      have h2 := h1.ex e2
      refine q_asgL (xs := il (c.queue.take (cnt most c).toNat)) (by rw [← cut_take (by omega)]; exact el_slM (evm_ref (h2.fq T (ev_var rfl)) h2.qu) eo_none (eo_some (ev_var rfl))) fun d H3 hd e3 g3 => ?_
      have h3 := (h2.put (p := d) (x := tmpR) hd).ex e3
      refine q_fldL (xs := il (c.queue.drop (cnt most c).toNat)) (by rw [← cut_drop (by omega)]; exact el_slM (evm_ref (h3.fq T (ev_var rfl)) h3.qu) (eo_some (ev_var rfl)) eo_none) (ev_var rfl) h3.ob T.clC (T.naC _ in_queue) (lt1000 rfl) fun q2 H4 hq2 e4 g4 => ?_
      have h4 := h3.newq hq2 e4 g4 (ch_put_queue (q := .ref q))
      refine q_fldSub (ev_var rfl) h4.ob T.clC (T.naC _ in_credit) ch_credit (ev_var rfl) (lt1000 rfl) fun H5 e5 => ?_
      have h5 := (h4.ex e5).wr (c' := { c with queue := c.queue.drop (cnt most c).toNat, credit := c.credit - cnt most c }) rfl rfl rfl (ch_put_credit (c := .int c.credit))
      have nda : d ≠ a := (ne_of_none h2.ob hd).symm
      have g5 : (upd H5 a (.ins C dx (putF "credit" (.int (c.credit - cnt most c)) (chFs (.int n) (.bl c.ann) (.ref q2) (.int c.credit) (.bl c.fin) (.bl c.endS) (.ref r) (.int c.due) (.bl c.endC) (rstV c.rst t) (.bl c.told))))) d = some (.lst (il (c.queue.take (cnt most c).toNat))) := by
        rw [upd_ne nda]
        refine e5 _ _ ?_
        rw [upd_ne nda]
        exact e4 _ _ g3
      refine s_retU (eu_tup (ea_cons ev_c (ea_cons (h5.nu T (ev_var rfl)) (ea_cons (ev_var rfl) ea_nil))) (by show 3 ≤ 100000; decide)) fun p H6 hp e6 g6 => ?_
      have ndp : d ≠ p := ne_of_none g5 hp
      have nap : p ≠ a := fun z => by
        rw [z, upd_same] at hp
        cases hp
      have hp4 : H4 p = none := by
        rw [upd_ne nap] at hp
        have := fresh_back e5 hp
        rw [upd_ne nap] at this
        exact this
      have e02 := e1.trans e2
      have hp0 : H p = none := fresh_back (e02.trans (e3.trans e4)) hp4
      have hd0 : H d = none := fresh_back e02 hd
      have hq20 : H q2 = none := fresh_back (e02.trans e3) hq2
      have nq2p : q2 ≠ p := ne_of_none g4 hp4
      have nq2d : d ≠ q2 := ne_of_none g3 hq2
      refine k p (((o.put d tmpR).put q2 (i, n, 11)).put p tmpR) H6 hp0 ?_ ?_ ?_
      · rw [eF]
        refine ⟨⟨d, g6, e6 _ _ g5, ?_⟩, put_same⟩
        rw [put_ne ndp, put_ne nq2d, put_same]
      · rw [eC]
        exact ⟨dx, q2, r, t, (h5.put hp).ex e6⟩
      · have ka : ∀ y, H a = some y → OfC i n (o a) := fun _ _ => by rw [h.oa]; exact ⟨rfl, rfl, Nat.le_of_ble_eq_true rfl⟩
        have kk : Keep (OfC i n) o H o H6 := by
          intro b x hb hs
          have nb : b ≠ a := fun z => hs (by rw [z]; exact ka _ h.ob)
          refine ⟨e6 _ _ ?_, rfl⟩
          rw [upd_ne nb]
          refine e5 _ _ ?_
          rw [upd_ne nb]
          exact (e02.trans (e3.trans e4)) _ _ hb
        exact ((kk.own hd0).own hq20).own hp0
end Thl

/-! A channel: its resets, and the frames that come. -/
namespace Thl
open PySem PySem.Spec PyProof.Rows L2 Evl
variable {P : Program} {w : World} {K : PySem.W.Frag} {mg : Str → Option Value} {base : Heap} {C D : Addr}
theorem ChAt.rset {o : Ow} {H : Hp} {i : Nat} {n : Int} {a dx q r t : Addr} {c : Ch} {l : List Int} (h : ChAt C o H i n a c dx q r t) : ChAt C o (upd H r (.lst (il l))) i n a { c with ready := l } dx q r t := by
  refine ⟨?_, ?_, upd_same, fun b k z => ?_, h.oa, h.oq, h.ord⟩
  · rw [upd_ne (ne_rl h.oa h.ord (by simp))]
    exact h.ob
  · rw [upd_ne (ne_rl h.oq h.ord (by simp))]
    exact h.qu
  · obtain ⟨x1, x2⟩ := h.rs b k z
    rw [upd_ne (ne_rl x2 h.ord (by simp))]
    exact ⟨x1, x2⟩
theorem ChAt.ka {o : Ow} {H : Hp} {i : Nat} {n : Int} {a dx q r t : Addr} {c : Ch} (h : ChAt C o H i n a c dx q r t) : OfC i n (o a) := by rw [h.oa]; exact ⟨rfl, rfl, Nat.le_of_ble_eq_true rfl⟩

/-! ### drop_all -/
def spDrop (C : Addr) : Sp := fun vs H Q _ => ∃ (o : Ow) (i : Nat) (n : Int) (a : Addr) (c : Ch) (b : Bool) (j : Int), vs = [.ref a, .str (plc b), .int j] ∧ ChX C o H i n a c ∧
  ∀ o' H', ChX C o' H' i n a (dropAll c b j) → Keep (OfC i n) o H o' H' → Q .non H'
theorem scDrop : FnScope ["self", "place", "code"] ["self", "place", "code"] (defScope (sCh 4)) := ⟨rfl, rfl, rfl, by decide +kernel, rfl, by decide +kernel, by decide +kernel⟩
theorem ok_drop {f : Addr} {fd : FuncData} (F : Fun K "drop_all" "Channel.drop_all" (sCh 4) f fd) (T : Txt K mg C D) : FnOk P w K mg base CX0 1 f fd ["self", "place", "code"] (spDrop C) := by
  refine F.ok scDrop (fun vs H Q E h => ?_) (fun cdv A outer s H vs Q E hr h => ?_)
  · obtain ⟨o, i, n, a, c, b, j, rfl, _⟩ := h
    rfl
  · obtain ⟨o, i, n, a, c, b, j, rfl, ⟨dx, q, r, t, h⟩, k⟩ := h
    refine ⟨_, pss_cons (ps_fld (pv 0) (pe_tup (pa_cons (pv 1) (pa_cons (pv 2) pa_nil))) rfl) (pss_cons (ps_fld (pv 0) (pe_lst pa_nil) rfl) (pss_one (ps_fld (pv 0) (pe_lst pa_nil) rfl))), ?_⟩
    refine q_fldU (eu_tup (ea_cons (ev_var rfl) (ea_cons (ev_var rfl) ea_nil)) (by show 2 ≤ 100000; decide)) (ev_var rfl) h.ob T.clC (T.naC _ in_reset_by) (lt1000 rfl) fun t' H1 ht e1 g1 => ?_
    have h1 := h.newt ht e1 g1 (ch_put_reset_by (rb := rstV c.rst t))
    refine q_fldL (el_lst ea_nil (by show 0 ≤ 100000; decide)) (ev_var rfl) h1.ob T.clC (T.naC _ in_queue) (lt1000 rfl) fun q' H2 hq e2 g2 => ?_
    have h2 := h1.newq (l := []) hq e2 g2 (ch_put_queue (q := .ref q))
    refine s_fldL (el_lst ea_nil (by show 0 ≤ 100000; decide)) (ev_var rfl) h2.ob T.clC (T.naC _ in_arrived_octets) (lt1000 rfl) fun r' H3 hr' e3 g3 => ?_
    have h3 := h2.newr (l := []) hr' e3 g3 (ch_put_arrived (r := .ref r))
    have nqa : q' ≠ a := fun z => by
      rw [z, upd_same] at hq
      cases hq
    have nra : r' ≠ a := fun z => by
      rw [z, upd_same] at hr'
      cases hr'
    have hq0 : H q' = none := by
      rw [upd_ne nqa] at hq
      exact fresh_back e1 hq
    have hr0 : H r' = none := by
      rw [upd_ne nra] at hr'
      have := fresh_back e2 hr'
      rw [upd_ne nra] at this
      exact fresh_back e1 this
    refine k _ _ ⟨dx, q', r', t', h3⟩ ?_
    have kk : Keep (OfC i n) o H o (upd H3 a (.ins C dx (putF "arrived_octets" (.ref r') (chFs (.int n) (.bl c.ann) (.ref q') (.int c.credit) (.bl c.fin) (.bl c.endS) (.ref r) (.int c.due) (.bl c.endC) (.ref t') (.bl c.told))))) := by
      intro x y hx hs
      have nx : x ≠ a := fun z => hs (by rw [z]; exact h.ka)
      refine ⟨?_, rfl⟩
      rw [upd_ne nx]
      refine e3 _ _ ?_
      rw [upd_ne nx]
      refine e2 _ _ ?_
      rw [upd_ne nx]
      exact e1 _ _ hx
    exact ((kk.own ht).own hq0).own hr0

/-! ### problem_of -/
def spProb (C : Addr) : Sp := fun vs H Q _ => ∃ (o : Ow) (i : Nat) (n : Int) (a p : Addr) (c : Ch) (f : Fr), vs = [.ref a, .ref p] ∧ ChX C o H i n a c ∧ FrAt o H p f ∧ GoodC c f ∧ RetV .non H Q
theorem scProb : FnScope ["self", "frame", "word"] ["self", "frame"] (defScope (sCh 5)) := ⟨rfl, rfl, rfl, by decide +kernel, rfl, by decide +kernel, by decide +kernel⟩
theorem ok_prob {f : Addr} {fd : FuncData} (F : Fun K "problem_of" "Channel.problem_of" (sCh 5) f fd) (T : Txt K mg C D) : FnOk P w K mg base CX0 1 f fd ["self", "frame"] (spProb C) := by
  refine F.ok scProb (fun vs H Q E h => ?_) (fun cdv A outer s H vs Q E hr h => ?_)
  · obtain ⟨o, i, n, a, p, c, f, rfl, _⟩ := h
    rfl
  · obtain ⟨o, i, n, a, p, c, f, rfl, ⟨dx, q, r, t, h⟩, hf, hg, k⟩ := h
    refine ⟨_, pss_cons (ps_if (pt_cmpR op_notN (pe_fld (pv 0) rfl) pe_non (nomark _)) (pss_cons (ps_if (pt_cmpR op_eq (pe_ix ix_tup (pe_fld (pv 0) rfl) pe_int (fun _ _ => rfl)) pe_str (nomark _)) (pss_one (ps_ret pe_str)) pss_nil) (pss_one (ps_ret pe_non))) pss_nil)
      (pss_cons (ps_set (i := 2) scProb.nd rfl (.inl rfl) (pe_ix ix_tup (pv 1) pe_int (fun _ _ => rfl)))
      (pss_cons (ps_if (PW.pt (pw_or (PW.pt (pw_and (pt_cmpR op_eq (pv 2) pe_str (nomark _)) (pw_and1 (pt_not (pt_truth (pe_ix ix_tup (pv 1) pe_int (fun _ _ => rfl)) (by intro _; rfl))))))
        (pw_or1 (PW.pt (pw_and (pt_cmpR op_eq (pv 2) pe_str (nomark _)) (pw_and1 (pt_cmpR op_eq (pe_ix ix_tup (pv 1) pe_int (fun _ _ => rfl)) pe_int (nomark _)))))))) (pss_one (ps_ret pe_str)) pss_nil)
      (pss_cons (ps_if (PW.pt (pw_and (pt_val (pe_fld (pv 0) rfl)) (pw_and1 (PW.pt (pw_or (pt_cmpR op_eq (pv 2) pe_str (nomark _)) (pw_or1 (pt_cmpR op_eq (pv 2) pe_str (nomark _)))))))) (pss_one (ps_ret pe_str)) pss_nil)
      (pss_cons (ps_if (PW.pt (pw_and (pt_cmpR op_eq (pv 2) pe_str (nomark _)) (pw_and1 (pt_cmpR op_gt (pe_callB call_len_seq (by rfl) T.len PySem.boot_len (pa_cons (pe_ix ix_tup (pv 1) pe_int (fun _ _ => rfl)) pa_nil)) (pe_fld (pv 0) rfl) (nomark _))))) (pss_one (ps_ret pe_str)) pss_nil)
      (pss_one (ps_ret pe_non)))))), ?_⟩
    rcases hg with ⟨j, e⟩ | ⟨e, hg⟩
    · refine q_when (b := true) (et_is (et_test (ev_op (h.rb T (ev_var rfl)) ev_c rv_notN)) (by rw [rst_some, e]; rfl)) (fun _ H1 e1 => ?_) fun h => nomatch h
      have h1 := h.ex e1
      have hv : rstV c.rst t = .ref t := by rw [e]; rfl
      have rb := h1.rb T (ev_var (i := 0) (σ := [some (.ref a), some (.ref p), none]) rfl)
      rw [hv] at rb
      refine q_when (b := false) (et_is (et_test (ev_op (ev_ixT rb (h1.rs true j e).1 ev_c (atI_nat (j := 0) rfl)) ev_c (rv_eq rfl))) (by decide +kernel)) (fun h => nomatch h) fun _ H2 e2 => ?_
      exact s_ret ev_c fun H3 e3 => k H3 ((e1.trans e2).trans e3)
    · refine q_when (b := false) (et_is (et_test (ev_op (h.rb T (ev_var rfl)) ev_c rv_notN)) (by rw [rst_some, e]; rfl)) (fun h => nomatch h) fun _ H1 e1 => ?_
      cases f with
      | opn x => exact hg.elim
      | oct x d =>
        obtain ⟨⟨l, hp, hd, _⟩, _⟩ := hf
        obtain ⟨g1, g2, g3⟩ := hg
        refine q_asg (v := .str "octets") (ev_ixT (ev_var rfl) (e1 _ _ hp) ev_c (atI_nat (j := 0) rfl)) fun H2 e2 => ?_
        have e12 := e1.trans e2
        have hne : (il d).isEmpty = false := by
          cases d with
          | nil => exact absurd rfl g1
          | cons a b => rfl
        have ix2 : ∀ {H'}, Ex H H' → Ev (tOp (rIxT K) (tVar 1) (tC (.int 2))) [some (.ref a), some (.ref p), some (.str "octets")] H' (.ref l) := fun e => ev_ixT (ev_var rfl) (e _ _ hp) ev_c (atI_nat (j := 2) rfl)
        refine q_when (b := false) (et_is (et_or (et_and (et_test (ev_op (ev_var rfl) ev_c (rv_eq rfl))) fun _ => et_not (et_truthL (ix2 e12) (e12 _ _ hd))) fun _ => et_and (a := false) (b := false) (et_is (et_test (ev_op (ev_var rfl) ev_c (rv_eq rfl))) (by decide +kernel)) fun h => nomatch h) ?_) (fun h => nomatch h) fun _ H3 e3 => ?_
        · rw [hne]
          simp
        have e13 := e12.trans e3
        refine q_when (b := false) (et_is (et_and (b := false) (et_B ((h.ex e13).ec T (ev_var rfl))) fun z => ?_) ?_) (fun h => nomatch h) fun _ H4 e4 => ?_
        · rw [g2] at z
          cases z
        · rw [g2]
          rfl
        have e14 := e13.trans e4
        have hlen := ev_lenM (K := K) (evm_ref (ix2 e14) (e14 _ _ hd))
        rw [il_length] at hlen
        refine q_when (b := false) (et_is (et_and (et_test (ev_op (ev_var rfl) ev_c (rv_eq rfl))) fun _ => et_test (ev_op hlen ((h.ex e14).du T (ev_var rfl)) rv_I0)) ?_) (fun h => nomatch h) fun _ H5 e5 => ?_
        · rw [decide_eq_false (show ¬ c.due < (d.length : Int) by omega)]
          simp
        exact s_ret ev_c fun H6 e6 => k H6 ((e14.trans e5).trans e6)
      | per x m =>
        obtain ⟨hp, _⟩ := hf
        have hg : m ≠ 0 := hg
        refine q_asg (v := .str "permit") (ev_ixT (ev_var rfl) (e1 _ _ hp) ev_c (atI_nat (j := 0) rfl)) fun H2 e2 => ?_
        have e12 := e1.trans e2
        refine q_when (b := false) (et_is (et_or (et_and (a := false) (b := false) (et_is (et_test (ev_op (ev_var rfl) ev_c (rv_eq rfl))) (by decide +kernel)) fun h => nomatch h) fun _ => et_and (et_test (ev_op (ev_var rfl) ev_c (rv_eq rfl))) fun _ => et_test (ev_op (ev_ixT (ev_var rfl) (e12 _ _ hp) ev_c (atI_nat (j := 2) rfl)) ev_c (rv_eq rfl))) ?_) (fun h => nomatch h) fun _ H3 e3 => ?_
        · rw [decide_eq_false (show ¬ V.int m = V.int 0 by intro z; cases z; exact hg rfl)]
          simp
        have e13 := e12.trans e3
        refine q_when (b := false) (et_is (et_and (b := false) (et_B ((h.ex e13).ec T (ev_var rfl))) fun _ => et_is (et_or (et_test (ev_op (ev_var rfl) ev_c (rv_eq rfl))) fun _ => et_test (ev_op (ev_var rfl) ev_c (rv_eq rfl))) (by decide +kernel)) (by simp)) (fun h => nomatch h) fun _ H4 e4 => ?_
        refine q_when (b := false) (et_and (a := false) (b := false) (et_is (et_test (ev_op (ev_var rfl) ev_c (rv_eq rfl))) (by decide +kernel)) fun h => nomatch h) (fun h => nomatch h) fun _ H5 e5 => ?_
        exact s_ret ev_c fun H6 e6 => k H6 (((e13.trans e4).trans e5).trans e6)
      | fin x =>
        obtain ⟨hp, _⟩ := hf
        have hg : c.endC = false := hg
        refine q_asg (v := .str "end") (ev_ixT (ev_var rfl) (e1 _ _ hp) ev_c (atI_nat (j := 0) rfl)) fun H2 e2 => ?_
        have e12 := e1.trans e2
        refine q_when (b := false) (et_or (a := false) (b := false) (et_and (a := false) (b := false) (et_is (et_test (ev_op (ev_var rfl) ev_c (rv_eq rfl))) (by decide +kernel)) fun h => nomatch h) fun _ => et_and (a := false) (b := false) (et_is (et_test (ev_op (ev_var rfl) ev_c (rv_eq rfl))) (by decide +kernel)) fun h => nomatch h) (fun h => nomatch h) fun _ H3 e3 => ?_
        have e13 := e12.trans e3
        refine q_when (b := false) (et_is (et_and (b := false) (et_B ((h.ex e13).ec T (ev_var rfl))) fun z => ?_) ?_) (fun h => nomatch h) fun _ H4 e4 => ?_
        · rw [hg] at z
          cases z
        · rw [hg]
          rfl
        refine q_when (b := false) (et_and (a := false) (b := false) (et_is (et_test (ev_op (ev_var rfl) ev_c (rv_eq rfl))) (by decide +kernel)) fun h => nomatch h) (fun h => nomatch h) fun _ H5 e5 => ?_
        exact s_ret ev_c fun H6 e6 => k H6 (((e13.trans e4).trans e5).trans e6)
      | rst x m =>
        obtain ⟨hp, _⟩ := hf
        refine q_asg (v := .str "reset") (ev_ixT (ev_var rfl) (e1 _ _ hp) ev_c (atI_nat (j := 0) rfl)) fun H2 e2 => ?_
        have e12 := e1.trans e2
        refine q_when (b := false) (et_or (a := false) (b := false) (et_and (a := false) (b := false) (et_is (et_test (ev_op (ev_var rfl) ev_c (rv_eq rfl))) (by decide +kernel)) fun h => nomatch h) fun _ => et_and (a := false) (b := false) (et_is (et_test (ev_op (ev_var rfl) ev_c (rv_eq rfl))) (by decide +kernel)) fun h => nomatch h) (fun h => nomatch h) fun _ H3 e3 => ?_
        have e13 := e12.trans e3
        refine q_when (b := false) (et_is (et_and (b := false) (et_B ((h.ex e13).ec T (ev_var rfl))) fun _ => et_is (et_or (et_test (ev_op (ev_var rfl) ev_c (rv_eq rfl))) fun _ => et_test (ev_op (ev_var rfl) ev_c (rv_eq rfl))) (by decide +kernel)) (by simp)) (fun h => nomatch h) fun _ H4 e4 => ?_
        refine q_when (b := false) (et_and (a := false) (b := false) (et_is (et_test (ev_op (ev_var rfl) ev_c (rv_eq rfl))) (by decide +kernel)) fun h => nomatch h) (fun h => nomatch h) fun _ H5 e5 => ?_
        exact s_ret ev_c fun H6 e6 => k H6 (((e13.trans e4).trans e5).trans e6)

/-! ### take_frame -/
def spTakeF (C : Addr) : Sp := fun vs H Q _ => ∃ (o : Ow) (i : Nat) (n : Int) (a p : Addr) (c : Ch) (f : Fr), vs = [.ref a, .ref p] ∧ ChX C o H i n a c ∧ FrAt o H p f ∧ i ≠ 9 ∧ GoodC c f ∧ (∀ x d, f = .oct x d → c.ready.length + d.length ≤ 100000) ∧
  ∀ o' H', ChX C o' H' i n a (takeF c f) → Keep (OfC i n) o H o' H' → Q .non H'
theorem scTakeF : FnScope ["self", "frame"] ["self", "frame"] (defScope (sCh 6)) := ⟨rfl, rfl, rfl, by decide +kernel, rfl, by decide +kernel, by decide +kernel⟩
theorem ok_takef {f : Addr} {fd : FuncData} (F : Fun K "take_frame" "Channel.take_frame" (sCh 6) f fd) (T : Txt K mg C D) (M : Mt P w K mg base C "drop_all" 1 ["self", "place", "code"] (spDrop C)) : FnOk P w K mg base CX0 2 f fd ["self", "frame"] (spTakeF C) := by
  refine F.ok scTakeF (fun vs H Q E h => ?_) (fun cdv A outer s H vs Q E hr h => ?_)
  · obtain ⟨o, i, n, a, p, c, f, rfl, _⟩ := h
    rfl
  · obtain ⟨o, i, n, a, p, c, f, rfl, ⟨dx, q, r, t, h⟩, hf, hi, hg, hl, k⟩ := h
    refine ⟨_, pss_cons (ps_if (pt_cmpR op_notN (pe_fld (pv 0) rfl) pe_non (nomark _)) (pss_one ps_retN) pss_nil)
      (pss_one (ps_if (pt_cmpR op_eq (pe_ix ix_tup (pv 1) pe_int (fun _ _ => rfl)) pe_str (nomark _))
        (pss_cons (ps_expr (pe_bm PySem.F.plainAttrs_list PySem.F.slot_list_extend PySem.F.type_list_extend mt_extend (pe_fld (pv 0) rfl) (pa_cons (pe_ix ix_tup (pv 1) pe_int (fun _ _ => rfl)) pa_nil)))
          (pss_one (ps_fldaug (pv 0) (pe_callB call_len_seq (by rfl) T.len PySem.boot_len (pa_cons (pe_ix ix_tup (pv 1) pe_int (fun _ _ => rfl)) pa_nil)) in_sub)))
        (pss_one (ps_if (pt_cmpR op_eq (pe_ix ix_tup (pv 1) pe_int (fun _ _ => rfl)) pe_str (nomark _)) (pss_one (ps_fldaug (pv 0) (pe_ix ix_tup (pv 1) pe_int (fun _ _ => rfl)) in_add))
          (pss_one (ps_if (pt_cmpR op_eq (pe_ix ix_tup (pv 1) pe_int (fun _ _ => rfl)) pe_str (nomark _)) (pss_one (ps_fld (pv 0) pe_bl rfl))
            (pss_one (ps_expr (pmt M fun _ _ m g b => pe_meth (pv 0) T.clC m g hr b .nil pass0 (pa_cons pe_str (pa_cons (pe_ix ix_tup (pv 1) pe_int (fun _ _ => rfl)) pa_nil))))))))))), ?_⟩
    cases e : c.rst with
    | some bk =>
      refine q_when (b := true) (et_is (et_test (ev_op (h.rb T (ev_var rfl)) ev_c rv_notN)) (by rw [rst_some, e]; rfl)) (fun _ H1 e1 => ?_) fun h => nomatch h
      refine s_retN (k o H1 ?_ (.ex e1))
      have et : takeF c f = c := by simp [takeF, e]
      rw [et]
      exact ⟨dx, q, r, t, h.ex e1⟩
    | none =>
      refine q_when (b := false) (et_is (et_test (ev_op (h.rb T (ev_var rfl)) ev_c rv_notN)) (by rw [rst_some, e]; rfl)) (fun h => nomatch h) fun _ H1 e1 => ?_
      have h1 := h.ex e1
      cases f with
      | opn x =>
        rcases hg with ⟨j, z⟩ | ⟨_, z⟩
        · rw [e] at z
          cases z
        · exact z.elim
      | oct x d =>
        obtain ⟨⟨l, hp, hd, ol⟩, _⟩ := hf
        have hll := hl x d rfl
        refine s_if (b := true) (et_is (et_test (ev_op (ev_ixT (ev_var rfl) (e1 _ _ hp) ev_c (atI_nat (j := 0) rfl)) ev_c (rv_eq rfl))) (by decide +kernel)) (fun _ H2 e2 => ?_) fun h => nomatch h
        have e12 := e1.trans e2
        have h2 := h.ex e12
        refine q_ext h2.rd (h2.ar T (ev_var rfl)) (evm_ref (ev_ixT (ev_var rfl) (e12 _ _ hp) ev_c (atI_nat (j := 2) rfl)) (e12 _ _ hd)) (by rw [il_length, il_length]; exact hll) fun H3 e3 => ?_
        have e13 := e12.trans e3
        have ej : il c.ready ++ il d = il (c.ready ++ d) := by simp [il]
        rw [ej]
        have h3 := (h2.ex e3).rset (l := c.ready ++ d)
        have lr : l ≠ r := ne_rl ol h.ord (by intro z; exact hi (congrArg Prod.fst z).symm)
        have pr : p ≠ r := ne_of hp h.rd (by intro z; cases z)
        have hp3 : (upd H3 r (.lst (il (c.ready ++ d)))) p = _ := (upd_ne pr).trans (e13 _ _ hp)
        have hd3 : (upd H3 r (.lst (il (c.ready ++ d)))) l = _ := (upd_ne lr).trans (e13 _ _ hd)
        have hix : Ev (tOp (rIxT K) (tVar 1) (tC (.int 2))) [some (.ref a), some (.ref p)] (upd H3 r (.lst (il (c.ready ++ d)))) (.ref l) := ev_ixT (ev_var rfl) hp3 ev_c (atI_nat (j := 2) rfl)
        have hlen := ev_lenM (K := K) (evm_ref hix hd3)
        rw [il_length] at hlen
        refine s_fldSub (ev_var rfl) h3.ob T.clC (T.naC _ in_due) ch_due hlen (lt1000 rfl) fun H4 e4 => ?_
        have et : takeF c (.oct x d) = { c with ready := c.ready ++ d, due := c.due - d.length } := by simp [takeF, e]
        refine k o _ ?_ ?_
        · rw [et]
          exact ⟨dx, q, r, t, (h3.ex e4).wr (c' := { c with ready := c.ready ++ d, due := c.due - d.length }) rfl rfl rfl (ch_put_due (d := .int c.due))⟩
        · have kr : OfC i n (o r) := by rw [h.ord]; exact ⟨rfl, rfl, Nat.le_of_ble_eq_true rfl⟩
          intro y z hy hs
          have ny : y ≠ a := fun z => hs (by rw [z]; exact h.ka)
          have nr : y ≠ r := fun z => hs (by rw [z]; exact kr)
          refine ⟨?_, rfl⟩
          rw [upd_ne ny]
          refine e4 _ _ ?_
          rw [upd_ne nr]
          exact e13 _ _ hy
      | per x m =>
        obtain ⟨hp, _⟩ := hf
        refine s_if (b := false) (et_is (et_test (ev_op (ev_ixT (ev_var rfl) (e1 _ _ hp) ev_c (atI_nat (j := 0) rfl)) ev_c (rv_eq rfl))) (by decide +kernel)) (fun h => nomatch h) fun _ H2 e2 => ?_
        have e12 := e1.trans e2
        refine s_if (b := true) (et_is (et_test (ev_op (ev_ixT (ev_var rfl) (e12 _ _ hp) ev_c (atI_nat (j := 0) rfl)) ev_c (rv_eq rfl))) (by decide +kernel)) (fun _ H3 e3 => ?_) fun h => nomatch h
        have e13 := e12.trans e3
        have h3 := h.ex e13
        refine s_fldAdd (ev_var rfl) h3.ob T.clC (T.naC _ in_credit) ch_credit (ev_ixT (ev_var rfl) (e13 _ _ hp) ev_c (atI_nat (j := 2) rfl)) (lt1000 rfl) fun H4 e4 => ?_
        have et : takeF c (.per x m) = { c with credit := c.credit + m } := by simp [takeF, e]
        refine k o _ ?_ (h.kp (e13.trans e4))
        rw [et]
        exact ⟨dx, q, r, t, (h3.ex e4).wr (c' := { c with credit := c.credit + m }) rfl rfl rfl (ch_put_credit (c := .int c.credit))⟩
      | fin x =>
        obtain ⟨hp, _⟩ := hf
        refine s_if (b := false) (et_is (et_test (ev_op (ev_ixT (ev_var rfl) (e1 _ _ hp) ev_c (atI_nat (j := 0) rfl)) ev_c (rv_eq rfl))) (by decide +kernel)) (fun h => nomatch h) fun _ H2 e2 => ?_
        have e12 := e1.trans e2
        refine s_if (b := false) (et_is (et_test (ev_op (ev_ixT (ev_var rfl) (e12 _ _ hp) ev_c (atI_nat (j := 0) rfl)) ev_c (rv_eq rfl))) (by decide +kernel)) (fun h => nomatch h) fun _ H3 e3 => ?_
        have e13 := e12.trans e3
        refine s_if (b := true) (et_is (et_test (ev_op (ev_ixT (ev_var rfl) (e13 _ _ hp) ev_c (atI_nat (j := 0) rfl)) ev_c (rv_eq rfl))) (by decide +kernel)) (fun _ H4 e4 => ?_) fun h => nomatch h
        have e14 := e13.trans e4
        have h4 := h.ex e14
        refine s_fld ev_c (ev_var rfl) h4.ob T.clC (T.naC _ in_end_came) (lt1000 rfl) fun H5 e5 => ?_
        have et : takeF c (.fin x) = { c with endC := true } := by simp [takeF, e]
        refine k o _ ?_ (h.kp (e14.trans e5))
        rw [et]
        exact ⟨dx, q, r, t, (h4.ex e5).wr (c' := { c with endC := true }) rfl rfl rfl (ch_put_end_came (ec := .bl c.endC))⟩
      | rst x j =>
        obtain ⟨hp, _⟩ := hf
        refine s_if (b := false) (et_is (et_test (ev_op (ev_ixT (ev_var rfl) (e1 _ _ hp) ev_c (atI_nat (j := 0) rfl)) ev_c (rv_eq rfl))) (by decide +kernel)) (fun h => nomatch h) fun _ H2 e2 => ?_
        have e12 := e1.trans e2
        refine s_if (b := false) (et_is (et_test (ev_op (ev_ixT (ev_var rfl) (e12 _ _ hp) ev_c (atI_nat (j := 0) rfl)) ev_c (rv_eq rfl))) (by decide +kernel)) (fun h => nomatch h) fun _ H3 e3 => ?_
        have e13 := e12.trans e3
        refine s_if (b := false) (et_is (et_test (ev_op (ev_ixT (ev_var rfl) (e13 _ _ hp) ev_c (atI_nat (j := 0) rfl)) ev_c (rv_eq rfl))) (by decide +kernel)) (fun h => nomatch h) fun _ H4 e4 => ?_
        have e14 := e13.trans e4
        have h4 := h.ex e14
        have et : takeF c (.rst x j) = dropAll c false j := by simp [takeF, e]
        refine s_meth (ev_var rfl) h4.ob rfl (ea_cons ev_c (ea_cons (ev_ixT (ev_var rfl) (e14 _ _ hp) ev_c (atI_nat (j := 2) rfl)) ea_nil)) fun H5 e5 => ?_
        refine ⟨o, i, n, a, c, false, j, rfl, ⟨dx, q, r, t, h4.ex e5⟩, fun o' H' hx kx => k o' H' ?_ ((Keep.ex (e14.trans e5)).trans kx)⟩
        rw [et]
        exact hx
end Thl

/-! A side: what stands at an address, and its small defs. -/
namespace Thl
open PySem PySem.Spec PyProof.Rows L2 Evl
variable {P : Program} {w : World} {K : PySem.W.Frag} {mg : Str → Option Value} {base : Heap} {C D : Addr}
/-- the side i stands at p: og waits to go, ic waits for the rest of its frame -/
structure SdAt (C D : Addr) (o : Ow) (H : Hp) (i : Nat) (p : Addr) (A : Co) (og ic : List Int) (dx d ln lt lo li : Addr) (kvs : List (Key × V)) : Prop where
  ob : H p = some (.ins D dx (sdFs (.bl A.first) (.int A.win) (.int A.most) .non (.ref d) (.ref ln) (.ref lt) (.int (A.opened : Int)) (.int (A.came : Int)) (.int 0) (.ref lo) (.ref li)))
  dd : H d = some (.dK kvs)
  nn : H ln = some (.lst (il A.nums))
  tt : H lt = some (.lst (il A.turns))
  oo : H lo = some (.lst (il og))
  ii : H li = some (.lst (il ic))
  rp : o p = (i, -1, 0)
  rd : o d = (i, -1, 1)
  rn : o ln = (i, -1, 2)
  rt : o lt = (i, -1, 3)
  ro : o lo = (i, -1, 4)
  ri : o li = (i, -1, 5)
  chs : ∀ n, n ∈ A.turns → ∃ a, valV kvs (.inl n) = some (.ref a) ∧ ChX C o H i n a (A.ch n)
  non : ∀ n, n ∉ A.turns → valV kvs (.inl n) = none
  kl : kvs.length = A.turns.length
def SdX (C D : Addr) (o : Ow) (H : Hp) (i : Nat) (p : Addr) (A : Co) (og ic : List Int) : Prop := ∃ dx d ln lt lo li kvs, SdAt C D o H i p A og ic dx d ln lt lo li kvs
section
variable {o o' : Ow} {H H' : Hp} {i : Nat} {p dx d ln lt lo li : Addr} {A : Co} {og ic : List Int} {kvs : List (Key × V)} {te : TE} {σ : L2.St} {S : Role → Prop}
theorem SdAt.keep (h : SdAt C D o H i p A og ic dx d ln lt lo li kvs) (k : Keep S o H o' H') (hs : ∀ r : Role, r.1 = i → ¬ S r) : SdAt C D o' H' i p A og ic dx d ln lt lo li kvs := by
  have h1 := k _ _ h.ob (by rw [h.rp]; exact hs _ rfl)
  have h2 := k _ _ h.dd (by rw [h.rd]; exact hs _ rfl)
  have h3 := k _ _ h.nn (by rw [h.rn]; exact hs _ rfl)
  have h4 := k _ _ h.tt (by rw [h.rt]; exact hs _ rfl)
  have h5 := k _ _ h.oo (by rw [h.ro]; exact hs _ rfl)
  have h6 := k _ _ h.ii (by rw [h.ri]; exact hs _ rfl)
  exact ⟨h1.1, h2.1, h3.1, h4.1, h5.1, h6.1, h1.2.trans h.rp, h2.2.trans h.rd, h3.2.trans h.rn, h4.2.trans h.rt, h5.2.trans h.ro, h6.2.trans h.ri, fun n hn => by
    obtain ⟨a, e, x⟩ := h.chs n hn
    exact ⟨a, e, x.keep k fun j _ => hs _ rfl⟩, h.non, h.kl⟩
theorem SdAt.ex (h : SdAt C D o H i p A og ic dx d ln lt lo li kvs) (e : Ex H H') : SdAt C D o H' i p A og ic dx d ln lt lo li kvs := h.keep (S := fun _ => False) (.ex e) fun _ _ => id
theorem SdX.keep (h : SdX C D o H i p A og ic) (k : Keep S o H o' H') (hs : ∀ r : Role, r.1 = i → ¬ S r) : SdX C D o' H' i p A og ic := by
  obtain ⟨dx, d, ln, lt, lo, li, kvs, h⟩ := h
  exact ⟨dx, d, ln, lt, lo, li, kvs, h.keep k hs⟩
theorem SdX.ex (h : SdX C D o H i p A og ic) (e : Ex H H') : SdX C D o H' i p A og ic := h.keep (S := fun _ => False) (.ex e) fun _ _ => id
theorem SdAt.put (h : SdAt C D o H i p A og ic dx d ln lt lo li kvs) {x : Addr} {r : Role} (hx : H x = none) : SdAt C D (o.put x r) H i p A og ic dx d ln lt lo li kvs := h.keep (S := fun _ => False) (Keep.refl.own hx) fun _ _ => id
/-- one channel changes -/
theorem SdAt.chan (h : SdAt C D o H i p A og ic dx d ln lt lo li kvs) {n : Int} {a : Addr} {c : Ch} (hn : n ∈ A.turns) (hv : valV kvs (.inl n) = some (.ref a)) (k : Keep (OfC i n) o H o' H') (hc : ChX C o' H' i n a c) :
    SdAt C D o' H' i p (A.set n c) og ic dx d ln lt lo li kvs := by
  have hs : ∀ j, j < 10 → ¬ OfC i n ((i, -1, j) : Role) := fun j hj z => by
    have z3 : 10 ≤ j := z.2.2
    omega
  have h1 := k _ _ h.ob (by rw [h.rp]; exact hs _ (by decide))
  have h2 := k _ _ h.dd (by rw [h.rd]; exact hs _ (by decide))
  have h3 := k _ _ h.nn (by rw [h.rn]; exact hs _ (by decide))
  have h4 := k _ _ h.tt (by rw [h.rt]; exact hs _ (by decide))
  have h5 := k _ _ h.oo (by rw [h.ro]; exact hs _ (by decide))
  have h6 := k _ _ h.ii (by rw [h.ri]; exact hs _ (by decide))
  refine ⟨h1.1, h2.1, h3.1, h4.1, h5.1, h6.1, h1.2.trans h.rp, h2.2.trans h.rd, h3.2.trans h.rn, h4.2.trans h.rt, h5.2.trans h.ro, h6.2.trans h.ri, fun m hm => ?_, h.non, h.kl⟩
  by_cases e : m = n
  · subst e
    refine ⟨a, hv, ?_⟩
    rw [Co.set_same]
    exact hc
  · obtain ⟨b, eb, x⟩ := h.chs m hm
    refine ⟨b, eb, ?_⟩
    rw [Co.set_ne _ _ e]
    exact x.keep k fun j _ z => e z.2.1
theorem Keep.c2s {n : Int} (k : Keep (OfC i n) o H o' H') : Keep (OfS i) o H o' H' := k.mono fun _ z => z.1
theorem in_accepted : ("_accepted" : Str) ∈ sdNames := by decide +kernel
theorem in_sfirst_side : ("first_side" : Str) ∈ sdNames := by decide +kernel
theorem SdAt.e_first (h : SdAt C D o H i p A og ic dx d ln lt lo li kvs) (T : Txt K mg C D) (ht : Ev te σ H (.ref p)) : Ev (tFld K te "first_side") σ H (.bl A.first) := ev_fld ht h.ob T.clD (T.naD _ in_sfirst_side) sd_first
theorem in_swindow : ("window" : Str) ∈ sdNames := by decide +kernel
theorem SdAt.e_window (h : SdAt C D o H i p A og ic dx d ln lt lo li kvs) (T : Txt K mg C D) (ht : Ev te σ H (.ref p)) : Ev (tFld K te "window") σ H (.int A.win) := ev_fld ht h.ob T.clD (T.naD _ in_swindow) sd_window
theorem in_smost : ("most" : Str) ∈ sdNames := by decide +kernel
theorem SdAt.e_most (h : SdAt C D o H i p A og ic dx d ln lt lo li kvs) (T : Txt K mg C D) (ht : Ev te σ H (.ref p)) : Ev (tFld K te "most") σ H (.int A.most) := ev_fld ht h.ob T.clD (T.naD _ in_smost) sd_most
theorem in_sfailure : ("failure" : Str) ∈ sdNames := by decide +kernel
theorem SdAt.e_failure (h : SdAt C D o H i p A og ic dx d ln lt lo li kvs) (T : Txt K mg C D) (ht : Ev te σ H (.ref p)) : Ev (tFld K te "failure") σ H (.non) := ev_fld ht h.ob T.clD (T.naD _ in_sfailure) sd_failure
theorem in_s_channels : ("_channels" : Str) ∈ sdNames := by decide +kernel
theorem SdAt.e_chans (h : SdAt C D o H i p A og ic dx d ln lt lo li kvs) (T : Txt K mg C D) (ht : Ev te σ H (.ref p)) : Ev (tFld K te "_channels") σ H (.ref d) := ev_fld ht h.ob T.clD (T.naD _ in_s_channels) sd_channels
theorem in_s_numbers : ("_numbers" : Str) ∈ sdNames := by decide +kernel
theorem SdAt.e_nums (h : SdAt C D o H i p A og ic dx d ln lt lo li kvs) (T : Txt K mg C D) (ht : Ev te σ H (.ref p)) : Ev (tFld K te "_numbers") σ H (.ref ln) := ev_fld ht h.ob T.clD (T.naD _ in_s_numbers) sd_numbers
theorem in_s_turns : ("_turns" : Str) ∈ sdNames := by decide +kernel
theorem SdAt.e_turns (h : SdAt C D o H i p A og ic dx d ln lt lo li kvs) (T : Txt K mg C D) (ht : Ev te σ H (.ref p)) : Ev (tFld K te "_turns") σ H (.ref lt) := ev_fld ht h.ob T.clD (T.naD _ in_s_turns) sd_turns
theorem in_s_opened : ("_opened" : Str) ∈ sdNames := by decide +kernel
theorem SdAt.e_opened (h : SdAt C D o H i p A og ic dx d ln lt lo li kvs) (T : Txt K mg C D) (ht : Ev te σ H (.ref p)) : Ev (tFld K te "_opened") σ H (.int (A.opened : Int)) := ev_fld ht h.ob T.clD (T.naD _ in_s_opened) sd_opened
theorem in_s_came : ("_came" : Str) ∈ sdNames := by decide +kernel
theorem SdAt.e_came (h : SdAt C D o H i p A og ic dx d ln lt lo li kvs) (T : Txt K mg C D) (ht : Ev te σ H (.ref p)) : Ev (tFld K te "_came") σ H (.int (A.came : Int)) := ev_fld ht h.ob T.clD (T.naD _ in_s_came) sd_came
theorem in_s_outgoing : ("_outgoing" : Str) ∈ sdNames := by decide +kernel
theorem SdAt.e_outg (h : SdAt C D o H i p A og ic dx d ln lt lo li kvs) (T : Txt K mg C D) (ht : Ev te σ H (.ref p)) : Ev (tFld K te "_outgoing") σ H (.ref lo) := ev_fld ht h.ob T.clD (T.naD _ in_s_outgoing) sd_outgoing
theorem in_s_incoming : ("_incoming" : Str) ∈ sdNames := by decide +kernel
theorem SdAt.e_inc (h : SdAt C D o H i p A og ic dx d ln lt lo li kvs) (T : Txt K mg C D) (ht : Ev te σ H (.ref p)) : Ev (tFld K te "_incoming") σ H (.ref li) := ev_fld ht h.ob T.clD (T.naD _ in_s_incoming) sd_incoming
end
/-- a new object -/
def EvN (te : TE) (σ : L2.St) (H : Hp) (x : HO) : Prop := ∀ H1, Ex H H1 → ∀ Q : VK, (∀ p H2, H1 p = none → Ex H1 H2 → H2 p = some x → Q (.ref p) H2) → te σ H1 Q
theorem en_lst {te : TE} {σ : L2.St} {H : Hp} {xs : List V} (h : EvL te σ H xs) : EvN te σ H (.lst xs) := h
theorem q_fldN {ta tv : TE} {tz : TS} {σ : L2.St} {H : Hp} {E : Ends} {a F dx : Addr} {fs : List (Str × V)} {f : Str} {x : HO} (hv : EvN tv σ H x) (ha : Ev ta σ H (.ref a)) (ho : H a = some (.ins F dx fs)) (c : Cls K F) (na : NoAttr K F f) (hl : fs.length < 1000)
    (k : ∀ p H1, H p = none → Ex H H1 → H1 p = some x → tz E σ (upd H1 a (.ins F dx (putF f (.ref p) fs)))) : tSeq (sFld K ta tv f) tz E σ H :=
  hv H (Ex.refl H) _ fun p H1 hp e1 h1 => ha H1 e1 _ fun H2 e2 => ⟨a, F, dx, fs, rfl, (e1.trans e2) _ _ ho, c, na, hl, k p H2 hp (e1.trans e2) (e2 _ _ h1)⟩
theorem s_fldN {ta tv : TE} {σ : L2.St} {H : Hp} {E : Ends} {a F dx : Addr} {fs : List (Str × V)} {f : Str} {x : HO} (hv : EvN tv σ H x) (ha : Ev ta σ H (.ref a)) (ho : H a = some (.ins F dx fs)) (c : Cls K F) (na : NoAttr K F f) (hl : fs.length < 1000)
    (k : ∀ p H1, H p = none → Ex H H1 → H1 p = some x → E.nx σ (upd H1 a (.ins F dx (putF f (.ref p) fs)))) : sFld K ta tv f E σ H :=
  hv H (Ex.refl H) _ fun p H1 hp e1 h1 => ha H1 e1 _ fun H2 e2 => ⟨a, F, dx, fs, rfl, (e1.trans e2) _ _ ho, c, na, hl, k p H2 hp (e1.trans e2) (e2 _ _ h1)⟩

/-! ### __len__, __iter__ -/
def spLen (C D : Addr) : Sp := fun vs H Q _ => ∃ (o : Ow) (i : Nat) (p : Addr) (A : Co) (og ic : List Int), vs = [.ref p] ∧ SdX C D o H i p A og ic ∧ RetV (.int (A.nums.length : Int)) H Q
theorem scLen : FnScope ["self"] ["self"] (defScope (sSd 2)) := ⟨rfl, rfl, rfl, by decide +kernel, rfl, by decide +kernel, by decide +kernel⟩
theorem ok_len {f : Addr} {fd : FuncData} (F : Fun K "__len__" "Channels.__len__" (sSd 2) f fd) (T : Txt K mg C D) : FnOk P w K mg base CX0 1 f fd ["self"] (spLen C D) := by
  refine F.ok scLen (fun vs H Q E h => ?_) (fun cdv A outer s H vs Q E hr h => ?_)
  · obtain ⟨o, i, p, A, og, ic, rfl, _⟩ := h
    rfl
  · obtain ⟨o, i, p, A, og, ic, rfl, ⟨dx, d, ln, lt, lo, li, kvs, h⟩, k⟩ := h
    refine ⟨_, pss_one (ps_ret (pe_callB call_len_seq (by rfl) T.len PySem.boot_len (pa_cons (pe_fld (pv 0) rfl) pa_nil))), ?_⟩
    have z := ev_lenM (K := K) (evm_ref (h.e_nums T (ev_var (i := 0) (σ := [some (.ref p)]) rfl)) h.nn)
    rw [il_length] at z
    exact s_ret z k
abbrev lkN : List (Str × V) → Option V := fun fs => fs.lookup ("_numbers" : Str)
theorem scIter : FnScope ["self"] ["self"] (defScope (sSd 3)) := ⟨rfl, rfl, rfl, by decide +kernel, rfl, by decide +kernel, by decide +kernel⟩
theorem ok_iter {f : Addr} {fd : FuncData} (F : Fun K "__iter__" "Channels.__iter__" (sSd 3) f fd) (T : Txt K mg C D) : FnS P w K mg base 1 f fd ["self"] (spIter D lkN) := by
  refine fns_of F scIter fun cdv A outer s H vs Q E hr h => ?_
  obtain ⟨a, dx, l, fs, xs, rfl, ha, hl, hxs, k⟩ := h
  refine ⟨_, pss_one (ps_ret (pe_callB ItX.call_iterN (by rfl) T.iter (by decide +kernel) (pa_cons (pe_fld (pv 0) rfl) pa_nil))), ?_⟩
  exact ⟨_, rfl, a, D, dx, fs, _, rfl, ha, T.clD, T.naD _ in_s_numbers, hl, l, xs, rfl, SqL.of hxs, k⟩

/-! ### _known, _theirs, _room -/
def spKnown (D : Addr) : Sp := fun vs H Q _ => ∃ (p dx d a : Addr) (n : Int) (fs : List (Str × V)) (kvs : List (Key × V)), vs = [.ref p, .int n] ∧ H p = some (.ins D dx fs) ∧ fs.lookup ("_channels" : Str) = some (.ref d) ∧ H d = some (.dK kvs) ∧ valV kvs (.inl n) = some (.ref a) ∧ RetV (.ref a) H Q
theorem scKnown : FnScope ["self", "channel"] ["self", "channel"] (defScope (sSd 14)) := ⟨rfl, rfl, rfl, by decide +kernel, rfl, by decide +kernel, by decide +kernel⟩
theorem ok_known {f : Addr} {fd : FuncData} (F : Fun K "_known" "Channels._known" (sSd 14) f fd) (T : Txt K mg C D) : FnOk P w K mg base CX0 1 f fd ["self", "channel"] (spKnown D) := by
  refine F.ok scKnown (fun vs H Q E h => ?_) (fun cdv A outer s H vs Q E hr h => ?_)
  · obtain ⟨p, dx, d, a, n, fs, kvs, rfl, _⟩ := h
    rfl
  · obtain ⟨p, dx, d, a, n, fs, kvs, rfl, hp, hl, hd, hv, k⟩ := h
    have hu := hu_of hr
    refine ⟨_, pss_cons (ps_if (pt_cmp (pc_dnotin hu (pv 1) (pe_fld (pv 0) rfl))) (pss_one ps_never) pss_nil) (pss_one (ps_ret (pe_dget hu (pe_fld (pv 0) rfl) (pv 1) (fun _ _ => rfl)))), ?_⟩
    refine q_when (b := false) (et_is (et_B (ev_dnotin (n := .inl n) (ev_var rfl) (ev_fld (ev_var rfl) hp T.clD (T.naD _ in_s_channels) hl) hd)) (by rw [hv]; rfl)) (fun h => nomatch h) fun _ H1 e1 => ?_
    exact s_ret (ev_dget (n := .inl n) (ev_fld (ev_var rfl) (e1 _ _ hp) T.clD (T.naD _ in_s_channels) hl) (e1 _ _ hd) (ev_var rfl) hv) fun H2 e2 => k H2 (e1.trans e2)
theorem sv_known {o : Ow} {H : Hp} {i : Nat} {p dx d ln lt lo li a : Addr} {A : Co} {og ic : List Int} {kvs : List (Key × V)} {n : Int} (h : SdAt C D o H i p A og ic dx d ln lt lo li kvs) (hv : valV kvs (.inl n) = some (.ref a)) : SpV (spKnown D) [.ref p, .int n] H (.ref a) :=
  fun H1 e Q q E => ⟨p, dx, d, a, n, _, kvs, rfl, e _ _ h.ob, sd_channels, e _ _ h.dd, hv, q⟩
def spTheirs (C D : Addr) : Sp := fun vs H Q _ => ∃ (o : Ow) (i : Nat) (p : Addr) (A : Co) (og ic : List Int) (j : Nat), vs = [.ref p, .int (j : Int)] ∧ SdX C D o H i p A og ic ∧ RetV (.int (num (!A.first) j)) H Q
theorem scTheirs : FnScope ["self", "place"] ["self", "place"] (defScope (sSd 15)) := ⟨rfl, rfl, rfl, by decide +kernel, rfl, by decide +kernel, by decide +kernel⟩
theorem ev_intB {te : TE} {σ : L2.St} {H : Hp} {b : Bool} (h : Ev te σ H (.bl b)) : Ev (tCB (fun xs H Q => (∃ i, xs = [V.int i] ∧ Q (.int i) H) ∨ ∃ k, xs = [.bl k] ∧ Q (.int (if k then 1 else 0)) H) (tCons te tNil)) σ H (.int (if b = true then 1 else 0)) :=
  ev_cb (ea_cons h ea_nil) fun H1 _ Q q => .inr ⟨b, rfl, q H1 (Ex.refl H1)⟩
theorem ev_intI {te : TE} {σ : L2.St} {H : Hp} {j : Int} (h : Ev te σ H (.int j)) : Ev (tCB (fun xs H Q => (∃ i, xs = [V.int i] ∧ Q (.int i) H) ∨ ∃ k, xs = [.bl k] ∧ Q (.int (if k then 1 else 0)) H) (tCons te tNil)) σ H (.int j) :=
  ev_cb (ea_cons h ea_nil) fun H1 _ Q q => .inl ⟨j, rfl, q H1 (Ex.refl H1)⟩
theorem ok_theirs {f : Addr} {fd : FuncData} (F : Fun K "_theirs" "Channels._theirs" (sSd 15) f fd) (T : Txt K mg C D) : FnOk P w K mg base CX0 1 f fd ["self", "place"] (spTheirs C D) := by
  refine F.ok scTheirs (fun vs H Q E h => ?_) (fun cdv A outer s H vs Q E hr h => ?_)
  · obtain ⟨o, i, p, A, og, ic, j, rfl, _⟩ := h
    rfl
  · obtain ⟨o, i, p, A, og, ic, j, rfl, ⟨dx, d, ln, lt, lo, li, kvs, h⟩, k⟩ := h
    refine ⟨_, pss_one (ps_ret (pe_op op_sub (pe_op op_mul pe_int (pv 1)) (pe_callTy call_int1 (by rfl) T.int (by decide +kernel) (pa_cons (pe_not (pe_fld (pv 0) rfl)) pa_nil)))), ?_⟩
    exact s_ret (ev_op (ev_op ev_c (ev_var rfl) (rv_I (.inl ⟨by decide, by decide⟩))) (ev_intB (ev_notV (h.e_first T (ev_var rfl)))) rv_I0) k
/-- what a write takes at most -/
def room (w : Int) (c : Ch) : Int := if c.fin = true ∨ c.rst.isSome = true then 0 else w - c.queue.length
def spRoom (C D : Addr) : Sp := fun vs H Q _ => ∃ (o : Ow) (i : Nat) (p a : Addr) (A : Co) (og ic : List Int) (n : Int) (c : Ch), vs = [.ref p, .ref a] ∧ SdX C D o H i p A og ic ∧ ChX C o H i n a c ∧ RetV (.int (room A.win c)) H Q
theorem scRoom : FnScope ["self", "known"] ["self", "known"] (defScope (sSd 17)) := ⟨rfl, rfl, rfl, by decide +kernel, rfl, by decide +kernel, by decide +kernel⟩
theorem ok_room {f : Addr} {fd : FuncData} (F : Fun K "_room" "Channels._room" (sSd 17) f fd) (T : Txt K mg C D) : FnOk P w K mg base CX0 1 f fd ["self", "known"] (spRoom C D) := by
  refine F.ok scRoom (fun vs H Q E h => ?_) (fun cdv A outer s H vs Q E hr h => ?_)
  · obtain ⟨o, i, p, a, A, og, ic, n, c, rfl, _⟩ := h
    rfl
  · obtain ⟨o, i, p, a, A, og, ic, n, c, rfl, ⟨dx, d, ln, lt, lo, li, kvs, h⟩, ⟨dx', q, r, t, hc⟩, k⟩ := h
    refine ⟨_, pss_cons (ps_if (PW.pt (pw_or (pt_val (pe_fld (pv 1) rfl)) (pw_or (pt_cmpR op_notN (pe_fld (pv 1) rfl) pe_non (nomark _)) (pw_or1 (pt_cmpR op_notN (pe_fld (pv 0) rfl) pe_non (nomark _)))))) (pss_one (ps_ret pe_int)) pss_nil)
      (pss_one (ps_ret (pe_op op_sub (pe_fld (pv 0) rfl) (pe_callB call_len_seq (by rfl) T.len PySem.boot_len (pa_cons (pe_fld (pv 1) rfl) pa_nil))))), ?_⟩
    refine q_when (b := c.fin || (c.rst.isSome || false)) (et_or (et_B (hc.fi T (ev_var rfl))) fun _ => et_or (et_is (et_test (ev_op (hc.rb T (ev_var rfl)) ev_c rv_notN)) (rst_some _ _)) fun _ => et_is (et_test (ev_op (h.e_failure T (ev_var rfl)) ev_c rv_notN)) rfl) (fun hb H1 e1 => ?_) fun hb H1 e1 => ?_
    · refine s_ret ev_c fun H2 e2 => ?_
      have e : room A.win c = 0 := by
        unfold room
        rw [if_pos (by simpa using hb)]
      rw [e] at k
      exact k H2 (e1.trans e2)
    · have h1 := h.ex e1
      have c1 := hc.ex e1
      have z := ev_lenM (K := K) (evm_ref (c1.fq T (ev_var (i := 1) (σ := [some (.ref p), some (.ref a)]) rfl)) c1.qu)
      rw [il_length] at z
      refine s_ret (ev_op (h1.e_window T (ev_var rfl)) z rv_I0) fun H2 e2 => ?_
      have e : room A.win c = A.win - c.queue.length := by
        unfold room
        rw [if_neg (by simpa using hb)]
      rw [e] at k
      exact k H2 (e1.trans e2)
end Thl

/-! A side: made, added to, opened. -/
namespace Thl
open PySem PySem.Spec PyProof.Rows L2 Evl
variable {P : Program} {w : World} {K : PySem.W.Frag} {mg : Str → Option Value} {base : Heap} {C D : Addr}
abbrev OfT (i : Nat) : Role → Prop := fun r => r.1 = i ∧ r.2.2 < 10
section
variable {o o' : Ow} {H H' H1 : Hp} {i : Nat} {p dx d ln lt lo li ln' lt' lo' li' : Addr} {A A' : Co} {og ic og' ic' : List Int} {kvs : List (Key × V)} {fs : List (Str × V)}
/-- the side's attributes change -/
theorem SdAt.attr (h : SdAt C D o H i p A og ic dx d ln lt lo li kvs) (hn : H ln' = some (.lst (il A'.nums))) (ht : H lt' = some (.lst (il A'.turns))) (ho : H lo' = some (.lst (il og'))) (hi : H li' = some (.lst (il ic')))
    (rn : o ln' = (i, -1, 2)) (rt : o lt' = (i, -1, 3)) (ro : o lo' = (i, -1, 4)) (ri : o li' = (i, -1, 5)) (e3 : A'.ch = A.ch) (e2 : ∀ n, n ∈ A'.turns ↔ n ∈ A.turns) (e4 : A'.turns.length = A.turns.length)
    (ef : fs = sdFs (.bl A'.first) (.int A'.win) (.int A'.most) .non (.ref d) (.ref ln') (.ref lt') (.int (A'.opened : Int)) (.int (A'.came : Int)) (.int 0) (.ref lo') (.ref li')) :
    SdAt C D o (upd H p (.ins D dx fs)) i p A' og' ic' dx d ln' lt' lo' li' kvs := by
  refine ⟨by rw [upd_same, ef], ?_, ?_, ?_, ?_, ?_, h.rp, h.rd, rn, rt, ro, ri, fun n hn' => ?_, fun n hn' => h.non n fun z => hn' ((e2 n).mpr z), by rw [h.kl, e4]⟩
  · rw [upd_ne (ne_rl h.rd h.rp (by simp))]
    exact h.dd
  · rw [upd_ne (ne_rl rn h.rp (by simp))]
    exact hn
  · rw [upd_ne (ne_rl rt h.rp (by simp))]
    exact ht
  · rw [upd_ne (ne_rl ro h.rp (by simp))]
    exact ho
  · rw [upd_ne (ne_rl ri h.rp (by simp))]
    exact hi
  · obtain ⟨a, e, x⟩ := h.chs n ((e2 n).mp hn')
    refine ⟨a, e, ?_⟩
    rw [e3]
    refine x.keep (S := OfT i) (Keep.refl.upd fun y _ => ?_) fun j hj z => ?_
    · rw [h.rp]
      exact ⟨rfl, Nat.le_of_ble_eq_true rfl⟩
    · have z2 : j < 10 := z.2
      omega
theorem SdAt.oset (h : SdAt C D o H i p A og ic dx d ln lt lo li kvs) : SdAt C D o (upd H lo (.lst (il og'))) i p A og' ic dx d ln lt lo li kvs := by
  refine ⟨?_, ?_, ?_, ?_, upd_same, ?_, h.rp, h.rd, h.rn, h.rt, h.ro, h.ri, fun n hn => ?_, h.non, h.kl⟩
  · rw [upd_ne (ne_rl h.rp h.ro (by simp))]
    exact h.ob
  · rw [upd_ne (ne_rl h.rd h.ro (by simp))]
    exact h.dd
  · rw [upd_ne (ne_rl h.rn h.ro (by simp))]
    exact h.nn
  · rw [upd_ne (ne_rl h.rt h.ro (by simp))]
    exact h.tt
  · rw [upd_ne (ne_rl h.ri h.ro (by simp))]
    exact h.ii
  · obtain ⟨a, e, x⟩ := h.chs n hn
    refine ⟨a, e, x.keep (S := OfT i) (Keep.refl.upd fun y _ => ?_) fun j hj z => ?_⟩
    · rw [h.ro]
      exact ⟨rfl, Nat.le_of_ble_eq_true rfl⟩
    · have z2 : j < 10 := z.2
      omega
theorem SdAt.iset (h : SdAt C D o H i p A og ic dx d ln lt lo li kvs) : SdAt C D o (upd H li (.lst (il ic'))) i p A og ic' dx d ln lt lo li kvs := by
  refine ⟨?_, ?_, ?_, ?_, ?_, upd_same, h.rp, h.rd, h.rn, h.rt, h.ro, h.ri, fun n hn => ?_, h.non, h.kl⟩
  · rw [upd_ne (ne_rl h.rp h.ri (by simp))]
    exact h.ob
  · rw [upd_ne (ne_rl h.rd h.ri (by simp))]
    exact h.dd
  · rw [upd_ne (ne_rl h.rn h.ri (by simp))]
    exact h.nn
  · rw [upd_ne (ne_rl h.rt h.ri (by simp))]
    exact h.tt
  · rw [upd_ne (ne_rl h.ro h.ri (by simp))]
    exact h.oo
  · obtain ⟨a, e, x⟩ := h.chs n hn
    refine ⟨a, e, x.keep (S := OfT i) (Keep.refl.upd fun y _ => ?_) fun j hj z => ?_⟩
    · rw [h.ri]
      exact ⟨rfl, Nat.le_of_ble_eq_true rfl⟩
    · have z2 : j < 10 := z.2
      omega
/-- a new channel: the dict, the numbers, the order of turns -/
theorem SdAt.added (h : SdAt C D o H i p A og ic dx d ln lt lo li kvs) {n : Int} {an : Bool} {a : Addr} (hn : n ∉ A.turns) (hc : ChX C o H i n a (Ch.new an)) (hl : H ln' = some (.lst (il (insort n A.nums)))) (rn : o ln' = (i, -1, 2))
    (ef : fs = sdFs (.bl A.first) (.int A.win) (.int A.most) .non (.ref d) (.ref ln') (.ref lt) (.int (A.opened : Int)) (.int (A.came : Int)) (.int 0) (.ref lo) (.ref li))
    (H' : Hp) (x1 : H' p = some (.ins D dx fs)) (x2 : H' d = some (.dK (putK kvs (.inl n) (.ref a)))) (x3 : H' lt = some (.lst (il (A.turns ++ [n])))) (k : Keep (fun r => r.1 = i ∧ r.2.2 < 10 ∧ r.2.2 ≠ 2 ∧ r.2.2 ≠ 4 ∧ r.2.2 ≠ 5) o H o H') :
    SdAt C D o H' i p (A.add n an) og ic dx d ln' lt lo li (putK kvs (.inl n) (.ref a)) := by
  have h2 := k _ _ hl (by rw [rn]; simp)
  have h5 := k _ _ h.oo (by rw [h.ro]; simp)
  have h6 := k _ _ h.ii (by rw [h.ri]; simp)
  have hs : ∀ m j, 10 ≤ j → ¬ (fun r : Role => r.1 = i ∧ r.2.2 < 10 ∧ r.2.2 ≠ 2 ∧ r.2.2 ≠ 4 ∧ r.2.2 ≠ 5) (i, m, j) := fun m j hj z => by
    have z2 : j < 10 := z.2.1
    omega
  refine ⟨by rw [x1, ef]; rfl, x2, h2.1, x3, h5.1, h6.1, h.rp, h.rd, rn, h.rt, h.ro, h.ri, fun m hm => ?_, fun m hm => ?_, ?_⟩
  · rw [valV_put]
    by_cases e : m = n
    · subst e
      refine ⟨a, if_pos rfl, ?_⟩
      show ChX C o H' i m a (if m = m then _ else _)
      rw [if_pos rfl]
      exact hc.keep k (hs m)
    · have hm' : m ∈ A.turns := by
        rcases List.mem_append.mp hm with z | z
        · exact z
        · exact absurd (List.mem_singleton.mp z) e
      obtain ⟨b, eb, x⟩ := h.chs m hm'
      refine ⟨b, ?_, ?_⟩
      · rw [if_neg (fun z => e (Sum.inl.inj z))]
        exact eb
      · show ChX C o H' i m b (if m = n then _ else _)
        rw [if_neg e]
        exact x.keep k (hs m)
  · have e : m ≠ n := fun z => hm (List.mem_append.mpr (.inr (List.mem_singleton.mpr z)))
    rw [valV_put, if_neg (fun z => e (Sum.inl.inj z))]
    exact h.non m fun z => hm (List.mem_append.mpr (.inl z))
  · rw [putK_new _ (h.non n hn), List.length_append, h.kl]
    show _ = (A.turns ++ [n]).length
    rw [List.length_append]
    rfl
end

/-! ### __init__ -/
def Co.init (f : Bool) (w m : Int) : Co := ⟨f, w, m, fun _ => Ch.new false, [], [], 0, 0⟩
def spSInit (C D : Addr) : Sp := fun vs H Q _ => ∃ (o : Ow) (i : Nat) (p dx : Addr) (f : Bool) (w m : Int), vs = [.ref p, .bl f, .int w, .int m] ∧ (1 ≤ w ∧ w ≤ 65535) ∧ (1 ≤ m ∧ m ≤ 65535) ∧ H p = some (.ins D dx []) ∧
  ∀ o' H', SdX C D o' H' i p (Co.init f w m) [] [] → (∀ b x, H b = some x → b ≠ p → H' b = some x ∧ o' b = o b) → Q .non H'
theorem scSInit : FnScope ["self", "first", "window", "most"] ["self", "first", "window", "most"] (defScope (sSd 1)) := ⟨rfl, rfl, rfl, by decide +kernel, rfl, by decide +kernel, by decide +kernel⟩
theorem en_dnew {σ : L2.St} {H : Hp} : EvN (fun _ H Q => ∀ d, H d = none → Q (.ref d) (upd H d (.dK []))) σ H (.dK []) := fun H1 _ Q q d hd => q d _ hd (Ex.new hd) upd_same
theorem ok_sinit {f : Addr} {fd : FuncData} (F : Fun K "__init__" "Channels.__init__" (sSd 1) f fd) (T : Txt K mg C D) : FnOk P w K mg base CX0 1 f fd ["self", "first", "window", "most"] (spSInit C D) := by
  refine F.ok scSInit (fun vs H Q E h => ?_) (fun cdv A outer s H vs Q E hr h => ?_)
  · obtain ⟨o, i, p, dx, f, w, m, rfl, _⟩ := h
    rfl
  · obtain ⟨o, i, p, dx, f, w, m, rfl, hw, hm, hp, k⟩ := h
    refine ⟨_, pss_cons (ps_if (PW.pt (pw_or (pt_not (pt_chain op_le op_le pe_int (pv 2) pe_int)) (pw_or1 (pt_not (pt_chain op_le op_le pe_int (pv 3) pe_int))))) (pss_one ps_never) pss_nil)
      (pss_cons (ps_fld (pv 0) (pv 1) rfl) (pss_cons (ps_fld (pv 0) (pv 2) rfl) (pss_cons (ps_fld (pv 0) (pv 3) rfl) (pss_cons (ps_fld (pv 0) pe_non rfl) (pss_cons (ps_fld (pv 0) pe_dnewK rfl) (pss_cons (ps_fld (pv 0) (pe_lst pa_nil) rfl) (pss_cons (ps_fld (pv 0) (pe_lst pa_nil) rfl)
      (pss_cons (ps_fld (pv 0) pe_int rfl) (pss_cons (ps_fld (pv 0) pe_int rfl) (pss_cons (ps_fld (pv 0) pe_int rfl) (pss_cons (ps_fld (pv 0) (pe_lst pa_nil) rfl) (pss_one (ps_fld (pv 0) (pe_lst pa_nil) rfl))))))))))))), ?_⟩
    refine q_when (b := false) (et_is (et_or (et_not (et_test (ev_chain ev_c (ev_var rfl) rv_I0 (fun _ => ev_c) fun _ => rv_I0))) fun _ => et_not (et_test (ev_chain ev_c (ev_var rfl) rv_I0 (fun _ => ev_c) fun _ => rv_I0))) ?_) (fun h => nomatch h) fun _ H0 e0 => ?_
    · rw [decide_eq_true hw.1, decide_eq_true hw.2, decide_eq_true hm.1, decide_eq_true hm.2]
      rfl
    -- what stands beside self stays; a new thing is none of what stood
    have st : ∀ {Ha Hb : Hp} {y : HO}, (∀ b x, H b = some x → b ≠ p → Ha b = some x) → Ex Ha Hb → ∀ b x, H b = some x → b ≠ p → (upd Hb p y) b = some x := fun h e => ex_ne h e
    have fr : ∀ {Ha : Hp} {z : Addr} {y : HO}, (∀ b x, H b = some x → b ≠ p → Ha b = some x) → Ha p = some y → Ha z = none → z ≠ p ∧ H z = none := fun {Ha z y} h hpa hz => by
      have ne : z ≠ p := fun q => by
        rw [q, hpa] at hz
        cases hz
      refine ⟨ne, ?_⟩
      cases q : H z with
      | none => rfl
      | some x =>
        rw [h _ _ q ne] at hz
        cases hz
    have mv : ∀ {Ha Hb : Hp} {z : Addr} {y y' : HO}, z ≠ p → Ha z = some y → Ex Ha Hb → (upd Hb p y') z = some y := fun ne h e => by
      rw [upd_ne ne]
      exact e _ _ h
    refine q_fld (ev_var rfl) (ev_var rfl) (e0 _ _ hp) T.clD (T.naD _ in_sfirst_side) (lt1000 rfl) fun H1 e1 => ?_
    refine q_fld (ev_var rfl) (ev_var rfl) upd_same T.clD (T.naD _ in_swindow) (lt1000 rfl) fun H2 e2 => ?_
    refine q_fld (ev_var rfl) (ev_var rfl) upd_same T.clD (T.naD _ in_smost) (lt1000 rfl) fun H3 e3 => ?_
    refine q_fld ev_c (ev_var rfl) upd_same T.clD (T.naD _ in_sfailure) (lt1000 rfl) fun H4 e4 => ?_
    have k4 := st (st (st (st (fun b x h _ => h) (e0.trans e1)) e2) e3) e4 (y := .ins D dx (putF "failure" .non (putF "most" (.int m) (putF "window" (.int w) (putF "first_side" (.bl f) [])))))
    refine q_fldN en_dnew (ev_var rfl) upd_same T.clD (T.naD _ in_s_channels) (lt1000 rfl) fun d H5 hd e5 g5 => ?_
    obtain ⟨nd, hd0⟩ := fr k4 upd_same hd
    have k5 := st k4 e5 (y := .ins D dx (putF "_channels" (.ref d) (putF "failure" .non (putF "most" (.int m) (putF "window" (.int w) (putF "first_side" (.bl f) []))))))
    refine q_fldN (en_lst (el_lst ea_nil (by show 0 ≤ 100000; decide))) (ev_var rfl) upd_same T.clD (T.naD _ in_s_numbers) (lt1000 rfl) fun ln H6 hln e6 g6 => ?_
    obtain ⟨nn, hln0⟩ := fr k5 upd_same hln
    have d5 := mv nd g5 (Ex.refl _) (y' := .ins D dx (putF "_channels" (.ref d) (putF "failure" .non (putF "most" (.int m) (putF "window" (.int w) (putF "first_side" (.bl f) []))))))
    have ndn : d ≠ ln := ne_of_none d5 hln
    have k6 := st k5 e6 (y := .ins D dx (putF "_numbers" (.ref ln) (putF "_channels" (.ref d) (putF "failure" .non (putF "most" (.int m) (putF "window" (.int w) (putF "first_side" (.bl f) [])))))))
    have d6 := mv nd d5 e6 (y' := .ins D dx (putF "_numbers" (.ref ln) (putF "_channels" (.ref d) (putF "failure" .non (putF "most" (.int m) (putF "window" (.int w) (putF "first_side" (.bl f) [])))))))
    have n6 := mv nn g6 (Ex.refl _) (y' := .ins D dx (putF "_numbers" (.ref ln) (putF "_channels" (.ref d) (putF "failure" .non (putF "most" (.int m) (putF "window" (.int w) (putF "first_side" (.bl f) [])))))))
    refine q_fldN (en_lst (el_lst ea_nil (by show 0 ≤ 100000; decide))) (ev_var rfl) upd_same T.clD (T.naD _ in_s_turns) (lt1000 rfl) fun lt H7 hlt e7 g7 => ?_
    obtain ⟨nt, hlt0⟩ := fr k6 upd_same hlt
    have ndt : d ≠ lt := ne_of_none d6 hlt
    have nnt : ln ≠ lt := ne_of_none n6 hlt
    have k7 := st k6 e7 (y := .ins D dx (putF "_turns" (.ref lt) (putF "_numbers" (.ref ln) (putF "_channels" (.ref d) (putF "failure" .non (putF "most" (.int m) (putF "window" (.int w) (putF "first_side" (.bl f) []))))))))
    refine q_fld ev_c (ev_var rfl) upd_same T.clD (T.naD _ in_s_opened) (lt1000 rfl) fun H8 e8 => ?_
    refine q_fld ev_c (ev_var rfl) upd_same T.clD (T.naD _ in_s_came) (lt1000 rfl) fun H9 e9 => ?_
    refine q_fld ev_c (ev_var rfl) upd_same T.clD (T.naD _ in_accepted) (lt1000 rfl) fun H10 e10 => ?_
    have up : ∀ {z y y'}, z ≠ p → H7 z = some y → (upd H10 p y') z = some y := fun {z y y'} ne h => by
      rw [upd_ne ne]
      refine e10 _ _ ?_
      rw [upd_ne ne]
      refine e9 _ _ ?_
      rw [upd_ne ne]
      refine e8 _ _ ?_
      rw [upd_ne ne]
      exact h
    have k10 : ∀ {y'}, ∀ b x, H b = some x → b ≠ p → (upd H10 p y') b = some x := fun {y'} => st (st (st k7 e8) e9) e10
    refine q_fldN (en_lst (el_lst ea_nil (by show 0 ≤ 100000; decide))) (ev_var rfl) upd_same T.clD (T.naD _ in_s_outgoing) (lt1000 rfl) fun lo H11 hlo e11 g11 => ?_
    obtain ⟨no, hlo0⟩ := fr k10 upd_same hlo
    have ndo : d ≠ lo := ne_of_none (up nd (e7 _ _ d6)) hlo
    have nno : ln ≠ lo := ne_of_none (up nn (e7 _ _ n6)) hlo
    have nto : lt ≠ lo := ne_of_none (up nt g7) hlo
    refine s_fldN (en_lst (el_lst ea_nil (by show 0 ≤ 100000; decide))) (ev_var rfl) upd_same T.clD (T.naD _ in_s_incoming) (lt1000 rfl) fun li H12 hli e12 g12 => ?_
    have k11 : ∀ {y'}, ∀ b x, H b = some x → b ≠ p → (upd H11 p y') b = some x := fun {y'} => st (y := y') (k10 (y' := .ins D dx (putF "_accepted" (.int 0) (putF "_came" (.int 0) (putF "_opened" (.int 0) (putF "_turns" (.ref lt) (putF "_numbers" (.ref ln) (putF "_channels" (.ref d) (putF "failure" .non (putF "most" (.int m) (putF "window" (.int w) (putF "first_side" (.bl f) [])))))))))))) e11
    obtain ⟨ni, hli0⟩ := fr k11 upd_same hli
    have m11 : ∀ {z y y'}, z ≠ p → H7 z = some y → (upd H11 p y') z = some y := fun {z y y'} ne h => mv ne (up ne h) e11
    have ndi : d ≠ li := ne_of_none (m11 nd (e7 _ _ d6)) hli
    have nni : ln ≠ li := ne_of_none (m11 nn (e7 _ _ n6)) hli
    have nti : lt ≠ li := ne_of_none (m11 nt g7) hli
    have noi : lo ≠ li := ne_of_none (mv no g11 (Ex.refl _)) hli
    have m12 : ∀ {z y y'}, z ≠ p → H7 z = some y → (upd H12 p y') z = some y := fun {z y y'} ne h => mv ne (m11 (y' := .ins D dx (putF "_outgoing" (.ref lo) (putF "_accepted" (.int 0) (putF "_came" (.int 0) (putF "_opened" (.int 0) (putF "_turns" (.ref lt) (putF "_numbers" (.ref ln) (putF "_channels" (.ref d) (putF "failure" .non (putF "most" (.int m) (putF "window" (.int w) (putF "first_side" (.bl f) [])))))))))))) ne h) e12
    refine k ((((((o.put p (i, -1, 0)).put d (i, -1, 1)).put ln (i, -1, 2)).put lt (i, -1, 3)).put lo (i, -1, 4)).put li (i, -1, 5)) _ ⟨dx, d, ln, lt, lo, li, [], upd_same, m12 nd (e7 _ _ d6), m12 nn (e7 _ _ n6), m12 nt g7, mv no (mv no g11 (Ex.refl _)) e12, mv ni g12 (Ex.refl _), ?_, ?_, ?_, ?_, ?_, ?_, fun n hn => (by simp [Co.init] at hn), fun n _ => rfl, rfl⟩ fun b x hb nb => ?_
    · rw [put_ne ni.symm, put_ne no.symm, put_ne nt.symm, put_ne nn.symm, put_ne nd.symm, put_same]
    · rw [put_ne ndi, put_ne ndo, put_ne ndt, put_ne ndn, put_same]
    · rw [put_ne nni, put_ne nno, put_ne nnt, put_same]
    · rw [put_ne nti, put_ne nto, put_same]
    · rw [put_ne noi, put_same]
    · exact put_same
    · refine ⟨st (k11 (y' := .ins D dx (putF "_outgoing" (.ref lo) (putF "_accepted" (.int 0) (putF "_came" (.int 0) (putF "_opened" (.int 0) (putF "_turns" (.ref lt) (putF "_numbers" (.ref ln) (putF "_channels" (.ref d) (putF "failure" .non (putF "most" (.int m) (putF "window" (.int w) (putF "first_side" (.bl f) []))))))))))))) e12 b x hb nb, ?_⟩
      rw [put_ne (ne_of_none hb hli0), put_ne (ne_of_none hb hlo0), put_ne (ne_of_none hb hlt0), put_ne (ne_of_none hb hln0), put_ne (ne_of_none hb hd0), put_ne nb]
end Thl

/-! A side: a channel comes in. -/
namespace Thl
open PySem PySem.Spec PyProof.Rows L2 Evl
variable {P : Program} {w : World} {K : PySem.W.Frag} {mg : Str → Option Value} {base : Heap} {C D : Addr}
/-- a class of the text, made by its __init__: n values, then keywords -/
def MkP (P : Program) (w : World) (K : PySem.W.Frag) (mg : Str → Option Value) (base : Heap) (C : Addr) (k : Nat) (ps : List Str) (n : Nat) (ks : List Str) (sp : Sp) : Prop :=
  ∃ f fd g, Mk K C f ∧ KBn K fd ps (n + 1) ks g (fun us zs => us ++ zs) ∧ FnOk P w K mg base CX0 k f fd ps sp
theorem pmk {X : Cx} {k n : Nat} {ps ks : List Str} {sp : Sp} {ex : Expr} {tx : TE} (M : MkP X.prog X.w X.K X.mg X.base C k ps n ks sp)
    (h : ∀ f fd g, Mk X.K C f → KBn X.K fd ps (n + 1) ks g (fun us zs => us ++ zs) → FnOk X.prog X.w X.K X.mg X.base CX0 k f fd ps sp → PE X ex tx) : PE X ex tx := by
  obtain ⟨f, fd, g, h1, h2, h3⟩ := M
  exact h f fd g h1 h2 h3
theorem el_sorted {te : TE} {σ : L2.St} {H : Hp} {ns l : List Int} (h : EvM te σ H (il ns)) (hp : l.Perm ns) (hs : l.Pairwise (· ≤ ·)) : EvL (tCB (rSortedI K) (tCons te tNil)) σ H (il l) := fun H1 e Q q =>
  h H1 e _ fun p H2 e2 h2 => ⟨p, ns, rfl, sq_of h2, fun ns' p' h1 h3 hf => by
    have : ns' = l := sorted_same h3 hs (h1.trans hp.symm)
    rw [this]
    exact q p' _ (fresh_back e2 hf) (e2.trans (Ex.new hf)) upd_same⟩

/-! ### _add -/
def spAdd (C D : Addr) : Sp := fun vs H Q _ => ∃ (o : Ow) (i : Nat) (p : Addr) (A : Co) (og ic : List Int) (n : Int) (an : Bool), vs = [.ref p, .int n, .bl an] ∧ SdX C D o H i p A og ic ∧ n ∉ A.turns ∧ A.turns.length ≤ 1000 ∧ A.nums.length ≤ 1000 ∧
  ∀ o' H', SdX C D o' H' i p (A.add n an) og ic → Keep (OfS i) o H o' H' → Q .non H'
theorem scAdd : FnScope ["self", "number", "announced"] ["self", "number", "announced"] (defScope (sSd 16)) := ⟨rfl, rfl, rfl, by decide +kernel, rfl, by decide +kernel, by decide +kernel⟩
theorem ok_add {f : Addr} {fd : FuncData} (F : Fun K "_add" "Channels._add" (sSd 16) f fd) (T : Txt K mg C D) (M : MkP P w K mg base C 1 ["self", "number", "announced"] 1 ["announced"] (spCInit C)) :
    FnOk P w K mg base CX0 3 f fd ["self", "number", "announced"] (spAdd C D) := by
  refine F.ok scAdd (fun vs H Q E h => ?_) (fun cdv A outer s H vs Q E hr h => ?_)
  · obtain ⟨o, i, p, A, og, ic, n, an, rfl, _⟩ := h
    rfl
  · obtain ⟨o, i, p, A, og, ic, n, an, rfl, ⟨dx, d, ln, lt, lo, li, kvs, h⟩, hn, hlt, hln, k⟩ := h
    have hu := hu_of hr
    refine ⟨_, pss_cons (ps_dput hu (pe_fld (pv 0) rfl) (pv 1) (pmk M fun _ _ _ m b g => pe_makeN m g hr rfl T.mgC b pass0 (pa_cons (pv 1) pa_nil) (pk_cons (pv 2) pk_nil)) rfl)
      (pss_cons (ps_fld (pv 0) (pe_callB cr_sortedI (by rfl) T.sorted (by decide +kernel) (pa_cons (pe_op op_cat (pe_fld (pv 0) rfl) (pe_lst (pa_cons (pv 1) pa_nil))) pa_nil)) rfl)
      (pss_one (ps_expr (pe_bm PySem.F.plainAttrs_list PySem.F.slot_list_append PySem.F.type_list_append mt_append (pe_fld (pv 0) rfl) (pa_cons (pv 1) pa_nil))))), ?_⟩
    -- self._channels[number] = Channel(number, announced=announced)
    refine ⟨_, rfl, _, rfl, rfl, rfl, fun x dxc hx hdx hne => ⟨x, dxc, n, an, rfl, upd_same, fun q r H3 hq hr' hqr st g1 g2 g3 => ⟨rfl, ?_⟩⟩⟩
    have nox : ∀ {z : Addr}, (upd (upd H dxc (.own x)) x (.ins C dxc [])) z = none → z ≠ x ∧ H z = none := fun {z} hz => by
      have n1 : z ≠ x := fun e => by rw [e, upd_same] at hz; cases hz
      rw [upd_ne n1] at hz
      have n2 : z ≠ dxc := fun e => by rw [e, upd_same] at hz; cases hz
      rw [upd_ne n2] at hz
      exact ⟨n1, hz⟩
    obtain ⟨nqx, hq0⟩ := nox hq
    obtain ⟨nrx, hr0⟩ := nox hr'
    have e3 : Ex H H3 := fun b y hb => st b y (by rw [upd_ne (ne_of_none hb hx), upd_ne (ne_of_none hb hdx)]; exact hb) (ne_of_none hb hx)
    have hd3 := e3 _ _ h.dd
    refine ⟨_, rfl, p, D, dx, _, _, rfl, e3 _ _ h.ob, T.clD, T.naD _ in_s_channels, sd_channels, _, rfl, d, _, rfl, DPut.k (k := Sum.inl n) hd3 (small1000 (by rw [h.kl]; omega)), ?_⟩
    -- self._numbers = sorted(self._numbers + [number])
    have hdd : ∀ {z : Addr} {y : HO}, z ≠ d → H3 z = some y → (upd H3 d (.dK (putK kvs (.inl n) (.ref x)))) z = some y := fun ne e => by rw [upd_ne ne]; exact e
    have pd : p ≠ d := ne_rl h.rp h.rd (by simp)
    have nd : ln ≠ d := ne_rl h.rn h.rd (by simp)
    have td : lt ≠ d := ne_rl h.rt h.rd (by simp)
    have ep := hdd pd (e3 _ _ h.ob)
    dsimp only
    refine q_fldL (xs := il (insort n A.nums)) (el_sorted (ns := A.nums ++ [n]) (evm_new ?_) (insort_perm _ _) (insort_le _ _)) (ev_var rfl) ep T.clD (T.naD _ in_s_numbers) (lt1000 rfl) fun ln' H4 hl4 e4 g4 => ?_
    · have ec := el_cat (evm_ref (ev_fld (K := K) (f := "_numbers") (ev_var (i := 0) (σ := [some (.ref p), some (.int n), some (.bl an)]) rfl) ep T.clD (T.naD _ in_s_numbers) sd_numbers) (hdd nd (e3 _ _ h.nn))) (evm_new (el_lst (ea_cons (ev_var (i := 1) (v := .int n) rfl) ea_nil) (by show 1 ≤ 100000; decide))) (by rw [il_length]; show A.nums.length + 1 ≤ 100000; omega)
      have ee : il A.nums ++ [V.int n] = il (A.nums ++ [n]) := by simp [il]
      rw [ee] at ec
      exact ec
    have nl4 : ln' ≠ d := fun e => by rw [e, upd_same] at hl4; cases hl4
    have hl3 : H3 ln' = none := by
      rw [upd_ne nl4] at hl4
      exact hl4
    have hl0 : H ln' = none := fresh_back e3 hl3
    have m4 : ∀ {z : Addr} {y y' : HO}, z ≠ d → z ≠ p → H3 z = some y → (upd H4 p y') z = some y := fun n1 n2 e => by
      rw [upd_ne n2]
      exact e4 _ _ (hdd n1 e)
    -- self._turns.append(number)
    refine s_app (xs := il A.turns) (m4 td (ne_rl h.rt h.rp (by simp)) (e3 _ _ h.tt)) (ev_fld (ev_var rfl) upd_same T.clD (T.naD _ in_s_turns) sd_turns) (ev_var rfl) (by rw [il_length]; omega) fun H5 e5 => ?_
    have et : il A.turns ++ [V.int n] = il (A.turns ++ [n]) := by simp [il]
    rw [et]
    -- the owners
    have nql : q ≠ ln' := ne_of_none g1 hl3
    have nrl : r ≠ ln' := ne_of_none g2 hl3
    have nxl : x ≠ ln' := ne_of_none g3 hl3
    have h1 := (((h.put (x := x) (r := (i, n, 10)) hx).put (x := q) (r := (i, n, 11)) hq0).put (x := r) (r := (i, n, 12)) hr0).put (x := ln') (r := (i, -1, 2)) hl0
    have eb : Ex H (upd H3 ln' (.lst (il (insort n A.nums)))) := e3.trans (Ex.new hl3)
    have hb := h1.ex eb
    have hc : ChX C ((((o.put x (i, n, 10)).put q (i, n, 11)).put r (i, n, 12)).put ln' (i, -1, 2)) (upd H3 ln' (.lst (il (insort n A.nums)))) i n x (Ch.new an) := by
      refine ⟨dxc, q, r, x, ?_, ?_, ?_, fun b k z => (by cases z), ?_, ?_, ?_⟩
      · rw [upd_ne nxl]
        exact g3
      · rw [upd_ne nql]
        exact g1
      · rw [upd_ne nrl]
        exact g2
      · rw [put_ne nxl, put_ne nrx.symm, put_ne nqx.symm, put_same]
      · rw [put_ne nql, put_ne hqr, put_same]
      · rw [put_ne nrl, put_same]
    have tp : lt ≠ p := ne_rl h.rt h.rp (by simp)
    have dp : d ≠ p := pd.symm
    have dt : d ≠ lt := td.symm
    have pt : p ≠ lt := tp.symm
    have lp : ln' ≠ p := fun e => by rw [e, h.ob] at hl0; cases hl0
    have lt' : ln' ≠ lt := fun e => by rw [e, h.tt] at hl0; cases hl0
    have res := hb.added (an := an) hn hc upd_same put_same (sd_put_numbers (n := .ref ln)) (upd H5 lt (.lst (il (A.turns ++ [n])))) ?_ ?_ upd_same ?_
    · refine k _ _ ⟨_, _, _, _, _, _, _, res⟩ ?_
      have kk : Keep (OfS i) o H o (upd H5 lt (.lst (il (A.turns ++ [n])))) := by
        intro b y hb' hs
        have n1 : b ≠ lt := fun e => hs (by rw [e, h.rt])
        have n2 : b ≠ p := fun e => hs (by rw [e, h.rp])
        have n3 : b ≠ d := fun e => hs (by rw [e, h.rd])
        refine ⟨?_, rfl⟩
        rw [upd_ne n1]
        exact e5 _ _ (m4 n3 n2 (e3 _ _ hb'))
      exact (((kk.own hx).own hq0).own hr0).own hl0
    · rw [upd_ne pt]
      exact e5 _ _ upd_same
    · rw [upd_ne dt]
      refine e5 _ _ ?_
      rw [upd_ne dp]
      exact e4 _ _ upd_same
    · intro b y hb' hs
      refine ⟨?_, rfl⟩
      have n1 : b ≠ lt := fun e => hs (by rw [e, hb.rt]; simp)
      have n2 : b ≠ p := fun e => hs (by rw [e, hb.rp]; simp)
      have n3 : b ≠ d := fun e => hs (by rw [e, hb.rd]; simp)
      rw [upd_ne n1]
      refine e5 _ _ ?_
      by_cases e : b = ln'
      · rw [e, upd_same] at hb'
        rw [e, upd_ne lp, ← hb']
        exact g4
      · rw [upd_ne e] at hb'
        exact m4 n3 n2 hb'

/-! ### open_channel -/
def spOpen (C D : Addr) : Sp := fun vs H Q _ => ∃ (o : Ow) (i : Nat) (p : Addr) (A : Co) (og ic : List Int), vs = [.ref p] ∧ SdX C D o H i p A og ic ∧ A.opened < 100 ∧ num A.first (A.opened + 1) ∉ A.turns ∧ A.turns.length ≤ 1000 ∧ A.nums.length ≤ 1000 ∧
  ∀ o' H', SdX C D o' H' i p (openC A) og ic → Keep (OfS i) o H o' H' → Q (.int (num A.first (A.opened + 1))) H'
theorem scOpen : FnScope ["self", "number"] ["self"] (defScope (sSd 4)) := ⟨rfl, rfl, rfl, by decide +kernel, rfl, by decide +kernel, by decide +kernel⟩
theorem ok_open {f : Addr} {fd : FuncData} (F : Fun K "open_channel" "Channels.open_channel" (sSd 4) f fd) (T : Txt K mg C D) (M : Mt P w K mg base D "_add" 3 ["self", "number", "announced"] (spAdd C D)) : FnOk P w K mg base CX0 4 f fd ["self"] (spOpen C D) := by
  refine F.ok scOpen (fun vs H Q E h => ?_) (fun cdv A outer s H vs Q E hr h => ?_)
  · obtain ⟨o, i, p, A, og, ic, rfl, _⟩ := h
    rfl
  · obtain ⟨o, i, p, A, og, ic, rfl, ⟨dx, d, ln, lt, lo, li, kvs, h⟩, ho, hn, hlt, hln, k⟩ := h
    obtain ⟨mc, u, hmc, hcv⟩ := T.most
    refine ⟨_, pss_cons (ps_if (pt_cmpR op_eq (pe_fld (pv 0) rfl) (ClX.pe_cval (pe_glob (v := .ref D) rfl T.mgD rfl)) (nomark _)) (pss_one ps_never) pss_nil)
      (pss_cons (ps_fldaug (pv 0) pe_int in_add)
      (pss_cons (ps_set (i := 1) scOpen.nd rfl (.inl rfl) (pe_op op_sub (pe_op op_mul pe_int (pe_fld (pv 0) rfl)) (pe_callTy call_int1 (by rfl) T.int (by decide +kernel) (pa_cons (pe_fld (pv 0) rfl) pa_nil))))
      (pss_cons (ps_expr (pmt M fun _ _ m g b => pe_meth (pv 0) T.clD m g hr b .nil pass0 (pa_cons (pv 1) (pa_cons pe_bl pa_nil))))
      (pss_one (ps_ret (pv 1)))))), ?_⟩
    refine q_when (b := false) (et_is (et_test (ev_op (h.e_opened T (ev_var rfl)) (fun H1 e Q q => ⟨D, mc, _, _, rfl, hmc, hcv, q H1 (Ex.refl H1)⟩ : Ev _ _ _ (V.int 100)) (rv_eq rfl))) (decide_eq_false (by intro z; injection z with z; omega))) (fun h => nomatch h) fun _ H1 e1 => ?_
    have h1 := h.ex e1
    refine q_fldAdd (ev_var rfl) h1.ob T.clD (T.naD _ in_s_opened) sd_opened ev_c (lt1000 rfl) fun H2 e2 => ?_
    have h2 := h1.ex e2
    have h3 := h2.attr (A' := { A with opened := A.opened + 1 }) (fs := putF "_opened" (.int ((A.opened : Int) + 1)) (sdFs (.bl A.first) (.int A.win) (.int A.most) .non (.ref d) (.ref ln) (.ref lt) (.int (A.opened : Int)) (.int (A.came : Int)) (.int 0) (.ref lo) (.ref li))) h2.nn h2.tt h2.oo h2.ii h2.rn h2.rt h2.ro h2.ri rfl (fun _ => Iff.rfl) rfl (sd_put_opened (op := .int (A.opened : Int)))
    have k3 : Keep (OfS i) o H o (upd H2 p (.ins D dx (putF "_opened" (.int ((A.opened : Int) + 1)) (sdFs (.bl A.first) (.int A.win) (.int A.most) .non (.ref d) (.ref ln) (.ref lt) (.int (A.opened : Int)) (.int (A.came : Int)) (.int 0) (.ref lo) (.ref li))))) :=
      (Keep.ex (e1.trans e2)).upd fun _ _ => by rw [h.rp]
    refine q_asg (v := .int (num A.first (A.opened + 1))) (ev_op (ev_op ev_c (h3.e_opened T (ev_var rfl)) (rv_I (.inl ⟨by decide, by decide⟩))) (ev_intB (h3.e_first T (ev_var rfl))) rv_I0) fun H4 e4 => ?_
    refine q_meth (ev_var rfl) (h3.ex e4).ob rfl (ea_cons (ev_var rfl) (ea_cons ev_c ea_nil)) fun H5 e5 => ?_
    refine ⟨o, i, p, { A with opened := A.opened + 1 }, og, ic, num A.first (A.opened + 1), false, rfl, ⟨dx, d, ln, lt, lo, li, kvs, (h3.ex e4).ex e5⟩, hn, hlt, hln, fun o' H' hx kx => ?_⟩
    exact s_ret (ev_var rfl) fun H6 e6 => k o' H6 (hx.ex e6) (((k3.trans (Keep.ex (e4.trans e5))).trans kx).trans (Keep.ex e6))
end Thl

/-! A side: what the applications do. -/
namespace Thl
open PySem PySem.Spec PyProof.Rows L2 Evl
variable {P : Program} {w : World} {K : PySem.W.Frag} {mg : Str → Option Value} {base : Heap} {C D : Addr}
theorem ChAt.qset {o : Ow} {H : Hp} {i : Nat} {n : Int} {a dx q r t : Addr} {c : Ch} {l : List Int} (h : ChAt C o H i n a c dx q r t) : ChAt C o (upd H q (.lst (il l))) i n a { c with queue := l } dx q r t := by
  refine ⟨?_, upd_same, ?_, fun b k z => ?_, h.oa, h.oq, h.ord⟩
  · rw [upd_ne (ne_rl h.oa h.oq (by simp))]
    exact h.ob
  · rw [upd_ne (ne_rl h.ord h.oq (by simp))]
    exact h.rd
  · obtain ⟨x1, x2⟩ := h.rs b k z
    rw [upd_ne (ne_rl x2 h.oq (by simp))]
    exact ⟨x1, x2⟩
theorem ev_min2 {ta tb : TE} {σ : L2.St} {H : Hp} {i j : Int} (ha : Ev ta σ H (.int i)) (hb : Ev tb σ H (.int j)) :
    Ev (tCB (fun xs H Q => ∃ i j, xs = [V.int i, .int j] ∧ Q (.int (if j < i then j else i)) H) (tCons ta (tCons tb tNil))) σ H (.int (min i j)) := ev_cb (ea_cons ha (ea_cons hb ea_nil)) fun H1 _ Q q => ⟨i, j, rfl, by
  have e : (if j < i then j else i) = min i j := by
    split
    · rw [Int.min_eq_right (by omega)]
    · rw [Int.min_eq_left (by omega)]
  rw [e]
  exact q H1 (Ex.refl H1)⟩
theorem room_nonneg {w : Int} {c : Ch} (h : (c.queue.length : Int) ≤ w) : 0 ≤ room w c := by
  unfold room
  split <;> omega

/-! ### write -/
def spWr (C D : Addr) : Sp := fun vs H Q _ => ∃ (o : Ow) (i : Nat) (p l : Addr) (A : Co) (og ic : List Int) (n : Int) (os : List Int), vs = [.ref p, .int n, .ref l] ∧ SdX C D o H i p A og ic ∧ n ∈ A.turns ∧ H l = some (.lst (il os)) ∧ ((A.ch n).queue.length : Int) ≤ A.win ∧
  (A.ch n).queue.length + os.length ≤ 100000 ∧ ∀ o' H', SdX C D o' H' i p (A.set n { A.ch n with queue := (A.ch n).queue ++ os.take (min (room A.win (A.ch n)) os.length).toNat }) og ic → Keep (OfS i) o H o' H' → Q (.int (min (room A.win (A.ch n)) os.length)) H'
theorem scWr : FnScope ["self", "channel", "octets", "count"] ["self", "channel", "octets"] (defScope (sSd 6)) := ⟨rfl, rfl, rfl, by decide +kernel, rfl, by decide +kernel, by decide +kernel⟩
theorem ok_wr {f : Addr} {fd : FuncData} (F : Fun K "write" "Channels.write" (sSd 6) f fd) (T : Txt K mg C D) (M1 : Mt P w K mg base D "_known" 1 ["self", "channel"] (spKnown D)) (M2 : Mt P w K mg base D "_room" 1 ["self", "known"] (spRoom C D)) :
    FnOk P w K mg base CX0 2 f fd ["self", "channel", "octets"] (spWr C D) := by
  refine F.ok scWr (fun vs H Q E h => ?_) (fun cdv A outer s H vs Q E hr h => ?_)
  · obtain ⟨o, i, p, l, A, og, ic, n, os, rfl, _⟩ := h
    rfl
  · obtain ⟨o, i, p, l, A, og, ic, n, os, rfl, ⟨dx, d, ln, lt, lo, li, kvs, h⟩, hn, hl, hq, hz, k⟩ := h
    have hu := hu_of hr
    refine ⟨_, pss_cons (ps_set (i := 3) scWr.nd rfl (.inl rfl) (pe_callB (call_min2 rfl) (by rfl) T.min (by decide +kernel) (pa_cons (pmt M2 fun _ _ m g b => pe_meth (pv 0) T.clD m g hr b .nil pass0 (pa_cons (pmt M1 fun _ _ m g b => pe_meth (pv 0) T.clD m g hr b .nil pass0 (pa_cons (pv 1) pa_nil)) pa_nil))
        (pa_cons (pe_callB call_len_seq (by rfl) T.len PySem.boot_len (pa_cons (pv 2) pa_nil)) pa_nil))))
      (pss_cons (ps_expr (pe_bm PySem.F.plainAttrs_list PySem.F.slot_list_extend PySem.F.type_list_extend mt_extend (pe_fld (pe_dget hu (pe_fld (pv 0) rfl) (pv 1) (fun _ _ => rfl)) rfl) (pa_cons (pe_slice sl_list (pv 2) po_none (po_some (pv 3))) pa_nil)))
      (pss_one (ps_ret (pv 3)))), ?_⟩
    obtain ⟨a, hv, dxc, q, r, t, hc⟩ := h.chs n hn
    have hrm := room_nonneg hq
    have hk : Ev (tMeth D "_known" (spKnown D) [] E0 (tVar 0) (tCons (tVar 1) tNil)) [some (.ref p), some (.int n), some (.ref l), none] H (.ref a) := ev_meth (ev_var rfl) h.ob rfl (ea_cons (ev_var rfl) ea_nil) (sv_known h hv)
    have hlen := ev_lenM (K := K) (evm_ref (ev_var (i := 2) (σ := [some (.ref p), some (.int n), some (.ref l), none]) rfl) hl)
    rw [il_length] at hlen
    refine q_asg (v := .int (min (room A.win (A.ch n)) os.length)) (ev_min2 (ev_meth (ev_var rfl) h.ob rfl (ea_cons hk ea_nil) fun H1 e Q q' E => ⟨o, i, p, a, A, og, ic, n, A.ch n, rfl, ⟨dx, d, ln, lt, lo, li, kvs, h.ex e⟩, ⟨dxc, q, r, t, hc.ex e⟩, q'⟩) hlen) fun H1 e1 => ?_
    have h1 := h.ex e1
    have c1 := hc.ex e1
    refine q_ext (ys := il (os.take (min (room A.win (A.ch n)) os.length).toNat)) c1.qu (c1.fq T (ev_dget (n := .inl n) (h1.e_chans T (ev_var rfl)) h1.dd (ev_var rfl) hv)) (evm_new ?_) ?_ fun H2 e2 => ?_
    · rw [← cut_take (by omega)]
      exact el_slM (evm_ref (ev_var rfl) (e1 _ _ hl)) eo_none (eo_some (ev_var rfl))
    · rw [il_length, il_length, List.length_take]
      omega
    · have ej : il (A.ch n).queue ++ il (os.take (min (room A.win (A.ch n)) os.length).toNat) = il ((A.ch n).queue ++ os.take (min (room A.win (A.ch n)) os.length).toNat) := by simp [il]
      rw [ej]
      have c2 := (c1.ex e2).qset (l := (A.ch n).queue ++ os.take (min (room A.win (A.ch n)) os.length).toNat)
      have kq : OfC i n (o q) := by rw [hc.oq]; exact ⟨rfl, rfl, Nat.le_of_ble_eq_true rfl⟩
      have k2 : Keep (OfC i n) o H o (upd H2 q (.lst (il ((A.ch n).queue ++ os.take (min (room A.win (A.ch n)) os.length).toNat)))) := (Keep.ex (e1.trans e2)).upd fun _ _ => kq
      refine s_ret (ev_var rfl) fun H3 e3 => k o H3 ⟨dx, d, ln, lt, lo, li, kvs, h.chan hn hv (k2.trans (Keep.ex e3)) ⟨dxc, q, r, t, c2.ex e3⟩⟩ (k2.trans (Keep.ex e3)).c2s

/-! ### read -/
def spRd (C D : Addr) : Sp := fun vs H Q _ => ∃ (o : Ow) (i : Nat) (p : Addr) (A : Co) (og ic : List Int) (n c : Int), vs = [.ref p, .int n, .int c] ∧ SdX C D o H i p A og ic ∧ n ∈ A.turns ∧ 0 ≤ c ∧ i ≠ 9 ∧
  ∀ l o' H', H l = none → H' l = some (.lst (il ((A.ch n).ready.take c.toNat))) → o' l = tmpR → SdX C D o' H' i p (A.set n { A.ch n with ready := (A.ch n).ready.drop c.toNat }) og ic → Keep (OfC i n) o H o' H' → Q (.ref l) H'
theorem scRd : FnScope ["self", "channel", "count", "known", "octets"] ["self", "channel", "count"] (defScope (sSd 7)) := ⟨rfl, rfl, rfl, by decide +kernel, rfl, by decide +kernel, by decide +kernel⟩
theorem ok_rd {f : Addr} {fd : FuncData} (F : Fun K "read" "Channels.read" (sSd 7) f fd) (T : Txt K mg C D) (M1 : Mt P w K mg base D "_known" 1 ["self", "channel"] (spKnown D)) : FnOk P w K mg base CX0 2 f fd ["self", "channel", "count"] (spRd C D) := by
  refine F.ok scRd (fun vs H Q E h => ?_) (fun cdv A outer s H vs Q E hr h => ?_)
  · obtain ⟨o, i, p, A, og, ic, n, c, rfl, _⟩ := h
    rfl
  · obtain ⟨o, i, p, A, og, ic, n, c, rfl, ⟨dx, d, ln, lt, lo, li, kvs, h⟩, hn, hc0, hi, k⟩ := h
    refine ⟨_, pss_cons (ps_set (i := 3) scRd.nd rfl (.inl rfl) (pmt M1 fun _ _ m g b => pe_meth (pv 0) T.clD m g hr b .nil pass0 (pa_cons (pv 1) pa_nil)))
      (pss_cons (ps_if (pt_cmpR op_lt (pv 2) pe_int (nomark _)) (pss_one ps_never) pss_nil)
      (pss_cons (ps_set (i := 4) scRd.nd rfl (.inl rfl) (pe_slice sl_list (pe_fld (pv 3) rfl) po_none (po_some (pv 2))))
      (pss_cons (ps_fld (pv 3) (pe_slice sl_list (pe_fld (pv 3) rfl) (po_some (pv 2)) po_none) rfl)
      (pss_one (ps_ret (pv 4)))))), ?_⟩
    obtain ⟨a, hv, dxc, q, r, t, hc⟩ := h.chs n hn
    refine q_asg (v := .ref a) (ev_meth (ev_var rfl) h.ob rfl (ea_cons (ev_var rfl) ea_nil) (sv_known h hv)) fun H1 e1 => ?_
    refine q_when (b := false) (et_is (et_test (ev_op (ev_var rfl) ev_c rv_I0)) (decide_eq_false (by omega))) (fun h => nomatch h) fun _ H2 e2 => ?_
    have e12 := e1.trans e2
    have c2 := hc.ex e12
    refine q_asgL (xs := il ((A.ch n).ready.take c.toNat)) (by rw [← cut_take hc0]; exact el_slM (evm_ref (c2.ar T (ev_var rfl)) c2.rd) eo_none (eo_some (ev_var rfl))) fun l H3 hl e3 g3 => ?_
    have c3 := (c2.put (p := l) (x := tmpR) hl).ex e3
    refine q_fldL (xs := il ((A.ch n).ready.drop c.toNat)) (by rw [← cut_drop hc0]; exact el_slM (evm_ref (c3.ar T (ev_var rfl)) c3.rd) (eo_some (ev_var rfl)) eo_none) (ev_var rfl) c3.ob T.clC (T.naC _ in_arrived_octets) (lt1000 rfl) fun r2 H4 hr2 e4 g4 => ?_
    have c4 := c3.newr hr2 e4 g4 (ch_put_arrived (r := .ref r))
    have hl0 : H l = none := fresh_back e12 hl
    have hr0 : H r2 = none := fresh_back (e12.trans e3) hr2
    have nla : l ≠ a := (ne_of_none c2.ob hl).symm
    have nlr : l ≠ r2 := ne_of_none g3 hr2
    have k4 : Keep (OfC i n) o H ((o.put l tmpR).put r2 (i, n, 12)) (upd H4 a (.ins C dxc (putF "arrived_octets" (.ref r2) (chFs (.int n) (.bl (A.ch n).ann) (.ref q) (.int (A.ch n).credit) (.bl (A.ch n).fin) (.bl (A.ch n).endS) (.ref r) (.int (A.ch n).due) (.bl (A.ch n).endC) (rstV (A.ch n).rst t) (.bl (A.ch n).told))))) :=
      ((hc.kp (e12.trans (e3.trans e4))).own hl0).own hr0
    refine s_ret (ev_var rfl) fun H5 e5 => k l _ H5 hl0 ?_ ?_ ⟨dx, d, ln, lt, lo, li, kvs, h.chan hn hv (k4.trans (Keep.ex e5)) ⟨dxc, q, r2, t, c4.ex e5⟩⟩ (k4.trans (Keep.ex e5))
    · refine e5 _ _ ?_
      rw [upd_ne nla]
      exact e4 _ _ g3
    · rw [put_ne nlr, put_same]

/-! ### finish, reset -/
def spFin (C D : Addr) : Sp := fun vs H Q _ => ∃ (o : Ow) (i : Nat) (p : Addr) (A : Co) (og ic : List Int) (n : Int), vs = [.ref p, .int n] ∧ SdX C D o H i p A og ic ∧ n ∈ A.turns ∧
  ∀ o' H', SdX C D o' H' i p (A.set n { A.ch n with fin := true }) og ic → Keep (OfS i) o H o' H' → Q .non H'
theorem scFin : FnScope ["self", "channel", "known"] ["self", "channel"] (defScope (sSd 8)) := ⟨rfl, rfl, rfl, by decide +kernel, rfl, by decide +kernel, by decide +kernel⟩
theorem ok_fin {f : Addr} {fd : FuncData} (F : Fun K "finish" "Channels.finish" (sSd 8) f fd) (T : Txt K mg C D) (M1 : Mt P w K mg base D "_known" 1 ["self", "channel"] (spKnown D)) : FnOk P w K mg base CX0 2 f fd ["self", "channel"] (spFin C D) := by
  refine F.ok scFin (fun vs H Q E h => ?_) (fun cdv A outer s H vs Q E hr h => ?_)
  · obtain ⟨o, i, p, A, og, ic, n, rfl, _⟩ := h
    rfl
  · obtain ⟨o, i, p, A, og, ic, n, rfl, ⟨dx, d, ln, lt, lo, li, kvs, h⟩, hn, k⟩ := h
    refine ⟨_, pss_cons (ps_set (i := 2) scFin.nd rfl (.inl rfl) (pmt M1 fun _ _ m g b => pe_meth (pv 0) T.clD m g hr b .nil pass0 (pa_cons (pv 1) pa_nil))) (pss_one (ps_fld (pv 2) pe_bl rfl)), ?_⟩
    obtain ⟨a, hv, dxc, q, r, t, hc⟩ := h.chs n hn
    refine q_asg (v := .ref a) (ev_meth (ev_var rfl) h.ob rfl (ea_cons (ev_var rfl) ea_nil) (sv_known h hv)) fun H1 e1 => ?_
    refine s_fld ev_c (ev_var rfl) (hc.ex e1).ob T.clC (T.naC _ in_finished) (lt1000 rfl) fun H2 e2 => ?_
    have k2 := hc.kp (x := .ins C dxc (putF "finished" (.bl true) (chFs (.int n) (.bl (A.ch n).ann) (.ref q) (.int (A.ch n).credit) (.bl (A.ch n).fin) (.bl (A.ch n).endS) (.ref r) (.int (A.ch n).due) (.bl (A.ch n).endC) (rstV (A.ch n).rst t) (.bl (A.ch n).told)))) (e1.trans e2)
    exact k o _ ⟨dx, d, ln, lt, lo, li, kvs, h.chan hn hv k2 ⟨dxc, q, r, t, (hc.ex (e1.trans e2)).wr (c' := { A.ch n with fin := true }) rfl rfl rfl (ch_put_finished (f := .bl (A.ch n).fin))⟩⟩ k2.c2s
def spRs (C D : Addr) : Sp := fun vs H Q _ => ∃ (o : Ow) (i : Nat) (p : Addr) (A : Co) (og ic : List Int) (n j : Int), vs = [.ref p, .int n, .int j] ∧ SdX C D o H i p A og ic ∧ n ∈ A.turns ∧ (0 ≤ j ∧ j ≤ 65535) ∧
  ∀ o' H', SdX C D o' H' i p (if (A.ch n).rst = none then A.set n (dropAll (A.ch n) true j) else A) og ic → Keep (OfS i) o H o' H' → Q .non H'
theorem scRs : FnScope ["self", "channel", "code", "known"] ["self", "channel", "code"] (defScope (sSd 9)) := ⟨rfl, rfl, rfl, by decide +kernel, rfl, by decide +kernel, by decide +kernel⟩
theorem ok_rs {f : Addr} {fd : FuncData} (F : Fun K "reset" "Channels.reset" (sSd 9) f fd) (T : Txt K mg C D) (M1 : Mt P w K mg base D "_known" 1 ["self", "channel"] (spKnown D)) (M2 : Mt P w K mg base C "drop_all" 1 ["self", "place", "code"] (spDrop C)) :
    FnOk P w K mg base CX0 2 f fd ["self", "channel", "code"] (spRs C D) := by
  refine F.ok scRs (fun vs H Q E h => ?_) (fun cdv A outer s H vs Q E hr h => ?_)
  · obtain ⟨o, i, p, A, og, ic, n, j, rfl, _⟩ := h
    rfl
  · obtain ⟨o, i, p, A, og, ic, n, j, rfl, ⟨dx, d, ln, lt, lo, li, kvs, h⟩, hn, hj, k⟩ := h
    refine ⟨_, pss_cons (ps_set (i := 3) scRs.nd rfl (.inl rfl) (pmt M1 fun _ _ m g b => pe_meth (pv 0) T.clD m g hr b .nil pass0 (pa_cons (pv 1) pa_nil)))
      (pss_cons (ps_if (pt_not (pt_chain op_le op_le pe_int (pv 2) pe_int)) (pss_one ps_never) pss_nil)
      (pss_one (ps_if (pt_cmpR op_isN (pe_fld (pv 3) rfl) pe_non (nomark _)) (pss_one (ps_expr (pmt M2 fun _ _ m g b => pe_meth (pv 3) T.clC m g hr b .nil pass0 (pa_cons pe_str (pa_cons (pv 2) pa_nil))))) pss_nil))), ?_⟩
    obtain ⟨a, hv, dxc, q, r, t, hc⟩ := h.chs n hn
    refine q_asg (v := .ref a) (ev_meth (ev_var rfl) h.ob rfl (ea_cons (ev_var rfl) ea_nil) (sv_known h hv)) fun H1 e1 => ?_
    refine q_when (b := false) (et_is (et_not (et_test (ev_chain ev_c (ev_var rfl) rv_I0 (fun _ => ev_c) fun _ => rv_I0))) (by rw [decide_eq_true hj.1, decide_eq_true hj.2]; rfl)) (fun h => nomatch h) fun _ H2 e2 => ?_
    have e12 := e1.trans e2
    have c2 := hc.ex e12
    refine s_when (b := (A.ch n).rst.isNone) (et_is (et_test (ev_op (c2.rb T (ev_var rfl)) ev_c rv_isN)) (rst_none _ _)) (fun hb H3 e3 => ?_) fun hb H3 e3 => ?_
    · have e0 : (A.ch n).rst = none := by simpa using hb
      rw [if_pos e0] at k
      refine s_meth (ev_var rfl) (c2.ex e3).ob rfl (ea_cons ev_c (ea_cons (ev_var rfl) ea_nil)) fun H4 e4 => ?_
      refine ⟨o, i, n, a, A.ch n, true, j, rfl, ⟨dxc, q, r, t, (c2.ex e3).ex e4⟩, fun o' H' hx kx => ?_⟩
      have kk := (Keep.ex (S := OfC i n) (o := o) (e12.trans (e3.trans e4))).trans kx
      exact k o' H' ⟨dx, d, ln, lt, lo, li, kvs, h.chan hn hv kk hx⟩ kk.c2s
    · have e0 : (A.ch n).rst ≠ none := by
        intro z
        rw [z] at hb
        cases hb
      rw [if_neg e0] at k
      exact k o H3 ⟨dx, d, ln, lt, lo, li, kvs, h.ex (e12.trans e3)⟩ (Keep.ex (e12.trans e3))

/-! ### status -/
def EvPs (trs : List (TE × TE)) (σ : L2.St) (H : Hp) (kvs : List (Key × V)) : Prop := ∀ H1, Ex H H1 → ∀ Q : List (V × V) → Hp → Prop, (∀ H2, Ex H1 H2 → Q (kvs.map fun kv => (kV kv.1, kv.2)) H2) → tPairs trs σ H1 Q
section
variable {σ : L2.St} {H : Hp} {tk tv : TE} {trs : List (TE × TE)} {kvs : List (Key × V)} {key : Key} {v : V}
theorem ep_nil : EvPs [] σ H [] := fun H1 _ Q q => q H1 (Ex.refl H1)
theorem ep_cons (hk : Ev tk σ H (kV key)) (hv : Ev tv σ H v) (hr : EvPs trs σ H kvs) : EvPs ((tk, tv) :: trs) σ H ((key, v) :: kvs) := fun H1 e Q q =>
  hk H1 e _ fun H2 e2 => hv H2 (e.trans e2) _ fun H3 e3 => hr H3 ((e.trans e2).trans e3) _ fun H4 e4 => q H4 ((e2.trans e3).trans e4)
theorem en_disp (h : EvPs trs σ H kvs) (hl : kvs.length ≤ 15) : EvN (tDisp trs) σ H (.dK (mergeK [] kvs)) := fun H1 e Q q p hp =>
  h (upd H1 p (.dK [])) (e.trans (Ex.new hp)) _ fun H2 e2 => ⟨e2 _ _ upd_same, kvs, rfl, hl, q p _ hp (Ex.mut ((Ex.new hp).trans e2) hp) upd_same⟩
end
/-- what at_end tells -/
def atE (c : Ch) : Bool := c.rst.isNone && (c.endC && c.ready.isEmpty)
def stK (w : Int) (c : Ch) (t : Addr) : List (Key × V) := [(.inr "writable", .int (room w c)), (.inr "waiting", .int c.queue.length), (.inr "readable", .int c.ready.length), (.inr "finished", .bl c.fin), (.inr "at_end", .bl (atE c)), (.inr "reset", rstV c.rst t)]
def spSt (C D : Addr) : Sp := fun vs H Q _ => ∃ (o : Ow) (i : Nat) (p : Addr) (A : Co) (og ic : List Int) (n : Int), vs = [.ref p, .int n] ∧ SdX C D o H i p A og ic ∧ n ∈ A.turns ∧
  ∀ s t H', H s = none → Ex H H' → H' s = some (.dK (stK A.win (A.ch n) t)) → (∀ b k, (A.ch n).rst = some (b, k) → H' t = some (.tup [.str (plc b), .int k])) → Q (.ref s) H'
theorem scSt : FnScope ["self", "channel", "known", "ready"] ["self", "channel"] (defScope (sSd 10)) := ⟨rfl, rfl, rfl, by decide +kernel, rfl, by decide +kernel, by decide +kernel⟩
theorem ok_st {f : Addr} {fd : FuncData} (F : Fun K "status" "Channels.status" (sSd 10) f fd) (T : Txt K mg C D) (M1 : Mt P w K mg base D "_known" 1 ["self", "channel"] (spKnown D)) (M2 : Mt P w K mg base D "_room" 1 ["self", "known"] (spRoom C D)) :
    FnOk P w K mg base CX0 2 f fd ["self", "channel"] (spSt C D) := by
  refine F.ok scSt (fun vs H Q E h => ?_) (fun cdv A outer s H vs Q E hr h => ?_)
  · obtain ⟨o, i, p, A, og, ic, n, rfl, _⟩ := h
    rfl
  · obtain ⟨o, i, p, A, og, ic, n, rfl, ⟨dx, d, ln, lt, lo, li, kvs, h⟩, hn, k⟩ := h
    refine ⟨_, pss_cons (ps_set (i := 2) scSt.nd rfl (.inl rfl) (pmt M1 fun _ _ m g b => pe_meth (pv 0) T.clD m g hr b .nil pass0 (pa_cons (pv 1) pa_nil)))
      (pss_cons (ps_set (i := 3) scSt.nd rfl (.inl rfl) (pe_callB call_len_seq (by rfl) T.len PySem.boot_len (pa_cons (pe_fld (pv 2) rfl) pa_nil)))
      (pss_one (ps_ret (pe_disp (pps_cons pe_str (pmt M2 fun _ _ m g b => pe_meth (pv 0) T.clD m g hr b .nil pass0 (pa_cons (pv 2) pa_nil)) (pps_cons pe_str (pe_callB call_len_seq (by rfl) T.len PySem.boot_len (pa_cons (pe_fld (pv 2) rfl) pa_nil)) (pps_cons pe_str (pv 3) (pps_cons pe_str (pe_fld (pv 2) rfl)
        (pps_cons pe_str (pe_and (pe_cmpR op_isN (pe_fld (pv 2) rfl) pe_non (nomark _)) (pe_and (pe_fld (pv 2) rfl) (pe_one (pe_cmpR op_eq (pv 3) pe_int (nomark _))))) (pps_cons pe_str (pe_fld (pv 2) rfl) pps_nil)))))) (by rfl) (by rfl) (fun z => by cases z) (by decide))))), ?_⟩
    obtain ⟨a, hv, dxc, q, r, t, hc⟩ := h.chs n hn
    refine q_asg (v := .ref a) (ev_meth (ev_var rfl) h.ob rfl (ea_cons (ev_var rfl) ea_nil) (sv_known h hv)) fun H1 e1 => ?_
    have h1 := h.ex e1
    have c1 := hc.ex e1
    have hlen := ev_lenM (K := K) (evm_ref (c1.ar T (ev_var (i := 2) (σ := [some (.ref p), some (.int n), some (.ref a), none]) rfl)) c1.rd)
    rw [il_length] at hlen
    refine q_asg (v := .int ((A.ch n).ready.length : Int)) hlen fun H2 e2 => ?_
    have h2 := h1.ex e2
    have c2 := c1.ex e2
    have hq := ev_lenM (K := K) (evm_ref (c2.fq T (ev_var (i := 2) (σ := [some (.ref p), some (.int n), some (.ref a), some (.int ((A.ch n).ready.length : Int))]) rfl)) c2.qu)
    rw [il_length] at hq
    have hat : Ev (tAndV (tOp (fun x y H Q => y = .non ∧ Q (.bl (decide (x = .non))) H) (tFld K (tVar 2) "reset_by") (tC .non)) (tAndV (tFld K (tVar 2) "end_came") (tOp rEq (tVar 3) (tC (.int 0))))) [some (.ref p), some (.int n), some (.ref a), some (.int ((A.ch n).ready.length : Int))] H2 (.bl (atE (A.ch n))) := by
      have e : (decide (V.int ((A.ch n).ready.length : Int) = V.int 0)) = (A.ch n).ready.isEmpty := by
        cases z : (A.ch n).ready with
        | nil => rfl
        | cons x l =>
          refine decide_eq_false fun z => ?_
          injection z with z
          simp at z
          omega
      refine ev_andV (ev_is (ev_op (c2.rb T (ev_var rfl)) ev_c rv_isN) (by rw [rst_none])) fun _ => ev_andV (c2.ec T (ev_var rfl)) fun _ => ev_is (ev_op (ev_var rfl) ev_c (rv_eq rfl)) (by rw [e])
    have dd := en_disp (ep_cons (key := .inr "writable") (σ := [some (.ref p), some (.int n), some (.ref a), some (.int ((A.ch n).ready.length : Int))]) ev_c (ev_meth (m := "_room") (C := D) (E := E0) (sp := spRoom C D) (z := .int (room A.win (A.ch n))) (ev_var (i := 0) rfl) h2.ob rfl (ea_cons (ev_var (i := 2) (v := .ref a) rfl) ea_nil) fun H3 e3 Q q' E => ⟨o, i, p, a, A, og, ic, n, A.ch n, rfl, ⟨dx, d, ln, lt, lo, li, kvs, h2.ex e3⟩, ⟨dxc, q, r, t, c2.ex e3⟩, q'⟩)
      (ep_cons (key := .inr "waiting") ev_c hq (ep_cons (key := .inr "readable") ev_c (ev_var (i := 3) rfl) (ep_cons (key := .inr "finished") ev_c (c2.fi T (ev_var (i := 2) rfl)) (ep_cons (key := .inr "at_end") ev_c hat (ep_cons (key := .inr "reset") ev_c (c2.rb T (ev_var (i := 2) rfl)) ep_nil)))))) (by show 6 ≤ 15; decide)
    exact dd H2 (Ex.refl H2) _ fun s H3 hs e3 g3 => k s t H3 (fresh_back (e1.trans e2) hs) ((e1.trans e2).trans e3) g3 fun b j z => e3 _ _ (c2.rs b j z).1
end Thl

/-! A side: the next frame. -/
namespace Thl
open PySem PySem.Spec PyProof.Rows L2 Evl
variable {P : Program} {w : World} {K : PySem.W.Frag} {mg : Str → Option Value} {base : Heap} {C D : Addr}
theorem find_at {p : Int → Bool} : ∀ {l : List Int} {i : Nat} {n : Int}, l[i]? = some n → p n = true → (∀ j m, j < i → l[j]? = some m → p m = false) → l.find? p = some n
  | [], _, _, h, _, _ => by simp at h
  | a :: l, 0, n, h, hp, _ => by
    have e : a = n := by simpa using h
    rw [List.find?_cons, e, hp]
  | a :: l, i + 1, n, h, hp, hn => by
    have e := hn 0 a (by omega) rfl
    rw [List.find?_cons, e]
    exact find_at (l := l) (i := i) (by simpa using h) hp fun j m hj hm => hn (j + 1) m (by omega) (by simpa using hm)
theorem find_no {p : Int → Bool} {l : List Int} (h : ∀ j m, j < l.length → l[j]? = some m → p m = false) : l.find? p = none := by
  rw [List.find?_eq_none]
  intro x hx
  obtain ⟨j, hj, e⟩ := List.getElem_of_mem hx
  rw [h j x hj (by rw [List.getElem?_eq_getElem hj, e])]
  simp
theorem rot_perm {l : List Int} {n : Int} (nd : l.Nodup) (hn : n ∈ l) : (l.filter (fun m => decide (m ≠ n)) ++ [n]).Perm l := by
  have nd2 : (l.filter (fun m => decide (m ≠ n)) ++ [n]).Nodup := by
    refine List.nodup_append.mpr ⟨nd.filter _, by simp, fun x hx y hy => ?_⟩
    simp at hx hy
    rw [hy]
    exact hx.2
  refine (List.perm_ext_iff_of_nodup nd2 nd).mpr fun x => ?_
  simp
  constructor
  · rintro (z | z)
    · exact z.1
    · rw [z]
      exact hn
  · intro z
    by_cases e : x = n
    · exact .inr e
    · exact .inl ⟨z, e⟩
theorem range_getD (l : List Int) : (List.range l.length).map (fun i => l.getD i 0) = l := by
  refine List.ext_getElem? fun i => ?_
  rw [List.getElem?_map]
  by_cases h : i < l.length
  · rw [List.getElem?_range h, List.getElem?_eq_getElem h]
    simp [h]
  · rw [List.getElem?_eq_none (by rw [List.length_range]; omega), List.getElem?_eq_none (by omega)]
    rfl
theorem given_filter (l : List Int) (p : Int → Bool) : given l.length (fun i => p (l.getD i 0)) (fun i => V.int (l.getD i 0)) = il (l.filter p) := by
  unfold given
  conv => rhs; rw [← range_getD l]
  rw [List.filter_map]
  show _ = List.map V.int (List.map _ _)
  rw [List.map_map]
  rfl
theorem il_get {l : List Int} {i : Nat} {x : V} (h : (il l)[i]? = some x) : ∃ n, l[i]? = some n ∧ x = .int n := by
  rw [List.getElem?_map] at h
  cases e : l[i]? with
  | none => rw [e] at h; cases h
  | some n => rw [e] at h; exact ⟨n, rfl, (Option.some.inj h).symm⟩

/-! ### _next_turn -/
def spNextT (C D : Addr) : Sp := fun vs H Q _ => ∃ (o : Ow) (i : Nat) (p : Addr) (A : Co) (og ic : List Int), vs = [.ref p] ∧ SdX C D o H i p A og ic ∧ i ≠ 9 ∧ (∃ a, SInv A a) ∧
  match A.turns.find? (fun n => has (A.ch n)) with
  | none => RetV .non H Q
  | some n => ∀ fr o' H', H fr = none → FrAt o' H' fr (sendF A.most n (A.ch n)) → SdX C D o' H' i p { A.set n (sendC A.most (A.ch n)) with turns := A.turns.filter (fun m => decide (m ≠ n)) ++ [n] } og ic → Keep (OfS i) o H o' H' → Q (.ref fr) H'
theorem scNextT : FnScope ["self", "number", "other"] ["self"] (defScope (sSd 19)) := ⟨rfl, rfl, rfl, by decide +kernel, rfl, by decide +kernel, by decide +kernel⟩
theorem turns_len {A : Co} {a : Nat} (h : SInv A a) : A.turns.length ≤ 8 := by
  have := h.len
  have := h.o4
  have := h.c4
  omega
theorem ok_nextt {f : Addr} {fd : FuncData} (F : Fun K "_next_turn" "Channels._next_turn" (sSd 19) f fd) (T : Txt K mg C D) (M1 : Mt P w K mg base C "has_something" 1 ["self"] (spHas C)) (M2 : Mt P w K mg base C "next_frame" 1 ["self", "most"] (spNextF C)) :
    FnOk P w K mg base CX0 2 f fd ["self"] (spNextT C D) := by
  refine F.ok scNextT (fun vs H Q E h => ?_) (fun cdv A outer s H vs Q E hr h => ?_)
  · obtain ⟨o, i, p, A, og, ic, rfl, _⟩ := h
    rfl
  · obtain ⟨o, i, p, A, og, ic, rfl, ⟨dx, d, ln, lt, lo, li, kvs, h⟩, hi, ⟨an, si⟩, k⟩ := h
    have hu := hu_of hr
    refine ⟨_, pss_cons (ps_for PassesOwn.never rfl (pi_list (pe_callTy call_list_of (by rfl) T.list (by decide +kernel) (pa_cons (pe_fld (pv 0) rfl) pa_nil))) (pg_name (i := 1) scNextT.nd rfl (Or.inr rfl))
        (pss_one (ps_if (pt_val (pmt M1 fun _ _ m g b => pe_meth0 (pe_dget hu (pe_fld (pv 0) rfl) (pv 1) (fun _ _ => rfl)) T.clC m g hr b .nil pass0))
          (pss_cons (ps_fld (pv 0) (pe_op op_cat (pe_lc (own := [("other", 2)]) (g := gName 2) rfl scNextT.nd (pi_list (pe_fld (pv 0) rfl)) (blkOk_by (own := [("other", 2)]) (N := ["self", "number", "other"]) (sc := defScope (sSd 19)) (by decide +kernel))
              (fun _ _ _ _ _ => pg_name (i := 2) scNextT.nd rfl (Or.inl rfl)) (fun _ _ _ _ _ => pts_one (pt_cmpR op_ne (pv 2) (pv 1) (nomark _))) (fun _ _ _ _ _ => pv 2)) (pe_lst (pa_cons (pv 1) pa_nil))) rfl)
            (pss_one (ps_ret (pmt M2 fun _ _ m g b => pe_meth (pe_dget hu (pe_fld (pv 0) rfl) (pv 1) (fun _ _ => rfl)) T.clC m g hr b .nil pass0 (pa_cons (pe_fld (pv 0) rfl) pa_nil))))) pss_nil)))
      (pss_one (ps_ret pe_non)), ?_⟩
    refine q_forNLn (xs := il A.turns) (el_listM (evm_ref (h.e_turns T (ev_var rfl)) h.tt)) (fun l j σ' H' => (∃ v1 v2, σ' = [some (.ref p), v1, v2]) ∧ Ex H H' ∧ H' l = some (.lst (il A.turns)) ∧ ∀ j' m, j' < j → A.turns[j']? = some m → has (A.ch m) = false)
      (fun l H1 hl e1 g1 => ⟨⟨none, none, rfl⟩, e1, g1, fun _ _ hj _ => absurd hj (Nat.not_lt_zero _)⟩) (fun l j σ' H' _ ⟨_, _, g, _⟩ => sq_of g) ?_ ?_
    · rintro l j x σ' H1 hx ⟨⟨v1, v2, rfl⟩, e1, g1, hno⟩
      obtain ⟨n, hn, rfl⟩ := il_get hx
      have hmem : n ∈ A.turns := List.mem_of_getElem? hn
      have h1 := h.ex e1
      obtain ⟨a, hv, hc⟩ := h1.chs n hmem
      have hc' := hc
      obtain ⟨dxc, q, r, t, hc⟩ := hc
      have hg : ∀ {H'}, Ex H1 H' → Ev (tDGet (tFld K (tVar 0) "_channels") (tVar 1)) [some (.ref p), some (.int n), v2] H' (.ref a) := fun e => ev_dget (n := .inl n) ((h1.ex e).e_chans T (ev_var rfl)) ((h1.ex e).dd) (ev_var rfl) hv
      refine s_when (b := has (A.ch n)) (et_B (ev_meth (hg (Ex.refl H1)) hc.ob rfl ea_nil fun H2 e2 Q q' E => ⟨o, i, n, a, A.ch n, rfl, ⟨dxc, q, r, t, hc.ex e2⟩, q'⟩)) (fun hb H2 e2 => ?_) fun hb H2 e2 => ?_
      · have hf : A.turns.find? (fun n => has (A.ch n)) = some n := find_at hn hb hno
        rw [hf] at k
        obtain ⟨_, hrst, hq1, hq2⟩ := (si.loc n).sendC si.m1 hb
        have h2 := h1.ex e2
        have elc : EvL (tLc (iList K (tFld K (tVar 0) "_turns")) (gName 2) (tTest (tOp rNe (tVar 2) (tVar 1))) (tVar 2) [2]) [some (.ref p), some (.int n), v2] H2 (il (A.turns.filter (fun m => decide (m ≠ n)))) := by
          rw [← given_filter]
          have := el_lcL (K := K) (tl := tFld K (tVar 0) "_turns") (te := tVar 2) (t := tTest (tOp rNe (tVar 2) (tVar 1))) (σ := [some (.ref p), some (.int n), v2]) (H := H2) (xs := il A.turns) (j := 2) (vs := [2]) (fun i => decide (A.turns.getD i 0 ≠ n)) (fun i => V.int (A.turns.getD i 0)) (h2.e_turns T (ev_var rfl)) (sq_of h2.tt) (by rw [il_length]; have := turns_len si; omega) (fun x => rfl)
            (fun i' x H3 e3 hx => ?_) (fun i' x H3 e3 hx _ => ?_)
          · rw [il_length] at this
            exact this
          · obtain ⟨m, hm, rfl⟩ := il_get hx
            refine et_is (et_test (ev_op (ev_var rfl) (ev_var rfl) (rv_ne rfl))) ?_
            have : A.turns.getD i' 0 = m := by rw [List.getD_eq_getElem?_getD, hm]; rfl
            rw [this]
            by_cases e : m = n
            · subst e
              simp
            · rw [decide_eq_true e, decide_eq_false (by intro z; injection z with z; exact e z)]
              rfl
          · obtain ⟨m, hm, rfl⟩ := il_get hx
            have : A.turns.getD i' 0 = m := by rw [List.getD_eq_getElem?_getD, hm]; rfl
            rw [this]
            exact ev_var rfl
        have hp := rot_perm si.nd hmem
        have ecat := el_cat (evm_new elc) (evm_new (el_lst (ea_cons (ev_var (i := 1) (v := .int n) rfl) ea_nil) (by show 1 ≤ 100000; decide))) (by
          rw [il_length]
          have := List.length_filter_le (fun m => decide (m ≠ n)) A.turns
          have := turns_len si
          show _ + 1 ≤ 100000
          omega)
        have ej : il (A.turns.filter (fun m => decide (m ≠ n))) ++ [V.int n] = il (A.turns.filter (fun m => decide (m ≠ n)) ++ [n]) := by simp [il]
        rw [ej] at ecat
        refine q_fldL ecat (ev_var rfl) h2.ob T.clD (T.naD _ in_s_turns) (lt1000 rfl) fun l2 H3 hl2 e3 g3 => ?_
        have h3 := (h2.put (x := l2) (r := (i, -1, 3)) hl2).ex e3
        have h4 := h3.attr (A' := { A with turns := A.turns.filter (fun m => decide (m ≠ n)) ++ [n] }) (lt' := l2) (fs := putF "_turns" (.ref l2) (sdFs (.bl A.first) (.int A.win) (.int A.most) .non (.ref d) (.ref ln) (.ref lt) (.int (A.opened : Int)) (.int (A.came : Int)) (.int 0) (.ref lo) (.ref li))) h3.nn g3 h3.oo h3.ii h3.rn put_same h3.ro h3.ri rfl (fun m => hp.mem_iff) hp.length_eq (sd_put_turns (t := .ref lt))
        obtain ⟨a', hv', dxc', q', r', t', hc4⟩ := h4.chs n (hp.mem_iff.mpr hmem)
        have ea : a' = a := by
          rw [hv] at hv'
          injection hv' with hv'
          injection hv' with hv'
          exact hv'.symm
        subst ea
        refine s_retM (ev_dget (n := .inl n) (h4.e_chans T (ev_var rfl)) h4.dd (ev_var rfl) hv) hc4.ob rfl (ea_cons (h4.e_most T (ev_var rfl)) ea_nil) fun H5 e5 => ?_
        have e02 := e1.trans e2
        have hl20 : H l2 = none := fresh_back e02 hl2
        have kt : Keep (OfS i) o H (o.put l2 (i, -1, 3)) H5 := (((Keep.ex (e02.trans e3)).upd fun _ _ => by rw [h.rp]).own hl20).trans (Keep.ex e5)
        refine ⟨o.put l2 (i, -1, 3), i, n, a', A.ch n, A.most, rfl, ⟨dxc', q', r', t', hc4.ex e5⟩, hi, si.m1, hq2, ?_, fun fr o' H' hfr hF hX kk => ?_⟩
        · have := (si.loc n).qw
          have := si.w12
          omega
        · have np : fr ≠ p := fun z => by
            rw [z] at hfr
            have := (h4.ex e5).ob
            rw [hfr] at this
            cases this
          have hfr0 : H fr = none := by
            have := fresh_back e5 hfr
            rw [upd_ne np] at this
            exact fresh_back (e02.trans e3) this
          exact k fr o' H' hfr0 hF ⟨dx, d, ln, l2, lo, li, kvs, (h4.ex e5).chan (hp.mem_iff.mpr hmem) hv kk hX⟩ (kt.trans kk.c2s)
      · refine ⟨⟨_, _, rfl⟩, e1.trans e2, e2 _ _ g1, fun j' m hj hm => ?_⟩
        by_cases z : j' = j
        · subst z
          rw [hn] at hm
          injection hm with hm
          rw [← hm]
          exact hb
        · exact hno j' m (by omega) hm
    · rintro l σ' H1 ⟨⟨v1, v2, rfl⟩, e1, g1, hno⟩
      have hf : A.turns.find? (fun n => has (A.ch n)) = none := find_no fun j m hj hm => hno j m (by rw [il_length]; exact hj) hm
      rw [hf] at k
      exact s_ret ev_c fun H2 e2 => k H2 (e1.trans e2)
end Thl

/-! A side: the next frame, further. -/
namespace Thl
open PySem PySem.Spec PyProof.Rows L2 Evl
variable {P : Program} {w : World} {K : PySem.W.Frag} {mg : Str → Option Value} {base : Heap} {C D : Addr}
theorem nf_ann {A : Co} {n : Int} (h : A.turns.find? (fun n => !(A.ch n).ann) = some n) : nextFr A = some (.opn n, A.set n { A.ch n with ann := true }) := by simp [nextFr, h]
theorem nf_rst {A : Co} {n : Int} (h0 : A.turns.find? (fun n => !(A.ch n).ann) = none) (h : A.turns.find? (fun n => (untold (A.ch n)).isSome) = some n) :
    nextFr A = some (.rst n ((untold (A.ch n)).getD 0), A.set n { A.ch n with told := true }) := by simp only [nextFr, h0, h]
theorem nf_per {A : Co} {n : Int} (h0 : A.turns.find? (fun n => !(A.ch n).ann) = none) (h1 : A.turns.find? (fun n => (untold (A.ch n)).isSome) = none) (h : A.turns.find? (fun n => wants A.win (A.ch n)) = some n) :
    nextFr A = some (.per n (owes A.win (A.ch n)), A.set n { A.ch n with due := (A.ch n).due + owes A.win (A.ch n) }) := by simp only [nextFr, h0, h1, h]
theorem nf_has {A : Co} (h0 : A.turns.find? (fun n => !(A.ch n).ann) = none) (h1 : A.turns.find? (fun n => (untold (A.ch n)).isSome) = none) (h2 : A.turns.find? (fun n => wants A.win (A.ch n)) = none) :
    nextFr A = match A.turns.find? (fun n => has (A.ch n)) with
      | some n => some (sendF A.most n (A.ch n), { A.set n (sendC A.most (A.ch n)) with turns := A.turns.filter (fun m => decide (m ≠ n)) ++ [n] })
      | none => none := by
  simp only [nextFr, h0, h1, h2]
  all_goals (cases A.turns.find? (fun n => has (A.ch n)) <;> rfl)

def spNext (C D : Addr) : Sp := fun vs H Q _ => ∃ (o : Ow) (i : Nat) (p : Addr) (A : Co) (og ic : List Int), vs = [.ref p] ∧ SdX C D o H i p A og ic ∧ i ≠ 9 ∧ (∃ a, SInv A a) ∧
  match nextFr A with
  | none => RetV .non H Q
  | some (f, A') => ∀ fr o' H', H fr = none → FrAt o' H' fr f → SdX C D o' H' i p A' og ic → Keep (OfS i) o H o' H' → Q (.ref fr) H'
theorem scNext : FnScope ["self", "number", "known", "amount"] ["self"] (defScope (sSd 18)) := ⟨rfl, rfl, rfl, by decide +kernel, rfl, by decide +kernel, by decide +kernel⟩
theorem ok_next {f : Addr} {fd : FuncData} (F : Fun K "_next_frame" "Channels._next_frame" (sSd 18) f fd) (T : Txt K mg C D) (M1 : Mt P w K mg base C "owes" 1 ["self", "window"] (spOwes C)) (M2 : Mt P w K mg base D "_next_turn" 2 ["self"] (spNextT C D)) :
    FnOk P w K mg base CX0 3 f fd ["self"] (spNext C D) := by
  refine F.ok scNext (fun vs H Q E h => ?_) (fun cdv A outer s H vs Q E hr h => ?_)
  · obtain ⟨o, i, p, A, og, ic, rfl, _⟩ := h
    rfl
  · obtain ⟨o, i, p, A, og, ic, rfl, ⟨dx, d, ln, lt, lo, li, kvs, h⟩, hi, ⟨an, si⟩, k⟩ := h
    have hu := hu_of hr
    have hr1 : Room 1 _ := hr.mono (by decide)
    refine ⟨_, pss_cons (ps_for PassesOwn.never rfl (pi_list (pe_fld (pv 0) rfl)) (pg_name (i := 1) scNext.nd rfl (Or.inl rfl))
        (pss_cons (ps_set (i := 2) scNext.nd rfl (.inl rfl) (pe_dget hu (pe_fld (pv 0) rfl) (pv 1) (fun _ _ => rfl)))
        (pss_one (ps_if (pt_not (pt_val (pe_fld (pv 2) rfl))) (pss_cons (ps_fld (pv 2) pe_bl rfl) (pss_one (ps_ret (pe_tup (pa_cons pe_str (pa_cons (pv 1) pa_nil)))))) pss_nil))))
      (pss_cons (ps_for PassesOwn.never rfl (pi_list (pe_fld (pv 0) rfl)) (pg_name (i := 1) scNext.nd rfl (Or.inl rfl))
        (pss_cons (ps_set (i := 2) scNext.nd rfl (.inl rfl) (pe_dget hu (pe_fld (pv 0) rfl) (pv 1) (fun _ _ => rfl)))
        (pss_one (ps_if (PW.pt (pw_and (pt_cmpR op_notN (pe_fld (pv 2) rfl) pe_non (nomark _)) (pw_and (pt_cmpR op_eq (pe_ix ix_tup (pe_fld (pv 2) rfl) pe_int (fun _ _ => rfl)) pe_str (nomark _)) (pw_and1 (pt_not (pt_val (pe_fld (pv 2) rfl)))))))
          (pss_cons (ps_fld (pv 2) pe_bl rfl) (pss_one (ps_ret (pe_tup (pa_cons pe_str (pa_cons (pv 1) (pa_cons (pe_ix ix_tup (pe_fld (pv 2) rfl) pe_int (fun _ _ => rfl)) pa_nil))))))) pss_nil))))
      (pss_cons (ps_for PassesOwn.never rfl (pi_list (pe_fld (pv 0) rfl)) (pg_name (i := 1) scNext.nd rfl (Or.inl rfl))
        (pss_cons (ps_set (i := 2) scNext.nd rfl (.inl rfl) (pe_dget hu (pe_fld (pv 0) rfl) (pv 1) (fun _ _ => rfl)))
        (pss_cons (ps_set (i := 3) scNext.nd rfl (.inl rfl) (pmt M1 fun _ _ m g b => pe_meth (pv 2) T.clC m g hr1 b .nil pass0 (pa_cons (pe_fld (pv 0) rfl) pa_nil)))
        (pss_one (ps_if (PW.pt (pw_and (pt_cmpR op_gt (pv 3) pe_int (nomark _)) (pw_and1 (pt_cmpR op_ge (pe_op op_mul pe_int (pv 3)) (pe_fld (pv 0) rfl) (nomark _)))))
          (pss_cons (ps_fld (pv 2) (pe_op op_add (pe_fld (pv 2) rfl) (pv 3)) rfl) (pss_one (ps_ret (pe_tup (pa_cons pe_str (pa_cons (pv 1) (pa_cons (pv 3) pa_nil))))))) pss_nil)))))
      (pss_one (ps_ret (pmt M2 fun _ _ m g b => pe_meth0 (pv 0) T.clD m g hr b .nil pass0))))), ?_⟩
    -- the channel at a place of the order
    have look : ∀ {H' : Hp} {n : Int} {σ : L2.St}, Ex H H' → n ∈ A.turns → σ[0]? = some (some (.ref p)) → σ[1]? = some (some (.int n)) → ∃ a dxc q r t, valV kvs (.inl n) = some (.ref a) ∧ ChAt C o H' i n a (A.ch n) dxc q r t ∧ Ev (tDGet (tFld K (tVar 0) "_channels") (tVar 1)) σ H' (.ref a) := by
      intro H' n σ e hn h0 h1
      obtain ⟨a, hv, dxc, q, r, t, hc⟩ := (h.ex e).chs n hn
      exact ⟨a, dxc, q, r, t, hv, hc, ev_dget (n := .inl n) ((h.ex e).e_chans T (ev_var h0)) (h.ex e).dd (ev_var h1) hv⟩
    -- 1. not announced
    refine q_forLn (xs := il A.turns) (h.e_turns T (ev_var rfl)) (sq_of h.tt) (fun j σ' H' => (∃ v1 v2 v3, σ' = [some (.ref p), v1, v2, v3]) ∧ Ex H H' ∧ ∀ j' m, j' < j → A.turns[j']? = some m → (!(A.ch m).ann) = false)
      (fun H1 e1 => ⟨⟨none, none, none, rfl⟩, e1, fun _ _ hj _ => absurd hj (Nat.not_lt_zero _)⟩) (fun j σ' H' _ ⟨_, e, _⟩ => sq_of (e _ _ h.tt)) ?_ ?_
    · rintro j x σ' H1 hx ⟨⟨v1, v2, v3, rfl⟩, e1, hno⟩
      obtain ⟨n, hn, rfl⟩ := il_get hx
      have hmem : n ∈ A.turns := List.mem_of_getElem? hn
      obtain ⟨a, dxc, q, r, t, hv, hc, hg⟩ := look (σ := [some (.ref p), some (.int n), v2, v3]) e1 hmem rfl rfl
      refine q_asg (v := .ref a) hg fun H2 e2 => ?_
      have c2 := hc.ex e2
      refine s_when (b := !(A.ch n).ann) (et_not (et_B (c2.an T (ev_var rfl)))) (fun hb H3 e3 => ?_) fun hb H3 e3 => ?_
      · have hf := find_at (p := fun n => !(A.ch n).ann) hn hb hno
        rw [nf_ann hf] at k
        have c3 := c2.ex e3
        refine q_fld ev_c (ev_var rfl) c3.ob T.clC (T.naC _ in_announced) (lt1000 rfl) fun H4 e4 => ?_
        have e04 := ((e1.trans e2).trans e3).trans e4
        have c4 := (c3.ex e4).wr (c' := { A.ch n with ann := true }) rfl rfl rfl (ch_put_announced (a := .bl (A.ch n).ann))
        have k4 := ((h.ex e04).chs n hmem)
        refine s_retU (eu_tup (ea_cons ev_c (ea_cons (ev_var (v := .int n) rfl) ea_nil)) (by show 2 ≤ 100000; decide)) fun fr H5 hfr e5 g5 => ?_
        have na : fr ≠ a := fun z => by rw [z, upd_same] at hfr; cases hfr
        have hfr0 : H fr = none := by
          rw [upd_ne na] at hfr
          exact fresh_back e04 hfr
        have kk : Keep (OfC i n) o H (o.put fr tmpR) H5 := ((((Keep.ex e04).upd fun _ _ => c3.ka).trans (Keep.ex e5)).own hfr0)
        exact k fr _ H5 hfr0 ⟨g5, put_same⟩ ⟨dx, d, ln, lt, lo, li, kvs, h.chan hmem hv kk ⟨dxc, q, r, t, (c4.put hfr).ex e5⟩⟩ kk.c2s
      · refine ⟨⟨_, _, _, rfl⟩, (e1.trans e2).trans e3, fun j' m hj hm => ?_⟩
        by_cases z : j' = j
        · subst z
          rw [hn] at hm
          injection hm with hm
          rw [← hm]
          exact hb
        · exact hno j' m (by omega) hm
    rintro σ' H1 ⟨⟨v1, v2, v3, rfl⟩, e1, hno⟩
    have f0 : A.turns.find? (fun n => !(A.ch n).ann) = none := find_no fun j m hj hm => hno j m (by rw [il_length]; exact hj) hm
    clear hno
    have h1 := h.ex e1
    -- 2. reset here, not told
    refine q_forLn (xs := il A.turns) (h1.e_turns T (ev_var rfl)) (sq_of h1.tt) (fun j σ' H' => (∃ v1 v2 v3, σ' = [some (.ref p), v1, v2, v3]) ∧ Ex H1 H' ∧ ∀ j' m, j' < j → A.turns[j']? = some m → (untold (A.ch m)).isSome = false)
      (fun H2 e2 => ⟨⟨_, _, _, rfl⟩, e2, fun _ _ hj _ => absurd hj (Nat.not_lt_zero _)⟩) (fun j σ' H' _ ⟨_, e, _⟩ => sq_of (e _ _ h1.tt)) ?_ ?_
    · rintro j x σ' H2 hx ⟨⟨v1, v2, v3, rfl⟩, e2, hno⟩
      obtain ⟨n, hn, rfl⟩ := il_get hx
      have hmem : n ∈ A.turns := List.mem_of_getElem? hn
      obtain ⟨a, dxc, q, r, t, hv, hc, hg⟩ := look (σ := [some (.ref p), some (.int n), v2, v3]) (e1.trans e2) hmem rfl rfl
      refine q_asg (v := .ref a) hg fun H3 e3 => ?_
      have c3 := hc.ex e3
      have hgoal : ∀ {b : Bool}, (untold (A.ch n)).isSome = b → b = false → ∀ H4, Ex H3 H4 → (∃ u1 u2 u3, ([some (.ref p), some (.int n), some (.ref a), v3] : L2.St) = [some (.ref p), u1, u2, u3]) ∧ Ex H1 H4 ∧ ∀ j' m, j' < j + 1 → A.turns[j']? = some m → (untold (A.ch m)).isSome = false := by
        intro b hb hbf H4 e4
        refine ⟨⟨_, _, _, rfl⟩, (e2.trans e3).trans e4, fun j' m hj hm => ?_⟩
        by_cases z : j' = j
        · subst z
          rw [hn] at hm
          injection hm with hm
          rw [← hm, hb, hbf]
        · exact hno j' m (by omega) hm
      have rb := c3.rb T (ev_var (i := 2) (σ := [some (.ref p), some (.int n), some (.ref a), v3]) rfl)
      cases er : (A.ch n).rst with
      | none =>
        refine s_when (b := false) (et_and (a := false) (b := false) (et_is (et_test (ev_op rb ev_c rv_notN)) (by rw [rst_some, er]; rfl)) fun h => nomatch h) (fun h => nomatch h) fun hb H4 e4 => ?_
        exact hgoal (b := false) (by simp [untold, er]) rfl H4 e4
      | some bk =>
        obtain ⟨bh, j0⟩ := bk
        have hv2 : rstV (A.ch n).rst t = .ref t := by rw [er]; rfl
        have rb2 := ev_is rb hv2
        have g0 := (c3.rs bh j0 er).1
        refine s_when (b := bh && !(A.ch n).told) (et_is (et_and (a := true) (et_is (et_test (ev_op rb ev_c rv_notN)) (by rw [rst_some, er]; rfl)) fun _ => et_and (a := bh) (et_is (et_test (ev_op (ev_ixT rb2 g0 ev_c (atI_nat (j := 0) rfl)) ev_c (rv_eq rfl))) ?_) fun _ => et_not (et_B (c3.rt T (ev_var rfl)))) (by simp)) (fun hb H4 e4 => ?_) fun hb H4 e4 => ?_
        · cases bh <;> decide +kernel
        · have hb1 : bh = true := by cases bh <;> simp_all
          have hb2 : (A.ch n).told = false := by cases z : (A.ch n).told <;> simp_all
          subst hb1
          have hu0 : untold (A.ch n) = some j0 := by simp [untold, er, hb2]
          have hf := find_at (p := fun n => (untold (A.ch n)).isSome) hn (by rw [hu0]; rfl) hno
          rw [nf_rst f0 hf, hu0] at k
          have c4 := c3.ex e4
          refine q_fld ev_c (ev_var rfl) c4.ob T.clC (T.naC _ in_reset_told) (lt1000 rfl) fun H5 e5 => ?_
          have e05 := (((e1.trans e2).trans e3).trans e4).trans e5
          have c5 := (c4.ex e5).wr (c' := { A.ch n with told := true }) rfl rfl rfl (ch_put_reset_told (rt := .bl (A.ch n).told))
          have g5 := (c5.rs true j0 er).1
          have rb5 := ev_is (c5.rb T (ev_var (i := 2) (σ := [some (.ref p), some (.int n), some (.ref a), v3]) rfl)) hv2
          refine s_retU (eu_tup (ea_cons ev_c (ea_cons (ev_var (v := .int n) rfl) (ea_cons (ev_ixT rb5 g5 ev_c (atI_nat (j := 1) rfl)) ea_nil))) (by show 3 ≤ 100000; decide)) fun fr H6 hfr e6 g6 => ?_
          have na : fr ≠ a := fun z => by rw [z, upd_same] at hfr; cases hfr
          have hfr0 : H fr = none := by
            rw [upd_ne na] at hfr
            exact fresh_back e05 hfr
          have kk : Keep (OfC i n) o H (o.put fr tmpR) H6 := ((((Keep.ex e05).upd fun _ _ => c4.ka).trans (Keep.ex e6)).own hfr0)
          exact k fr _ H6 hfr0 ⟨g6, put_same⟩ ⟨dx, d, ln, lt, lo, li, kvs, h.chan hmem hv kk ⟨dxc, q, r, t, (c5.put hfr).ex e6⟩⟩ kk.c2s
        · refine hgoal (b := false) ?_ rfl H4 e4
          cases bh with
          | false => simp [untold, er]
          | true =>
            have : (A.ch n).told = true := by cases z : (A.ch n).told <;> simp_all
            simp [untold, er, this]
    rintro σ' H2 ⟨⟨v1, v2, v3, rfl⟩, e2, hno⟩
    have f1 : A.turns.find? (fun n => (untold (A.ch n)).isSome) = none := find_no fun j m hj hm => hno j m (by rw [il_length]; exact hj) hm
    clear hno
    have e12 := e1.trans e2
    have h2 := h.ex e12
    -- 3. permits
    refine q_forLn (xs := il A.turns) (h2.e_turns T (ev_var rfl)) (sq_of h2.tt) (fun j σ' H' => (∃ v1 v2 v3, σ' = [some (.ref p), v1, v2, v3]) ∧ Ex H2 H' ∧ ∀ j' m, j' < j → A.turns[j']? = some m → wants A.win (A.ch m) = false)
      (fun H3 e3 => ⟨⟨_, _, _, rfl⟩, e3, fun _ _ hj _ => absurd hj (Nat.not_lt_zero _)⟩) (fun j σ' H' _ ⟨_, e, _⟩ => sq_of (e _ _ h2.tt)) ?_ ?_
    · rintro j x σ' H3 hx ⟨⟨v1, v2, v3, rfl⟩, e3, hno⟩
      obtain ⟨n, hn, rfl⟩ := il_get hx
      have hmem : n ∈ A.turns := List.mem_of_getElem? hn
      have e03 := e12.trans e3
      obtain ⟨a, dxc, q, r, t, hv, hc, hg⟩ := look (σ := [some (.ref p), some (.int n), v2, v3]) e03 hmem rfl rfl
      refine q_asg (v := .ref a) hg fun H4 e4 => ?_
      have c4 := hc.ex e4
      have h4 := h.ex (e03.trans e4)
      refine q_asg (v := .int (owes A.win (A.ch n))) (ev_meth (ev_var rfl) c4.ob rfl (ea_cons (h4.e_window T (ev_var rfl)) ea_nil) fun H5 e5 Q q' E => ⟨o, i, n, a, A.ch n, A.win, rfl, ⟨dxc, q, r, t, c4.ex e5⟩, q'⟩) fun H5 e5 => ?_
      have h5 := h4.ex e5
      have c5 := c4.ex e5
      refine s_when (b := wants A.win (A.ch n)) (et_is (et_and (et_test (ev_op (ev_var rfl) ev_c rv_I0)) fun _ => et_test (ev_op (ev_op ev_c (ev_var rfl) (rv_I (.inl ⟨by decide, by decide⟩))) (h5.e_window T (ev_var rfl)) rv_I0)) rfl) (fun hb H6 e6 => ?_) fun hb H6 e6 => ?_
      · have hf := find_at (p := fun n => wants A.win (A.ch n)) hn hb hno
        rw [nf_per f0 f1 hf] at k
        have c6 := c5.ex e6
        refine q_fld (ev_op (c6.du T (ev_var rfl)) (ev_var rfl) rv_I0) (ev_var rfl) c6.ob T.clC (T.naC _ in_due) (lt1000 rfl) fun H7 e7 => ?_
        have e07 := (((e03.trans e4).trans e5).trans e6).trans e7
        have c7 := (c6.ex e7).wr (c' := { A.ch n with due := (A.ch n).due + owes A.win (A.ch n) }) rfl rfl rfl (ch_put_due (d := .int (A.ch n).due))
        refine s_retU (eu_tup (ea_cons ev_c (ea_cons (ev_var (v := .int n) rfl) (ea_cons (ev_var (v := .int (owes A.win (A.ch n))) rfl) ea_nil))) (by show 3 ≤ 100000; decide)) fun fr H8 hfr e8 g8 => ?_
        have na : fr ≠ a := fun z => by rw [z, upd_same] at hfr; cases hfr
        have hfr0 : H fr = none := by
          rw [upd_ne na] at hfr
          exact fresh_back e07 hfr
        have kk : Keep (OfC i n) o H (o.put fr tmpR) H8 := ((((Keep.ex e07).upd fun _ _ => c6.ka).trans (Keep.ex e8)).own hfr0)
        exact k fr _ H8 hfr0 ⟨g8, put_same⟩ ⟨dx, d, ln, lt, lo, li, kvs, h.chan hmem hv kk ⟨dxc, q, r, t, (c7.put hfr).ex e8⟩⟩ kk.c2s
      · refine ⟨⟨_, _, _, rfl⟩, ((e3.trans e4).trans e5).trans e6, fun j' m hj hm => ?_⟩
        by_cases z : j' = j
        · subst z
          rw [hn] at hm
          injection hm with hm
          rw [← hm]
          exact hb
        · exact hno j' m (by omega) hm
    rintro σ' H3 ⟨⟨v1, v2, v3, rfl⟩, e3, hno⟩
    have f2 : A.turns.find? (fun n => wants A.win (A.ch n)) = none := find_no fun j m hj hm => hno j m (by rw [il_length]; exact hj) hm
    have e03 := e12.trans e3
    have h3 := h.ex e03
    rw [nf_has f0 f1 f2] at k
    refine s_retM (ev_var rfl) h3.ob rfl ea_nil fun H4 e4 => ?_
    have e04 := e03.trans e4
    refine ⟨o, i, p, A, og, ic, rfl, ⟨dx, d, ln, lt, lo, li, kvs, h3.ex e4⟩, hi, ⟨an, si⟩, ?_⟩
    cases ef : A.turns.find? (fun n => has (A.ch n)) with
    | none =>
      rw [ef] at k
      exact fun H5 e5 => k H5 (e04.trans e5)
    | some n =>
      rw [ef] at k
      exact fun fr o' H' hfr hF hX kk => k fr o' H' (fresh_back e04 hfr) hF hX ((Keep.ex e04).trans kk)
end Thl

/-! A side: take. -/
namespace Thl
open PySem PySem.Spec PyProof.Rows L2 Evl
variable {P : Program} {w : World} {K : PySem.W.Frag} {mg : Str → Option Value} {base : Heap} {C D : Addr}
theorem FrAt.ex {o : Ow} {H H' : Hp} {p : Addr} {f : Fr} (h : FrAt o H p f) (e : Ex H H') : FrAt o H' p f := h.keep (S := fun _ => False) (.ex e) id
def spTake (C D : Addr) : Sp := fun vs H Q _ => ∃ (o : Ow) (i : Nat) (p : Addr) (A : Co) (og ic : List Int) (c : Int), vs = [.ref p, .int c] ∧ SdX C D o H i p A og ic ∧ i ≠ 9 ∧ 0 ≤ c ∧ (∃ a, SInv A a) ∧ og.length ≤ 1000 ∧
  ∀ fs A' l o' H', Makes A fs A' → (c ≤ ((og ++ encs fs).length : Int) ∨ nextFr A' = none) → (∀ gs g, fs = gs ++ [g] → ((og ++ encs gs).length : Int) < c) → H' l = some (.lst (il ((og ++ encs fs).take c.toNat))) → o' l = tmpR →
    SdX C D o' H' i p A' ((og ++ encs fs).drop c.toNat) ic → Keep (OfS i) o H o' H' → Q (.ref l) H'
theorem scTake : FnScope ["self", "count", "frame", "octets"] ["self", "count"] (defScope (sSd 11)) := ⟨rfl, rfl, rfl, by decide +kernel, rfl, by decide +kernel, by decide +kernel⟩
theorem ok_take {f : Addr} {fd : FuncData} (F : Fun K "take" "Channels.take" (sSd 11) f fd) (T : Txt K mg C D) (M1 : Mt P w K mg base D "_next_frame" 3 ["self"] (spNext C D)) (F1 : Ft P w K mg base "write_frame" 2 ["frame"] spWrite) :
    FnOk P w K mg base CX0 4 f fd ["self", "count"] (spTake C D) := by
  refine F.ok scTake (fun vs H Q E h => ?_) (fun cdv A outer s H vs Q E hr h => ?_)
  · obtain ⟨o, i, p, A, og, ic, c, rfl, _⟩ := h
    rfl
  · obtain ⟨o, i, p, A, og, ic, c, rfl, hX, hi, hc0, ⟨an, si⟩, hog, k⟩ := h
    have hr2 : Room 2 _ := hr.mono (by decide)
    refine ⟨_, pss_cons (ps_if (pt_cmpR op_lt (pv 1) pe_int (nomark _)) (pss_one ps_never) pss_nil)
      (pss_cons (ps_if (pt_cmpR op_notN (pe_fld (pv 0) rfl) pe_non (nomark _)) (pss_one (ps_ret (pe_lst pa_nil))) pss_nil)
      (pss_cons (ps_set (i := 2) scTake.nd rfl (.inl rfl) pe_non)
      (pss_cons (ps_if (pt_cmpR op_lt (pe_callB call_len_seq (by rfl) T.len PySem.boot_len (pa_cons (pe_fld (pv 0) rfl) pa_nil)) (pv 1) (nomark _)) (pss_one (ps_set (i := 2) scTake.nd rfl (.inl rfl) (pmt M1 fun _ _ m g b => pe_meth0 (pv 0) T.clD m g hr b .nil pass0))) pss_nil)
      (pss_cons (ps_while PassesOwn.never (pt_cmpR op_notN (pv 2) pe_non (nomark _))
        (pss_cons (ps_expr (pe_bm PySem.F.plainAttrs_list PySem.F.slot_list_extend PySem.F.type_list_extend mt_extend (pe_fld (pv 0) rfl) (pa_cons (pfn F1 hr2 (pa_cons (pv 2) pa_nil)) pa_nil)))
        (pss_cons (ps_set (i := 2) scTake.nd rfl (.inl rfl) pe_non)
        (pss_one (ps_if (pt_cmpR op_lt (pe_callB call_len_seq (by rfl) T.len PySem.boot_len (pa_cons (pe_fld (pv 0) rfl) pa_nil)) (pv 1) (nomark _)) (pss_one (ps_set (i := 2) scTake.nd rfl (.inl rfl) (pmt M1 fun _ _ m g b => pe_meth0 (pv 0) T.clD m g hr b .nil pass0))) pss_nil)))))
      (pss_cons (ps_set (i := 3) scTake.nd rfl (.inl rfl) (pe_slice sl_list (pe_fld (pv 0) rfl) po_none (po_some (pv 1))))
      (pss_cons (ps_fld (pv 0) (pe_slice sl_list (pe_fld (pv 0) rfl) (po_some (pv 1)) po_none) rfl)
      (pss_one (ps_ret (pv 3))))))))), ?_⟩
    -- behind: the frames gs are in what goes; a next one may be made and not yet put there
    let W : Nat → L2.St → Hp → Prop := fun m σ' H' => ∃ gs A1 o1 v3, Makes A gs A1 ∧ Keep (OfS i) o H o1 H' ∧ (∀ hs g, gs = hs ++ [g] → ((og ++ encs hs).length : Int) < c) ∧
      ((σ' = [some (.ref p), some (.int c), some .non, v3] ∧ SdX C D o1 H' i p A1 (og ++ encs gs) ic ∧ (c ≤ ((og ++ encs gs).length : Int) ∨ nextFr A1 = none)) ∨
       (∃ fr g A2, nextFr A1 = some (g, A2) ∧ ((og ++ encs gs).length : Int) < c ∧ σ' = [some (.ref p), some (.int c), some (.ref fr), v3] ∧ SdX C D o1 H' i p A2 (og ++ encs gs) ic ∧ FrAt o1 H' fr g ∧ (beta A2).toNat < m))
    have step : ∀ (X : Ends) (gs : List Fr) (A1 : Co) (o1 : Ow) (H1 : Hp) (v3 : Option V), Makes A gs A1 → Keep (OfS i) o H o1 H1 → (∀ hs g, gs = hs ++ [g] → ((og ++ encs hs).length : Int) < c) → SdX C D o1 H1 i p A1 (og ++ encs gs) ic →
        (∀ σ2 H2, W (beta A1).toNat σ2 H2 → X.nx σ2 H2) → tIfS (tTest (tOp (rI0 fun i j => .bl (decide (i < j))) (tCB (rLenS K) (tCons (tFld K (tVar 0) "_outgoing") tNil)) (tVar 1))) (tAsg (tMeth D "_next_frame" (spNext C D) [] E0 (tVar 0) tNil) (gName 2)) tNext X [some (.ref p), some (.int c), some .non, v3] H1 := by
      intro X gs A1 o1 H1 v3 hm hk hcond hx hX
      obtain ⟨dx, d, ln, lt, lo, li, kvs, h⟩ := hx
      obtain ⟨a1, s1, b1⟩ := si.makes hm
      have hlen := ev_lenM (K := K) (evm_ref (h.e_outg T (ev_var (i := 0) (σ := [some (.ref p), some (.int c), some .non, v3]) rfl)) h.oo)
      rw [il_length] at hlen
      refine s_when (b := decide (((og ++ encs gs).length : Int) < c)) (et_test (ev_op hlen (ev_var rfl) rv_I0)) (fun hb H2 e2 => ?_) fun hb H2 e2 => ?_
      · have hlt := of_decide_eq_true hb
        refine s_asgM (ev_var rfl) (h.ex e2).ob rfl ea_nil fun H3 e3 => ?_
        have h3 := (h.ex e2).ex e3
        refine ⟨o1, i, p, A1, og ++ encs gs, ic, rfl, ⟨dx, d, ln, lt, lo, li, kvs, h3⟩, hi, ⟨a1, s1⟩, ?_⟩
        cases en : nextFr A1 with
        | none => exact fun H4 e4 => hX _ H4 ⟨gs, A1, o1, v3, hm, hk.trans (Keep.ex ((e2.trans e3).trans e4)), hcond, .inl ⟨rfl, ⟨dx, d, ln, lt, lo, li, kvs, h3.ex e4⟩, .inr en⟩⟩
        | some gA =>
          obtain ⟨g, A2⟩ := gA
          refine fun fr o' H' hfr hF hX2 kk => hX _ H' ⟨gs, A1, o', v3, hm, (hk.trans (Keep.ex (e2.trans e3))).trans kk, hcond, .inr ⟨fr, g, A2, en, hlt, rfl, hX2, hF, ?_⟩⟩
          have b2 := beta_next s1 (next_of en)
          obtain ⟨a2, s2⟩ := s1.next (next_of en)
          have p2 := (beta_bd s2).1
          have l2 : (enc g).length ≠ 0 := by simpa using enc_ne g
          omega
      · have hge := of_decide_eq_false hb
        exact hX _ H2 ⟨gs, A1, o1, v3, hm, hk.trans (Keep.ex e2), hcond, .inl ⟨rfl, ⟨dx, d, ln, lt, lo, li, kvs, h.ex e2⟩, .inl (by omega)⟩⟩
    have hX0 := hX
    obtain ⟨dx, d, ln, lt, lo, li, kvs, h⟩ := hX
    refine q_when (b := false) (et_is (et_test (ev_op (ev_var rfl) ev_c rv_I0)) (decide_eq_false (by omega))) (fun h => nomatch h) fun _ H1 e1 => ?_
    refine q_when (b := false) (et_is (et_test (ev_op ((h.ex e1).e_failure T (ev_var rfl)) ev_c rv_notN)) rfl) (fun h => nomatch h) fun _ H2 e2 => ?_
    refine q_asg (v := .non) ev_c fun H3 e3 => ?_
    have e03 := (e1.trans e2).trans e3
    refine step { nx := _, rt := Q } [] A o H3 none .nil (Keep.ex e03) (fun hs g z => by simp at z) (by rw [show encs [] = [] from rfl, List.append_nil]; exact hX0.ex e03) fun σ2 H4 hW => ?_
    refine q_while W _ hW ?_
    intro m σ' H5 hw
    obtain ⟨gs, A1, o1, v3, hm, hk, hcond, hw⟩ := hw
    rcases hw with ⟨rfl, hx, hex⟩ | ⟨fr, g, A2, en, hlt, rfl, hx, hF, hmm⟩
    · refine ⟨false, et_is (et_test (ev_op (ev_var rfl) ev_c rv_notN)) rfl, (fun h => nomatch h), fun _ H6 e6 => ?_⟩
      obtain ⟨dx, d, ln, lt, lo, li, kvs, h⟩ := hx
      have h6 := h.ex e6
      refine q_asgL (xs := il ((og ++ encs gs).take c.toNat)) (by rw [← cut_take hc0]; exact el_slM (evm_ref (h6.e_outg T (ev_var rfl)) h6.oo) eo_none (eo_some (ev_var rfl))) fun l H7 hl e7 g7 => ?_
      have h7 := (h6.put (x := l) (r := tmpR) hl).ex e7
      refine q_fldL (xs := il ((og ++ encs gs).drop c.toNat)) (by rw [← cut_drop hc0]; exact el_slM (evm_ref (h7.e_outg T (ev_var rfl)) h7.oo) (eo_some (ev_var rfl)) eo_none) (ev_var rfl) h7.ob T.clD (T.naD _ in_s_outgoing) (lt1000 rfl) fun l2 H8 hl2 e8 g8 => ?_
      have h8 := (h7.put (x := l2) (r := (i, -1, 4)) hl2).ex e8
      have h9 := h8.attr (A' := A1) (lo' := l2) (og' := (og ++ encs gs).drop c.toNat) (fs := putF "_outgoing" (.ref l2) (sdFs (.bl A1.first) (.int A1.win) (.int A1.most) .non (.ref d) (.ref ln) (.ref lt) (.int (A1.opened : Int)) (.int (A1.came : Int)) (.int 0) (.ref lo) (.ref li))) h8.nn h8.tt g8 h8.ii h8.rn h8.rt put_same h8.ri rfl (fun _ => Iff.rfl) rfl (sd_put_outgoing (og := .ref lo))
      have npl : l ≠ p := (ne_of_none h6.ob hl).symm
      have nll : l ≠ l2 := ne_of_none g7 hl2
      have kt : Keep (OfS i) o1 H5 ((o1.put l tmpR).put l2 (i, -1, 4)) (upd H8 p (.ins D dx (putF "_outgoing" (.ref l2) (sdFs (.bl A1.first) (.int A1.win) (.int A1.most) .non (.ref d) (.ref ln) (.ref lt) (.int (A1.opened : Int)) (.int (A1.came : Int)) (.int 0) (.ref lo) (.ref li))))) :=
        (((Keep.ex ((e6.trans e7).trans e8)).upd fun _ _ => by rw [h.rp]).own (fresh_back e6 hl)).own (fresh_back (e6.trans e7) hl2)
      refine s_ret (ev_var rfl) fun H9 e9 => k gs A1 l _ H9 hm hex hcond ?_ ?_ ⟨dx, d, ln, lt, l2, li, kvs, h9.ex e9⟩ ((hk.trans kt).trans (Keep.ex e9))
      · refine e9 _ _ ?_
        rw [upd_ne npl]
        exact e8 _ _ g7
      · rw [put_ne nll, put_same]
    · refine ⟨true, et_is (et_test (ev_op (ev_var rfl) ev_c rv_notN)) rfl, (fun _ H6 e6 => ?_), fun h => nomatch h⟩
      obtain ⟨a1, s1, b1⟩ := si.makes hm
      obtain ⟨a2, s2⟩ := s1.next (next_of en)
      have b2 := beta_next s1 (next_of en)
      have p2 := (beta_bd s2).1
      have u0 := (beta_bd si).2
      have hel : (enc g).length ≤ 1200 := by omega
      have hol : ((og ++ encs gs).length : Int) ≤ 1000 + 1144 := by
        rw [List.length_append]
        have := (beta_bd s1).1
        omega
      obtain ⟨dx, d, ln, lt, lo, li, kvs, h⟩ := hx
      have h6 := h.ex e6
      refine ⟨fun σ2 H2 => W (beta A2).toNat σ2 H2, fun σ2 H2 hW => ⟨_, hmm, hW⟩, ?_⟩
      refine q_ext (ys := il (enc g)) h6.oo (h6.e_outg T (ev_var rfl)) (evm_new (el_fn (ea_cons (ev_var rfl) ea_nil) fun H7 e7 Q q E => ⟨o1, fr, g, rfl, (hF.ex e6).ex e7, hel, q⟩)) (by rw [il_length, il_length]; omega) fun H7 e7 => ?_
      have ej : il (og ++ encs gs) ++ il (enc g) = il (og ++ encs (gs ++ [g])) := by
        rw [encs_append, encs_one]
        simp [il]
      rw [ej]
      have h7 := (h6.ex e7).oset (og' := og ++ encs (gs ++ [g]))
      have k7 : Keep (OfS i) o H o1 (upd H7 lo (.lst (il (og ++ encs (gs ++ [g]))))) := hk.trans ((Keep.ex (e6.trans e7)).upd fun _ _ => by rw [h.ro])
      refine q_asg (v := .non) ev_c fun H8 e8 => ?_
      refine step _ (gs ++ [g]) A2 o1 H8 v3 (.snoc hm en) (k7.trans (Keep.ex e8)) (fun hs g' z => ?_) ⟨dx, d, ln, lt, lo, li, kvs, h7.ex e8⟩ fun σ2 H2 hW => hW
      obtain ⟨z1, z2⟩ := List.append_inj' z rfl
      rw [← z1]
      exact hlt
end Thl

/-! A side: receive. -/
namespace Thl
open PySem PySem.Spec PyProof.Rows L2 Evl
variable {P : Program} {w : World} {K : PySem.W.Frag} {mg : Str → Option Value} {base : Heap} {C D : Addr}
/-! ### _first_frame -/
def spFF (C D : Addr) : Sp := fun vs H Q _ => ∃ (o : Ow) (i : Nat) (p : Addr) (A : Co) (og ic : List Int), vs = [.ref p] ∧ SdX C D o H i p A og ic ∧ ic.length ≤ 90000 ∧ Hdr ic ∧ match parse ic with
  | none => RetV .non H Q
  | some (f, n) => ∀ q fr H', H q = none → FrN H H' fr f → Ex H H' → H' q = some (.tup [.ref fr, .int (n : Int)]) → Q (.ref q) H'
theorem scFF : FnScope ["self"] ["self"] (defScope (sSd 20)) := ⟨rfl, rfl, rfl, by decide +kernel, rfl, by decide +kernel, by decide +kernel⟩
theorem ok_ff {f : Addr} {fd : FuncData} (F : Fun K "_first_frame" "Channels._first_frame" (sSd 20) f fd) (T : Txt K mg C D) (F1 : Ft P w K mg base "first_frame" 1 ["octets"] spFirst) : FnOk P w K mg base CX0 2 f fd ["self"] (spFF C D) := by
  refine F.ok scFF (fun vs H Q E h => ?_) (fun cdv A outer s H vs Q E hr h => ?_)
  · obtain ⟨o, i, p, A, og, ic, rfl, _⟩ := h
    rfl
  · obtain ⟨o, i, p, A, og, ic, rfl, ⟨dx, d, ln, lt, lo, li, kvs, h⟩, hl, hh, k⟩ := h
    refine ⟨_, pss_cons (ps_if (pt_cmpR op_notN (pe_fld (pv 0) rfl) pe_non (nomark _)) (pss_one (ps_ret pe_non)) pss_nil)
      (pss_one (ps_try_thru0 (pss_one (ps_ret (pfn F1 hr (pa_cons (pe_fld (pv 0) rfl) pa_nil)))))), ?_⟩
    refine q_when (b := false) (et_is (et_test (ev_op (h.e_failure T (ev_var rfl)) ev_c rv_notN)) rfl) (fun h => nomatch h) fun _ H1 e1 => ?_
    have h1 := h.ex e1
    refine go_call (ea_cons (h1.e_inc T (ev_var rfl)) ea_nil) fun H2 e2 => ?_
    have e12 := e1.trans e2
    refine ⟨li, ic, rfl, e2 _ _ h1.ii, hl, hh, ?_⟩
    cases ep : parse ic with
    | none =>
      rw [ep] at k
      exact fun H3 e3 => k H3 (e12.trans e3)
    | some fn =>
      obtain ⟨f, n⟩ := fn
      rw [ep] at k
      exact fun q fr H3 hq hf e3 g3 => k q fr H3 (fresh_back e12 hq) (hf.back e12) (e12.trans e3) g3

/-! ### _take_frame -/
def spTF (C D : Addr) : Sp := fun vs H Q _ => ∃ (o : Ow) (i : Nat) (p fr : Addr) (A : Co) (og ic : List Int) (f : Fr), vs = [.ref p, .ref fr] ∧ SdX C D o H i p A og ic ∧ FrAt o H fr f ∧ i ≠ 9 ∧ (∃ a, SInv A a) ∧ VF f ∧ GoodF A f ∧
  ∀ o' H', SdX C D o' H' i p (recvF A f) og ic → Keep (OfS i) o H o' H' → Q .non H'
theorem scTF : FnScope ["self", "frame"] ["self", "frame"] (defScope (sSd 21)) := ⟨rfl, rfl, rfl, by decide +kernel, rfl, by decide +kernel, by decide +kernel⟩
theorem not_turn {A : Co} {a : Nat} (h : SInv A a) : num (!A.first) (A.came + 1) ∉ A.turns := fun z => by
  rcases (h.mem _).mp z with z | z
  · exact Own.other z
  · exact Own.not z
theorem recv_set {A : Co} {f : Fr} (h : f.isOpn = false) : recvF A f = A.set f.chan (takeF (A.ch f.chan) f) := by
  cases f with
  | opn x => cases h
  | oct x d => rfl
  | per x m => rfl
  | fin x => rfl
  | rst x k => rfl
theorem good_set {A : Co} {f : Fr} (h : f.isOpn = false) (g : GoodF A f) : f.chan ∈ A.turns ∧ GoodC (A.ch f.chan) f := by
  cases f with
  | opn x => cases h
  | oct x d => exact g
  | per x m => exact g
  | fin x => exact g
  | rst x k => exact g
/-- what a frame's tuple begins with -/
def Fr.word : Fr → Str
  | .opn _ => "open"
  | .oct _ _ => "octets"
  | .per _ _ => "permit"
  | .fin _ => "end"
  | .rst _ _ => "reset"
theorem fr_head {o : Ow} {H : Hp} {p : Addr} {f : Fr} (h : FrAt o H p f) : ∃ rest, H p = some (.tup (.str f.word :: .int f.chan :: rest)) := by
  cases f with
  | opn x => exact ⟨_, h.1⟩
  | oct x d =>
    obtain ⟨⟨l, h, _⟩, _⟩ := h
    exact ⟨_, h⟩
  | per x m => exact ⟨_, h.1⟩
  | fin x => exact ⟨_, h.1⟩
  | rst x k => exact ⟨_, h.1⟩
theorem word_opn (f : Fr) : decide (V.str f.word = V.str "open") = f.isOpn := by
  cases f <;> rfl
theorem ok_tf {f : Addr} {fd : FuncData} (F : Fun K "_take_frame" "Channels._take_frame" (sSd 21) f fd) (T : Txt K mg C D) (M1 : Mt P w K mg base D "_theirs" 1 ["self", "place"] (spTheirs C D)) (M2 : Mt P w K mg base D "_add" 3 ["self", "number", "announced"] (spAdd C D))
    (M3 : Mt P w K mg base C "problem_of" 1 ["self", "frame"] (spProb C)) (M4 : Mt P w K mg base C "take_frame" 2 ["self", "frame"] (spTakeF C)) : FnOk P w K mg base CX0 4 f fd ["self", "frame"] (spTF C D) := by
  refine F.ok scTF (fun vs H Q E h => ?_) (fun cdv A outer s H vs Q E hr h => ?_)
  · obtain ⟨o, i, p, fr, A, og, ic, f, rfl, _⟩ := h
    rfl
  · obtain ⟨o, i, p, fr, A, og, ic, f, rfl, ⟨dx, d, ln, lt, lo, li, kvs, h⟩, hF, hi, ⟨an, si⟩, hv, hg, k⟩ := h
    have hu := hu_of hr
    have hr1 : Room 1 _ := hr.mono (by decide)
    have hr2 : Room 2 _ := hr.mono (by decide)
    obtain ⟨mc, u, hmc, hcv⟩ := T.most
    obtain ⟨rest, hp⟩ := fr_head hF
    refine ⟨_, pss_cons (ps_if (pt_cmpR op_eq (pe_ix ix_tup (pv 1) pe_int (fun _ _ => rfl)) pe_str (nomark _))
        (pss_cons (ps_if (PW.pt (pw_or (pt_cmpR op_eq (pe_fld (pv 0) rfl) (ClX.pe_cval (pe_glob (v := .ref D) rfl T.mgD rfl)) (nomark _)) (pw_or1 (pt_cmpR op_ne (pe_ix ix_tup (pv 1) pe_int (fun _ _ => rfl)) (pmt M1 fun _ _ m g b => pe_meth (pv 0) T.clD m g hr1 b .nil pass0 (pa_cons (pe_op op_add (pe_fld (pv 0) rfl) pe_int) pa_nil)) (nomark _)))))
          (pss_cons ps_never (pss_one ps_never)) pss_nil)
        (pss_cons (ps_fldaug (pv 0) pe_int in_add)
        (pss_cons (ps_expr (pmt M2 fun _ _ m g b => pe_meth (pv 0) T.clD m g hr b .nil pass0 (pa_cons (pe_ix ix_tup (pv 1) pe_int (fun _ _ => rfl)) (pa_cons pe_bl pa_nil))))
        (pss_one ps_retN)))) pss_nil)
      (pss_cons (ps_if (pt_cmp (pc_dnotin hu (pe_ix ix_tup (pv 1) pe_int (fun _ _ => rfl)) (pe_fld (pv 0) rfl))) (pss_cons ps_never (pss_one ps_never)) pss_nil)
      (pss_cons (ps_fld (pv 0) (pmt M3 fun _ _ m g b => pe_meth (pe_dget hu (pe_fld (pv 0) rfl) (pe_ix ix_tup (pv 1) pe_int (fun _ _ => rfl)) (fun _ _ => rfl)) T.clC m g hr1 b .nil pass0 (pa_cons (pv 1) pa_nil)) rfl)
      (pss_one (ps_if (pt_cmpR op_isN (pe_fld (pv 0) rfl) pe_non (nomark _)) (pss_one (ps_expr (pmt M4 fun _ _ m g b => pe_meth (pe_dget hu (pe_fld (pv 0) rfl) (pe_ix ix_tup (pv 1) pe_int (fun _ _ => rfl)) (fun _ _ => rfl)) T.clC m g hr2 b .nil pass0 (pa_cons (pv 1) pa_nil)))) pss_nil)))), ?_⟩
    have ix0 : ∀ {H'}, Ex H H' → Ev (tOp (rIxT K) (tVar 1) (tC (.int 0))) [some (.ref p), some (.ref fr)] H' (.str f.word) := fun e => ev_ixT (ev_var rfl) (e _ _ hp) ev_c (atI_nat (j := 0) rfl)
    have ix1 : ∀ {H'}, H' fr = some (.tup (.str f.word :: .int f.chan :: rest)) → Ev (tOp (rIxT K) (tVar 1) (tC (.int 1))) [some (.ref p), some (.ref fr)] H' (.int f.chan) := fun e => ev_ixT (ev_var rfl) e ev_c (atI_nat (j := 1) rfl)
    refine q_when (b := f.isOpn) (et_is (et_test (ev_op (ix0 (Ex.refl H)) ev_c (rv_eq rfl))) (word_opn f)) (fun hb H1 e1 => ?_) fun hb H1 e1 => ?_
    · cases f with
      | oct x d => cases hb
      | per x m => cases hb
      | fin x => cases hb
      | rst x m => cases hb
      | opn x =>
        obtain ⟨g1, g2⟩ := hg
        have h1 := h.ex e1
        have hth : Ev (tMeth D "_theirs" (spTheirs C D) [] E0 (tVar 0) (tCons (tOp (rI0 fun i j => .int (i + j)) (tFld K (tVar 0) "_came") (tC (.int 1))) tNil)) [some (.ref p), some (.ref fr)] H1 (.int (num (!A.first) (A.came + 1))) :=
          ev_meth (ev_var rfl) h1.ob rfl (ea_cons (ev_op (h1.e_came T (ev_var rfl)) ev_c rv_I0) ea_nil) fun H2 e2 Q q E => ⟨o, i, p, A, og, ic, A.came + 1, rfl, ⟨dx, d, ln, lt, lo, li, kvs, h1.ex e2⟩, q⟩
        refine q_when (b := false) (et_is (et_or (et_test (ev_op (h1.e_came T (ev_var rfl)) (fun H1 e Q q => ⟨D, mc, _, _, rfl, hmc, hcv, q H1 (Ex.refl H1)⟩ : Ev _ _ _ (V.int 100)) (rv_eq rfl))) fun _ => et_test (ev_op (ix1 (e1 _ _ hp)) hth (rv_ne rfl))) ?_) (fun h => nomatch h) fun _ H2 e2 => ?_
        · rw [decide_eq_false (show ¬ V.int (A.came : Int) = V.int 100 by intro z; injection z with z; omega), g2, decide_eq_true (show V.int (Fr.opn (num (!A.first) (A.came + 1))).chan = V.int (num (!A.first) (A.came + 1)) from rfl)]
          rfl
        have e12 := e1.trans e2
        have h2 := h.ex e12
        refine q_fldAdd (ev_var rfl) h2.ob T.clD (T.naD _ in_s_came) sd_came ev_c (lt1000 rfl) fun H3 e3 => ?_
        have h3 := h2.ex e3
        have h4 := h3.attr (A' := { A with came := A.came + 1 }) (fs := putF "_came" (.int ((A.came : Int) + 1)) (sdFs (.bl A.first) (.int A.win) (.int A.most) .non (.ref d) (.ref ln) (.ref lt) (.int (A.opened : Int)) (.int (A.came : Int)) (.int 0) (.ref lo) (.ref li))) h3.nn h3.tt h3.oo h3.ii h3.rn h3.rt h3.ro h3.ri rfl (fun _ => Iff.rfl) rfl (sd_put_came (cm := .int (A.came : Int)))
        have npf : fr ≠ p := ne_of hp h.ob (by intro z; cases z)
        have hp3 : (upd H3 p (.ins D dx (putF "_came" (.int ((A.came : Int) + 1)) (sdFs (.bl A.first) (.int A.win) (.int A.most) .non (.ref d) (.ref ln) (.ref lt) (.int (A.opened : Int)) (.int (A.came : Int)) (.int 0) (.ref lo) (.ref li))))) fr = _ := (upd_ne npf).trans ((e12.trans e3) _ _ hp)
        have k3 : Keep (OfS i) o H o (upd H3 p (.ins D dx (putF "_came" (.int ((A.came : Int) + 1)) (sdFs (.bl A.first) (.int A.win) (.int A.most) .non (.ref d) (.ref ln) (.ref lt) (.int (A.opened : Int)) (.int (A.came : Int)) (.int 0) (.ref lo) (.ref li))))) := (Keep.ex (e12.trans e3)).upd fun _ _ => by rw [h.rp]
        refine q_meth (ev_var rfl) h4.ob rfl (ea_cons (ix1 hp3) (ea_cons ev_c ea_nil)) fun H5 e5 => ?_
        have hn : (Fr.opn x).chan ∉ A.turns := by
          rw [show (Fr.opn x).chan = x from rfl, g2]
          exact not_turn si
        have hl8 := turns_len si
        have hnl : A.nums.length = A.turns.length := si.prm.length_eq
        refine ⟨o, i, p, { A with came := A.came + 1 }, og, ic, (Fr.opn x).chan, true, rfl, ⟨dx, d, ln, lt, lo, li, kvs, h4.ex e5⟩, hn, by show A.turns.length ≤ 1000; omega, by show A.nums.length ≤ 1000; omega, fun o' H' hx kx => ?_⟩
        exact s_retN (k o' H' hx ((k3.trans (Keep.ex e5)).trans kx))
    · obtain ⟨hm, hgc⟩ := good_set hb hg
      rw [recv_set hb] at k
      obtain ⟨a, hvv, dxc, q, r, t, hc⟩ := h.chs f.chan hm
      have h1 := h.ex e1
      refine q_when (b := false) (et_is (et_B (ev_dnotin (n := .inl f.chan) (ix1 (e1 _ _ hp)) (h1.e_chans T (ev_var rfl)) h1.dd)) (by rw [hvv]; rfl)) (fun h => nomatch h) fun _ H2 e2 => ?_
      have e12 := e1.trans e2
      have h2 := h.ex e12
      have c2 := hc.ex e12
      have hF2 := hF.ex e12
      refine q_fld (y := .non) (ev_meth (ev_dget (n := .inl f.chan) (h2.e_chans T (ev_var rfl)) h2.dd (ix1 (e12 _ _ hp)) hvv) c2.ob rfl (ea_cons (ev_var rfl) ea_nil) fun H3 e3 Q q' E => ⟨o, i, f.chan, a, fr, A.ch f.chan, f, rfl, ⟨dxc, q, r, t, c2.ex e3⟩, hF2.ex e3, hgc, q'⟩) (ev_var rfl) h2.ob T.clD (T.naD _ in_sfailure) (lt1000 rfl) fun H3 e3 => ?_
      have h3 := h2.ex e3
      have h4 := h3.attr (A' := A) (fs := putF "failure" .non (sdFs (.bl A.first) (.int A.win) (.int A.most) .non (.ref d) (.ref ln) (.ref lt) (.int (A.opened : Int)) (.int (A.came : Int)) (.int 0) (.ref lo) (.ref li))) h3.nn h3.tt h3.oo h3.ii h3.rn h3.rt h3.ro h3.ri rfl (fun _ => Iff.rfl) rfl (sd_put_failure (fl := .non))
      have npf : fr ≠ p := ne_of hp h.ob (by intro z; cases z)
      have k4 : Keep (OfS i) o H o (upd H3 p (.ins D dx (putF "failure" .non (sdFs (.bl A.first) (.int A.win) (.int A.most) .non (.ref d) (.ref ln) (.ref lt) (.int (A.opened : Int)) (.int (A.came : Int)) (.int 0) (.ref lo) (.ref li))))) := (Keep.ex (e12.trans e3)).upd fun _ _ => by rw [h.rp]
      have hF4 := hF.keep k4 (by intro z; exact hi z.symm)
      refine s_when (b := true) (et_is (et_test (ev_op (h4.e_failure T (ev_var rfl)) ev_c rv_isN)) rfl) (fun _ H5 e5 => ?_) fun h => nomatch h
      have h5 := h4.ex e5
      have hF5 := hF4.ex e5
      obtain ⟨rest5, hp5⟩ := fr_head hF5
      obtain ⟨a5, hv5, dx5, q5, r5, t5, c5⟩ := h5.chs f.chan hm
      have ea : a5 = a := by
        rw [hvv] at hv5
        injection hv5 with hv5
        injection hv5 with hv5
        exact hv5.symm
      subst ea
      have ix5 : Ev (tOp (rIxT K) (tVar 1) (tC (.int 1))) [some (.ref p), some (.ref fr)] H5 (.int f.chan) := ev_ixT (ev_var rfl) hp5 ev_c (atI_nat (j := 1) rfl)
      refine s_meth (ev_dget (n := .inl f.chan) (h5.e_chans T (ev_var rfl)) h5.dd ix5 hvv) c5.ob rfl (ea_cons (ev_var rfl) ea_nil) fun H6 e6 => ?_
      refine ⟨o, i, f.chan, a5, fr, A.ch f.chan, f, rfl, ⟨dx5, q5, r5, t5, c5.ex e6⟩, hF5.ex e6, hi, hgc, fun x d e => ?_, fun o' H' hx kx => ?_⟩
      · subst e
        have := hv.2.2
        have := (si.loc x).dw
        have := (si.loc x).d0
        have := si.w12
        show (A.ch x).ready.length + d.length ≤ 100000
        omega
      · exact k o' H' ⟨dx, d, ln, lt, lo, li, kvs, (h5.ex e6).chan hm hvv kx hx⟩ ((k4.trans (Keep.ex (e5.trans e6))).trans kx.c2s)
end Thl

/-! A side: receive, the loop. -/
namespace Thl
open PySem PySem.Spec PyProof.Rows L2 Evl
variable {P : Program} {w : World} {K : PySem.W.Frag} {mg : Str → Option Value} {base : Heap} {C D : Addr}
theorem FrAt.tmp {o : Ow} {H : Hp} {p q : Addr} {f : Fr} (h : FrAt o H p f) : FrAt (o.put q tmpR) H p f := by
  have r : ∀ {z : Addr}, o z = tmpR → (o.put q tmpR) z = tmpR := fun {z} e => by
    by_cases x : z = q
    · rw [x, put_same]
    · rw [put_ne x, e]
  cases f with
  | oct c d =>
    obtain ⟨⟨l, h1, h2, h3⟩, h4⟩ := h
    exact ⟨⟨l, h1, h2, r h3⟩, r h4⟩
  | opn c => exact ⟨h.1, r h.2⟩
  | per c m => exact ⟨h.1, r h.2⟩
  | fin c => exact ⟨h.1, r h.2⟩
  | rst c k => exact ⟨h.1, r h.2⟩
theorem Tail.none {rest : List Int} (h : Tail rest) : parse rest = none ∧ Hdr rest := by
  rcases h with h | ⟨g, r, h1, h2, h3⟩
  · subst h
    exact ⟨rfl, hdr_nil⟩
  · exact ⟨parse_pre h1 h2 h3, hdr_pre h1 h3⟩
def spRecv (C D : Addr) : Sp := fun vs H Q _ => ∃ (o : Ow) (i : Nat) (p l : Addr) (A A' : Co) (og ic os rest : List Int) (fs : List Fr), vs = [.ref p, .ref l] ∧ SdX C D o H i p A og ic ∧ H l = some (.lst (il os)) ∧ ic ++ os = encs fs ++ rest ∧ Tail rest ∧ Recvs A fs A' ∧
  (ic ++ os).length ≤ 90000 ∧ i ≠ 9 ∧ ∀ o' H', SdX C D o' H' i p A' og rest → Keep (OfS i) o H o' H' → Q .non H'
theorem scRecv : FnScope ["self", "octets", "found"] ["self", "octets"] (defScope (sSd 12)) := ⟨rfl, rfl, rfl, by decide +kernel, rfl, by decide +kernel, by decide +kernel⟩
theorem ok_recv {f : Addr} {fd : FuncData} (F : Fun K "receive" "Channels.receive" (sSd 12) f fd) (T : Txt K mg C D) (M1 : Mt P w K mg base D "_first_frame" 2 ["self"] (spFF C D)) (M2 : Mt P w K mg base D "_take_frame" 4 ["self", "frame"] (spTF C D)) :
    FnOk P w K mg base CX0 5 f fd ["self", "octets"] (spRecv C D) := by
  refine F.ok scRecv (fun vs H Q E h => ?_) (fun cdv A outer s H vs Q E hr h => ?_)
  · obtain ⟨o, i, p, l, A, A', og, ic, os, rest, fs, rfl, _⟩ := h
    rfl
  · obtain ⟨o, i, p, l, A, A', og, ic, os, rest, fs, rfl, ⟨dx, d, ln, lt, lo, li, kvs, h⟩, hl, hs, ht, hR, hz, hi, k⟩ := h
    have hr2 : Room 2 _ := hr.mono (by decide)
    refine ⟨_, pss_cons (ps_if (pt_cmpR op_notN (pe_fld (pv 0) rfl) pe_non (nomark _)) (pss_one ps_retN) pss_nil)
      (pss_cons (ps_expr (pe_bm PySem.F.plainAttrs_list PySem.F.slot_list_extend PySem.F.type_list_extend mt_extend (pe_fld (pv 0) rfl) (pa_cons (pv 1) pa_nil)))
      (pss_cons (ps_set (i := 2) scRecv.nd rfl (.inl rfl) (pmt M1 fun _ _ m g b => pe_meth0 (pv 0) T.clD m g hr2 b .nil pass0))
      (pss_one (ps_while PassesOwn.never (pt_cmpR op_notN (pv 2) pe_non (nomark _))
        (pss_cons (ps_fld (pv 0) (pe_slice sl_list (pe_fld (pv 0) rfl) (po_some (pe_ix ix_tup (pv 2) pe_int (fun _ _ => rfl))) po_none) rfl)
        (pss_cons (ps_expr (pmt M2 fun _ _ m g b => pe_meth (pv 0) T.clD m g hr b .nil pass0 (pa_cons (pe_ix ix_tup (pv 2) pe_int (fun _ _ => rfl)) pa_nil)))
        (pss_one (ps_set (i := 2) scRecv.nd rfl (.inl rfl) (pmt M1 fun _ _ m g b => pe_meth0 (pv 0) T.clD m g hr2 b .nil pass0))))))))), ?_⟩
    let W : Nat → L2.St → Hp → Prop := fun m σ' H' => ∃ gs A1 o1, Recvs A1 gs A' ∧ Keep (OfS i) o H o1 H' ∧ (encs gs ++ rest).length ≤ 90000 ∧ SdX C D o1 H' i p A1 og (encs gs ++ rest) ∧ gs.length ≤ m ∧
      ((gs = [] ∧ σ' = [some (.ref p), some (.ref l), some .non]) ∨
       (∃ g gs' q fr, gs = g :: gs' ∧ σ' = [some (.ref p), some (.ref l), some (.ref q)] ∧ H' q = some (.tup [.ref fr, .int ((enc g).length : Int)]) ∧ o1 q = tmpR ∧ FrAt o1 H' fr g))
    have step : ∀ (X : Ends) (gs : List Fr) (A1 : Co) (o1 : Ow) (H1 : Hp) (v2 : Option V), Recvs A1 gs A' → Keep (OfS i) o H o1 H1 → (encs gs ++ rest).length ≤ 90000 → SdX C D o1 H1 i p A1 og (encs gs ++ rest) → (∀ σ2 H2, W gs.length σ2 H2 → X.nx σ2 H2) →
        tAsg (tMeth D "_first_frame" (spFF C D) [] E0 (tVar 0) tNil) (gName 2) X [some (.ref p), some (.ref l), v2] H1 := by
      intro X gs A1 o1 H1 v2 hR1 hk hzl hx hX
      have hx0 := hx
      obtain ⟨dx, d, ln, lt, lo, li, kvs, h⟩ := hx
      refine s_asgM (ev_var rfl) h.ob rfl ea_nil fun H2 e2 => ?_
      cases gs with
      | nil =>
        have e0 : encs [] ++ rest = rest := rfl
        rw [e0] at hx0 hzl
        obtain ⟨pn, hd⟩ := ht.none
        refine ⟨o1, i, p, A1, og, rest, rfl, hx0.ex e2, hzl, hd, ?_⟩
        rw [pn]
        exact fun H3 e3 => hX _ H3 ⟨[], A1, o1, hR1, hk.trans (Keep.ex (e2.trans e3)), by rw [e0]; exact hzl, by rw [e0]; exact hx0.ex (e2.trans e3), Nat.le_refl _, .inl ⟨rfl, rfl⟩⟩
      | cons g gs' =>
        have vg : VF g := by cases hR1; assumption
        have e1 : encs (g :: gs') ++ rest = enc g ++ (encs gs' ++ rest) := by rw [encs_cons, List.append_assoc]
        refine ⟨o1, i, p, A1, og, encs (g :: gs') ++ rest, rfl, hx0.ex e2, hzl, by rw [e1]; exact hdr_enc vg _, ?_⟩
        rw [e1, parse_enc vg]
        refine fun q fr H3 hq hf e3 g3 => ?_
        obtain ⟨o2, hF, ho2⟩ := hf.at (o := o1)
        have kk : Keep (OfS i) o1 H2 (o2.put q tmpR) H3 := fun b x hb hs => ⟨e3 _ _ hb, by rw [put_ne (ne_of_none hb hq), ho2 b x hb]⟩
        have hs : ∀ r : Role, r.1 = i → ¬ (fun _ : Role => False) r := fun _ _ => id
        have kx : Keep (fun _ => False) o1 H2 (o2.put q tmpR) H3 := fun b x hb _ => ⟨e3 _ _ hb, by rw [put_ne (ne_of_none hb hq), ho2 b x hb]⟩
        exact hX _ H3 ⟨g :: gs', A1, o2.put q tmpR, hR1, (hk.trans (Keep.ex e2)).trans kk, hzl, (hx0.ex e2).keep kx hs, Nat.le_refl _, .inr ⟨g, gs', q, fr, rfl, rfl, g3, put_same, hF.tmp⟩⟩
    refine q_when (b := false) (et_is (et_test (ev_op (h.e_failure T (ev_var rfl)) ev_c rv_notN)) rfl) (fun h => nomatch h) fun _ H1 e1 => ?_
    have h1 := h.ex e1
    refine q_ext (ys := il os) h1.ii (h1.e_inc T (ev_var rfl)) (evm_ref (ev_var rfl) (e1 _ _ hl)) (by rw [il_length, il_length]; rw [List.length_append] at hz; omega) fun H2 e2 => ?_
    have ej : il ic ++ il os = il (encs fs ++ rest) := by rw [← hs]; simp [il]
    rw [ej]
    have h2 := (h1.ex e2).iset (ic' := encs fs ++ rest)
    have k2 : Keep (OfS i) o H o (upd H2 li (.lst (il (encs fs ++ rest)))) := (Keep.ex (e1.trans e2)).upd fun _ _ => by rw [h.ri]
    refine step { nx := _, rt := Q } fs A o _ none hR k2 (by rw [← hs]; exact hz) ⟨dx, d, ln, lt, lo, li, kvs, h2⟩ fun σ2 H3 hW => ?_
    refine s_while W _ hW ?_
    intro m σ' H4 hw
    obtain ⟨gs, A1, o1, hR1, hk, hzl, hx, hm, hw⟩ := hw
    rcases hw with ⟨rfl, rfl⟩ | ⟨g, gs', q, fr, rfl, rfl, hq, oq, hF⟩
    · refine ⟨false, et_is (et_test (ev_op (ev_var rfl) ev_c rv_notN)) rfl, (fun h => nomatch h), fun _ H5 e5 => ?_⟩
      have := recvs_nil hR1
      rw [this]at k
      exact k o1 H5 (hx.ex e5) (hk.trans (Keep.ex e5))
    · refine ⟨true, et_is (et_test (ev_op (ev_var rfl) ev_c rv_notN)) rfl, (fun _ H5 e5 => ?_), fun h => nomatch h⟩
      have hm : gs'.length + 1 ≤ m := hm
      refine ⟨fun σ2 H2 => W gs'.length σ2 H2, fun σ2 H2 hW => ⟨_, by omega, hW⟩, ?_⟩
      have e1 : encs (g :: gs') ++ rest = enc g ++ (encs gs' ++ rest) := by rw [encs_cons, List.append_assoc]
      rw [e1] at hx
      obtain ⟨dx, d, ln, lt, lo, li, kvs, h⟩ := hx
      have h5 := h.ex e5
      have ecut : il (encs gs' ++ rest) = cutV (il (enc g ++ (encs gs' ++ rest))) (some ((enc g).length : Int)) none := by
        rw [cut_drop (by omega), Int.toNat_natCast, List.drop_left]
      refine q_fldL (xs := il (encs gs' ++ rest)) (by rw [ecut]; exact el_slM (evm_ref (h5.e_inc T (ev_var rfl)) h5.ii) (eo_some (ev_ixT (ev_var rfl) (e5 _ _ hq) ev_c (atI_nat (j := 1) rfl))) eo_none) (ev_var rfl) h5.ob T.clD (T.naD _ in_s_incoming) (lt1000 rfl) fun l2 H6 hl2 e6 g6 => ?_
      have h6 := (h5.put (x := l2) (r := (i, -1, 5)) hl2).ex e6
      have h7 := h6.attr (A' := A1) (li' := l2) (ic' := encs gs' ++ rest) (fs := putF "_incoming" (.ref l2) (sdFs (.bl A1.first) (.int A1.win) (.int A1.most) .non (.ref d) (.ref ln) (.ref lt) (.int (A1.opened : Int)) (.int (A1.came : Int)) (.int 0) (.ref lo) (.ref li))) h6.nn h6.tt h6.oo g6 h6.rn h6.rt h6.ro put_same rfl (fun _ => Iff.rfl) rfl (sd_put_incoming (ic := .ref li))
      have k7 : Keep (OfS i) o1 H4 (o1.put l2 (i, -1, 5)) (upd H6 p (.ins D dx (putF "_incoming" (.ref l2) (sdFs (.bl A1.first) (.int A1.win) (.int A1.most) .non (.ref d) (.ref ln) (.ref lt) (.int (A1.opened : Int)) (.int (A1.came : Int)) (.int 0) (.ref lo) (.ref li))))) :=
        ((Keep.ex (e5.trans e6)).upd fun _ _ => by rw [h.rp]).own (fresh_back e5 hl2)
      have ntmp : ¬ OfS i tmpR := fun z => hi z.symm
      obtain ⟨q7, oq7⟩ := k7 _ _ hq (by rw [oq]; exact ntmp)
      have hF7 := hF.keep k7 ntmp
      refine q_meth (ev_var rfl) h7.ob rfl (ea_cons (ev_ixT (ev_var rfl) q7 ev_c (atI_nat (j := 0) rfl)) ea_nil) fun H8 e8 => ?_
      obtain ⟨hs1, hv1, hg1, hR2⟩ : (∃ b, SInv A1 b) ∧ VF g ∧ GoodF A1 g ∧ Recvs (recvF A1 g) gs' A' := by
        cases hR1 with
        | cons a b c d => exact ⟨a, b, c, d⟩
      refine ⟨o1.put l2 (i, -1, 5), i, p, fr, A1, og, encs gs' ++ rest, g, rfl, ⟨dx, d, ln, lt, lo, l2, kvs, h7.ex e8⟩, hF7.ex e8, hi, hs1, hv1, hg1, fun o' H' hx' kx => ?_⟩
      refine step _ gs' (recvF A1 g) o' H' _ hR2 (((hk.trans k7).trans (Keep.ex e8)).trans kx) ?_ hx' fun σ2 H2 hW => hW
      rw [e1, List.length_append] at hzl
      omega
end Thl

/-! The law's small defs. -/
namespace Thl
open PySem PySem.Spec PyProof.Rows L2 Evl
variable {P : Program} {w : World} {K : PySem.W.Frag} {mg : Str → Option Value} {base : Heap} {C D : Addr}

/-! ### _law_cell -/
def spCell (K : PySem.W.Frag) : Sp := fun vs H Q _ => ∃ (a : Addr) (ns : List Int) (k : Nat), vs = [.ref a, .int (k : Int)] ∧ SqL K H a (ns.map V.int) ∧ ∀ v H', Ex H H' → Q (.int v) H'
theorem scCell : FnScope ["_law_script", "_law_k"] ["_law_script", "_law_k"] (defScope (top 18)) := ⟨rfl, rfl, rfl, by decide +kernel, rfl, by decide +kernel, by decide +kernel⟩
theorem ok_cell {f : Addr} {fd : FuncData} (F : Fun K "_law_cell" "_law_cell" (top 18) f fd) (T : Txt K mg C D) : FnOk P w K mg base CX0 1 f fd ["_law_script", "_law_k"] (spCell K) := by
  refine F.ok scCell (fun vs H Q E h => ?_) (fun cdv A outer s H vs Q E hr h => ?_)
  · obtain ⟨a, ns, k, rfl, _⟩ := h
    rfl
  · obtain ⟨a, ns, j, rfl, hq, k⟩ := h
    refine ⟨_, pss_cons (ps_if (pt_cmpR op_lt (pv 1) (pe_callB call_len_seq (by rfl) T.len PySem.boot_len (pa_cons (pv 0) pa_nil)) (nomark _)) (pss_one (ps_ret (pe_ix ix_list (pv 0) (pv 1) (fun _ _ => rfl)))) pss_nil) (pss_one (ps_ret pe_int)), ?_⟩
    refine q_when (b := decide ((j : Int) < ((ns.map V.int).length : Int))) (et_test (ev_op (ev_var rfl) (ev_len (ev_var rfl) hq) rv_I0)) (fun hb H1 e1 => ?_) fun hb H1 e1 => ?_
    · have hlt : j < ns.length := by
        have := of_decide_eq_true hb
        rw [List.length_map] at this
        omega
      exact s_ret (ev_op (ev_var rfl) (ev_var rfl) (rv_ixL (ex_l e1 hq) (atI_nat (j := j) (v := .int ns[j]) (by rw [List.getElem?_map, List.getElem?_eq_getElem hlt]; rfl)))) fun H2 e2 => k _ H2 (e1.trans e2)
    · exact s_ret ev_c fun H2 e2 => k 0 H2 (e1.trans e2)

/-! ### _law_is_integer -/
def spIsI : Sp := fun vs H Q _ => ∃ j : Int, vs = [.int j] ∧ RetV (.bl true) H Q
theorem scIsI : FnScope ["_law_told"] ["_law_told"] (defScope (top 19)) := ⟨rfl, rfl, rfl, by decide +kernel, rfl, by decide +kernel, by decide +kernel⟩
theorem ev_isi {te : TE} {σ : L2.St} {H : Hp} {x : V} {t n : String} {b : Bool} (h : Ev te σ H x) (ty : ∀ H', Ex H H' → TyX K H' x (.type t)) (kt : kitB t n = some b) : Ev (tCB (rIsi K) (tCons te (tCons (tC (.ty n)) tNil))) σ H (.bl b) :=
  ev_cb (ea_cons h (ea_cons ev_c ea_nil)) fun H1 e Q q => ⟨x, .ty n, .type t, .type n, b, rfl, .ty n, ty H1 e, kit_ty kt, q H1 (Ex.refl H1)⟩
theorem ok_isi {f : Addr} {fd : FuncData} (F : Fun K "_law_is_integer" "_law_is_integer" (top 19) f fd) (T : Txt K mg C D) : FnOk P w K mg base CX0 1 f fd ["_law_told"] spIsI := by
  refine F.ok scIsI (fun vs H Q E h => ?_) (fun cdv A outer s H vs Q E hr h => ?_)
  · obtain ⟨j, rfl, _⟩ := h
    rfl
  · obtain ⟨j, rfl, k⟩ := h
    refine ⟨_, pss_one (ps_ret (pe_and (pe_callB call_isi (by rfl) T.isi (by decide +kernel) (pa_cons (pv 0) (pa_cons (pe_bltn (v := .ty "int") (by rfl) T.int (by decide +kernel) rfl) pa_nil)))
      (pe_one (pe_not (pe_callB call_isi (by rfl) T.isi (by decide +kernel) (pa_cons (pv 0) (pa_cons (pe_bltn (v := .ty "bool") (by rfl) T.bool (by decide +kernel) rfl) pa_nil))))))), ?_⟩
    exact s_ret (ev_is (ev_andV (a := true) (b := true) (ev_isi (t := "int") (b := true) (ev_var rfl) (fun H' _ => .base (.int j)) (by decide +kernel)) fun _ => ev_is (ev_notV (ev_isi (t := "int") (b := false) (ev_var rfl) (fun H' _ => .base (.int j)) (by decide +kernel))) rfl) rfl) k

/-! ### _law_start -/
def prime : Int := 618970019642690137449562111
def spStart : Sp := fun vs H Q _ => ∃ (c : Int) (k : Nat), vs = [.int c, .int (k : Int)] ∧ k ≤ 1000 ∧ ∀ l v H', H l = none → Ex H H' → H' l = some (.lst [.int v]) → Q (.ref l) H'
theorem scStart : FnScope ["_law_cell_here", "_law_k", "_law_prime", "_law_mixed"] ["_law_cell_here", "_law_k"] (defScope (top 20)) := ⟨rfl, rfl, rfl, by decide +kernel, rfl, by decide +kernel, by decide +kernel⟩
theorem ok_start {f : Addr} {fd : FuncData} (F : Fun K "_law_start" "_law_start" (top 20) f fd) (T : Txt K mg C D) : FnOk P w K mg base CX0 1 f fd ["_law_cell_here", "_law_k"] spStart := by
  refine F.ok scStart (fun vs H Q E h => ?_) (fun cdv A outer s H vs Q E hr h => ?_)
  · obtain ⟨c, k, rfl, _⟩ := h
    rfl
  · obtain ⟨c, j, rfl, hj, k⟩ := h
    refine ⟨_, pss_cons (ps_set (i := 2) scStart.nd rfl (.inl rfl) pe_int)
      (pss_cons (ps_if (pt_chain op_lt op_lt (pe_un un_neg pe_int) (pv 0) pe_int)
        (pss_cons (ps_set (i := 3) scStart.nd rfl (.inl rfl) (pe_op op_mod (pe_callTy call_int1 (by rfl) T.int (by decide +kernel) (pa_cons (pe_op op_add (pe_op op_mul (pv 0) pe_int) (pe_op op_mul (pe_op op_add (pv 1) pe_int) pe_int)) pa_nil)) (pv 2)))
        (pss_one (ps_ret (pe_lst (pa_cons (pe_op op_mod (pe_callTy call_int1 (by rfl) T.int (by decide +kernel) (pa_cons (pe_op op_add (pe_op op_add (pe_op op_mulW (pv 3) (pv 3)) (pe_op op_mul pe_int (pv 3))) (pv 1)) pa_nil)) (pv 2)) pa_nil))))) pss_nil)
      (pss_one (ps_ret (pe_lst (pa_cons (pv 0) pa_nil))))), ?_⟩
    refine q_asg (v := .int prime) ev_c fun H1 e1 => ?_
    refine q_when (b := decide (-1000000000000000000 < c) && decide (c < 1000000000000000000)) (et_test (ev_chain (ev_un ev_c (fun H1 _ Q q => ⟨_, rfl, q H1 (Ex.refl H1)⟩)) (ev_var rfl) rv_I0 (fun _ => ev_c) fun _ => rv_I0)) (fun hb H2 e2 => ?_) fun hb H2 e2 => ?_
    · simp at hb
      have hp : (0 : Int) < prime := by decide
      refine q_asg (v := .int ((c * 2654435761 + ((j : Int) + 1) * 6700417) % prime)) (ev_op (ev_intI (ev_op (ev_op (ev_var rfl) ev_c (rv_I (.inl ⟨by omega, by omega⟩))) (ev_op (ev_op (ev_var rfl) ev_c rv_I0) ev_c (rv_I (.inl ⟨by omega, by omega⟩))) rv_I0)) (ev_var rfl) (rv_I hp)) fun H3 e3 => ?_
      have hm0 := Int.emod_nonneg (c * 2654435761 + ((j : Int) + 1) * 6700417) (show prime ≠ 0 by decide)
      have hm1 := Int.emod_lt_of_pos (c * 2654435761 + ((j : Int) + 1) * 6700417) hp
      have hab : ((c * 2654435761 + ((j : Int) + 1) * 6700417) % prime).natAbs < 2 ^ 90 := by
        have : prime < 2 ^ 90 := by decide
        omega
      refine s_retL (el_lst (ea_cons (ev_op (ev_intI (ev_op (ev_op (ev_op (ev_var rfl) (ev_var rfl) (rv_I (wide_mul hab hab (by decide) (by decide) (by decide)))) (ev_op ev_c (ev_var rfl) (rv_I (.inl ⟨by decide, by decide⟩))) rv_I0) (ev_var rfl) rv_I0)) (ev_var rfl) (rv_I hp)) ea_nil) (by show 1 ≤ 100000; decide)) fun l H4 hl e4 g4 => k l _ H4 (fresh_back ((e1.trans e2).trans e3) hl) (((e1.trans e2).trans e3).trans e4) g4
    · exact s_retL (el_lst (ea_cons (ev_var rfl) ea_nil) (by show 1 ≤ 100000; decide)) fun l H3 hl e3 g3 => k l _ H3 (fresh_back (e1.trans e2) hl) ((e1.trans e2).trans e3) g3

/-! ### _law_digit -/
def spDigit : Sp := fun vs H Q _ => ∃ (s : Addr) (v m : Int), vs = [.ref s, .int m] ∧ H s = some (.lst [.int v]) ∧ 0 < m ∧ m < 1073741824 ∧
  ∀ r v' H', 0 ≤ r → r < m → (∀ b x, H b = some x → b ≠ s → H' b = some x) → H' s = some (.lst [.int v']) → Q (.int r) H'
theorem scDigit : FnScope ["_law_state", "_law_many", "_law_digit_here"] ["_law_state", "_law_many"] (defScope (top 21)) := ⟨rfl, rfl, rfl, by decide +kernel, rfl, by decide +kernel, by decide +kernel⟩
theorem ok_digit {f : Addr} {fd : FuncData} (F : Fun K "_law_digit" "_law_digit" (top 21) f fd) (T : Txt K mg C D) : FnOk P w K mg base CX0 1 f fd ["_law_state", "_law_many"] spDigit := by
  refine F.ok scDigit (fun vs H Q E h => ?_) (fun cdv A outer s H vs Q E hr h => ?_)
  · obtain ⟨s, v, m, rfl, _⟩ := h
    rfl
  · obtain ⟨s, v, m, rfl, hs, h0, h1, k⟩ := h
    refine ⟨_, pss_cons (ps_set (i := 2) scDigit.nd rfl (.inl rfl) (pe_op op_mod (pe_callTy call_int1 (by rfl) T.int (by decide +kernel) (pa_cons (pe_ix ix_list (pv 0) pe_int (fun _ _ => rfl)) pa_nil)) (pv 1)))
      (pss_cons (ps_asg (pe_op op_fdiv (pe_ix ix_list (pv 0) pe_int (fun _ _ => rfl)) (pv 1)) (pg_sub (pv 0) pe_int set_list))
      (pss_one (ps_ret (pv 2)))), ?_⟩
    refine q_asg (v := .int (v % m)) (ev_op (ev_intI (ev_ixM (evm_ref (ev_var rfl) hs) ev_c (atI_nat (j := 0) rfl))) (ev_var rfl) (rv_I h0)) fun H1 e1 => ?_
    refine q_setL (l := s) (xs := [.int v]) (j := 0) (v := .int (v / m)) (e1 _ _ hs) (ev_op (ev_ixM (evm_ref (ev_var rfl) (e1 _ _ hs)) ev_c (atI_nat (j := 0) rfl)) (ev_var rfl) (rv_I ⟨h0, h1⟩)) (ev_var rfl) ev_c (by show 0 < 1; decide) fun H2 e2 => ?_
    refine s_ret (ev_var rfl) fun H3 e3 => k _ (v / m) H3 (Int.emod_nonneg _ (by omega)) (Int.emod_lt_of_pos _ h0) (fun b x hb ne => ?_) (e3 _ _ upd_same)
    refine e3 _ _ ?_
    rw [upd_ne ne]
    exact e2 _ _ (e1 _ _ hb)
end Thl

/-! The law's book: what stands at an address, and how it is read. -/
namespace Thl
open PySem PySem.Spec PyProof.Rows L2 Evl
section
variable {K : PySem.W.Frag} {σ : L2.St} {H : Hp} {te ta tb tn tv : TE} {t : TT} {g : TG} {tu tz : TS} {D : Ends} {C a dx l : Addr} {fs : List (Str × V)} {xs : List V} {lk : List (Str × V) → Option V}
/-! ### for x in o, o with its own __iter__ -/
theorem s_forOwn (h : Ev te σ H (.ref a)) (ha : H a = some (.ins C dx fs)) (hk : lk fs = some (.ref l)) (hx : H l = some (.lst xs)) (Pv : Nat → L2.St → Hp → Prop) (h0 : ∀ H1, Ex H H1 → Pv 0 σ H1) (hl : ∀ i σ' H', i ≤ xs.length → Pv i σ' H' → SqL K H' l xs)
    (hs : ∀ i x σ' H', xs[i]? = some x → Pv i σ' H' → g x σ' H' fun σ2 H2 => tu { D with nx := Pv (i + 1), ct := Pv (i + 1), bk := D.nx } σ2 H2) (hd : ∀ σ' H', Pv xs.length σ' H' → D.nx σ' H') : tFor (iOwn C lk te K) g tu D σ H :=
  h H (Ex.refl H) _ fun H1 e => ⟨a, dx, l, fs, xs, rfl, e _ _ ha, hk, e _ _ hx, for_list Pv (h0 H1 e) hl hs hd⟩
theorem q_forOwn (h : Ev te σ H (.ref a)) (ha : H a = some (.ins C dx fs)) (hk : lk fs = some (.ref l)) (hx : H l = some (.lst xs)) (Pv : Nat → L2.St → Hp → Prop) (h0 : ∀ H1, Ex H H1 → Pv 0 σ H1) (hl : ∀ i σ' H', i ≤ xs.length → Pv i σ' H' → SqL K H' l xs)
    (hs : ∀ i x σ' H', xs[i]? = some x → Pv i σ' H' → g x σ' H' fun σ2 H2 => tu { D with nx := Pv (i + 1), ct := Pv (i + 1), bk := tz D } σ2 H2) (hd : ∀ σ' H', Pv xs.length σ' H' → tz D σ' H') : tSeq (tFor (iOwn C lk te K) g tu) tz D σ H :=
  s_forOwn (D := { D with nx := tz D }) h ha hk hx Pv h0 hl hs hd
/-- [x for x in o] -/
theorem el_lcOwn {j : Nat} {vs : List Nat} (h : Ev te σ H (.ref a)) (ha : H a = some (.ins C dx fs)) (hk : lk fs = some (.ref l)) (hx : H l = some (.lst xs)) (hz : xs.length ≤ 40000) (hw : ∀ x, wipe ((wipe σ vs).set j (some x)) vs = wipe σ vs)
    (ht : ∀ x H1, EvT t ((wipe σ vs).set j (some x)) H1 true) (he : ∀ x H1, Ev tv ((wipe σ vs).set j (some x)) H1 x) :
    EvL (tLc (iOwn C lk te K) (gName j) t tv vs) σ H xs := fun H0 e Q q => h H0 e _ fun H1 e1 => ⟨a, dx, l, fs, xs, rfl, (e.trans e1) _ _ ha, hk, (e.trans e1) _ _ hx, fun Dl hD =>
  lc_list (xs := xs) (Cw H1 (fun _ => true) (fun i => xs.getD i .non) Dl) ⟨hD, Ex.new hD, upd_same⟩ (fun i H' _ p => sq_of (((e.trans e1).trans p.2.1) _ _ hx)) (fun i x H' hi p => ⟨hw x, cw_turn p (by have := (List.getElem?_eq_some_iff.mp hi).1; omega) (ht x H1) (fun hf => by
      have : xs.getD i .non = x := by rw [List.getD_eq_getElem?_getD, hi]; rfl
      rw [this]
      exact he x H1)⟩)
    (fun H' p => by
      refine q Dl H' (fresh_back e1 p.1) (e1.trans p.2.1) ?_
      have := p.2.2
      rw [this]
      congr 2
      unfold given
      apply List.ext_getElem?
      intro i
      have ef : (List.range xs.length).filter (fun _ => true) = List.range xs.length := List.filter_eq_self.mpr fun _ _ => rfl
      rw [ef]
      by_cases hi : i < xs.length
      · simp [hi]
      · simp [hi])⟩
/-! ### lists of ints are compared -/
theorem dp_il {K : PySem.W.Frag} {H : Hp} : ∀ l : List Int, DpAll K H (il l) (l.map PyData.int)
  | [] => .nil
  | x :: r => .cons (.int x) (dp_il r)
theorem sh_il (l : List Int) : SeqAt.shaped (.list (l.map PyData.int)) = true := by
  have h1 : ∀ l : List Int, PyData.canLayAll0 (l.map PyData.int) = true := fun l => by
    induction l with
    | nil => rfl
    | cons a r ih => simp [PyData.canLayAll0, PyData.canLay0] at ih ⊢; exact ih
  have h2 : ∀ l : List Int, PyData.depthAll (l.map PyData.int) ≤ 1 := fun l => by
    induction l with
    | nil => simp [PyData.depthAll]
    | cons a r ih => simp [PyData.depthAll, PyData.depth] at ih ⊢; omega
  have := h2 l
  have := h1 l
  simp [SeqAt.shaped, PyData.canLay0, PyData.depth, *]
  try omega
theorem ev_neIL {xs ys : List Int} (ha : EvM ta σ H (il xs)) (hb : EvM tb σ H (il ys)) : Ev (tOp (rNeD K) ta tb) σ H (.bl (!decide (xs = ys))) := fun H1 e Q q =>
  ha H1 e _ fun p H2 e2 h2 => hb H2 (e.trans e2) _ fun p' H3 e3 h3 => ⟨_, _, .lst (sq_of (e3 _ _ h2)) (dp_il xs), .lst (sq_of h3) (dp_il ys), sh_il xs, sh_il ys, by
    show Q (.bl (!PyData.eqvAll _ _)) H3
    rw [PySem.W.ked_eqvAll]
    exact q H3 (e2.trans e3)⟩
end

/-! ### how many keys -/
def kOne (kvs : List (Key × V)) (n : Int) : Int := if (valV kvs (.inl n)).isSome = true then 1 else 0
theorem kOne_bd (kvs : List (Key × V)) (n : Int) : 0 ≤ kOne kvs n ∧ kOne kvs n ≤ 1 := by unfold kOne; split <;> omega
def KL (kvs : List (Key × V)) : Prop := (kvs.length : Int) ≤ sumZ (kOne kvs) chs
theorem KL.nil : KL [] := by
  show (0 : Int) ≤ _
  exact sumZ_nonneg fun m _ => (kOne_bd _ m).1
theorem KL.bd {kvs : List (Key × V)} (h : KL kvs) : kvs.length ≤ 8 := by
  have := sumZ_const (f := kOne kvs) (c := 1) (l := chs) fun m _ => (kOne_bd _ m).2
  have e : chs.length = 8 := rfl
  rw [e] at this
  unfold KL at h
  omega
theorem KL.put {kvs : List (Key × V)} (h : KL kvs) {n : Int} (hn : 1 ≤ n ∧ n ≤ 8) (v : V) : KL (putK kvs (.inl n) v) := by
  have le : ∀ m ∈ chs, kOne kvs m ≤ kOne (putK kvs (.inl n) v) m := fun m _ => by
    unfold kOne
    rw [valV_put]
    by_cases e : (Sum.inl m : Key) = .inl n
    · rw [if_pos e]
      simp
      split <;> omega
    · rw [if_neg e]
      exact Int.le_refl _
  unfold KL at h ⊢
  cases z : valV kvs (.inl n) with
  | none =>
    rw [putK_new _ z, List.length_append]
    rw [← putK_new v z]
    have := sumZ_lt (f := kOne kvs) (g := kOne (putK kvs (.inl n) v)) (n := n) (k := 1) (chs_mem hn) le (by
      unfold kOne
      rw [valV_put, if_pos rfl, z]
      simp)
    simp
    omega
  | some x =>
    have e : (putK kvs (.inl n) v).length = kvs.length := by
      unfold putK
      rw [if_pos (by rw [valV_any, z]; rfl), List.length_map]
    have := sumZ_le le
    omega

/-! ### the book -/
def bkK (t : V) (wr gv fi rs wi : Addr) : List (Key × V) := [(.inr "turn", t), (.inr "written", .ref wr), (.inr "given", .ref gv), (.inr "finished", .ref fi), (.inr "resets", .ref rs), (.inr "wire", .ref wi)]
/-- lists kept under numbers -/
def LsAt (o : Ow) (H : Hp) (j kd : Nat) (kvs : List (Key × V)) (f : Int → List Int) : Prop := ∀ n, (valV kvs (.inl n) = none ∧ f n = []) ∨ ∃ l, valV kvs (.inl n) = some (.ref l) ∧ H l = some (.lst (il (f n))) ∧ o l = (j, n, kd)
section
variable {o o' : Ow} {H H' : Hp} {j kd : Nat} {kvs : List (Key × V)} {f : Int → List Int} {S : Role → Prop}
theorem LsAt.keep (h : LsAt o H j kd kvs f) (k : Keep S o H o' H') (hs : ∀ n, ¬ S (j, n, kd)) : LsAt o' H' j kd kvs f := fun n => by
  rcases h n with z | ⟨l, h1, h2, h3⟩
  · exact .inl z
  · have := k _ _ h2 (by rw [h3]; exact hs _)
    exact .inr ⟨l, h1, this.1, this.2.trans h3⟩
theorem LsAt.put (h : LsAt o H j kd kvs f) {n : Int} {l : Addr} {x : List Int} (hl : H l = some (.lst (il x))) (ol : o l = (j, n, kd)) : LsAt o H j kd (putK kvs (.inl n) (.ref l)) (fun m => if m = n then x else f m) := fun m => by
  rw [valV_put]
  by_cases e : m = n
  · subst e
    dsimp only
    rw [if_pos rfl, if_pos rfl]
    exact .inr ⟨l, rfl, hl, ol⟩
  · dsimp only
    rw [if_neg (fun z => e (Sum.inl.inj z)), if_neg e]
    exact h m
end
structure BkAt (o : Ow) (H : Hp) (j : Nat) (p : Addr) (B : Bc) (wire : List Int) (t : V) (wr gv fi rs wi : Addr) (kw kg kf kr : List (Key × V)) : Prop where
  ob : H p = some (.dK (bkK t wr gv fi rs wi))
  hw : H wr = some (.dK kw)
  hg : H gv = some (.dK kg)
  hf : H fi = some (.dK kf)
  hr : H rs = some (.dK kr)
  hi : H wi = some (.lst (il wire))
  op : o p = (j, -1, 0)
  ow : o wr = (j, -1, 1)
  og : o gv = (j, -1, 2)
  of : o fi = (j, -1, 3)
  or : o rs = (j, -1, 4)
  oi : o wi = (j, -1, 5)
  cw : LsAt o H j 10 kw B.written
  cg : LsAt o H j 11 kg B.given
  cf : ∀ n, (valV kf (.inl n)).isSome = B.fin n
  cr : ∀ n, valV kr (.inl n) = (B.resets n).map V.int
  lw : KL kw
  lg : KL kg
  lf : KL kf
  lr : KL kr
def BkX (o : Ow) (H : Hp) (j : Nat) (p : Addr) (B : Bc) (wire : List Int) : Prop := ∃ t wr gv fi rs wi kw kg kf kr, BkAt o H j p B wire t wr gv fi rs wi kw kg kf kr
section
variable {o o' : Ow} {H H' : Hp} {j : Nat} {p wr gv fi rs wi l x : Addr} {B : Bc} {wire : List Int} {t : V} {kw kg kf kr : List (Key × V)} {S : Role → Prop} {n : Int}
theorem BkAt.keep (h : BkAt o H j p B wire t wr gv fi rs wi kw kg kf kr) (k : Keep S o H o' H') (hs : ∀ r : Role, r.1 = j → ¬ S r) : BkAt o' H' j p B wire t wr gv fi rs wi kw kg kf kr := by
  have h1 := k _ _ h.ob (by rw [h.op]; exact hs _ rfl)
  have h2 := k _ _ h.hw (by rw [h.ow]; exact hs _ rfl)
  have h3 := k _ _ h.hg (by rw [h.og]; exact hs _ rfl)
  have h4 := k _ _ h.hf (by rw [h.of]; exact hs _ rfl)
  have h5 := k _ _ h.hr (by rw [h.or]; exact hs _ rfl)
  have h6 := k _ _ h.hi (by rw [h.oi]; exact hs _ rfl)
  exact ⟨h1.1, h2.1, h3.1, h4.1, h5.1, h6.1, h1.2.trans h.op, h2.2.trans h.ow, h3.2.trans h.og, h4.2.trans h.of, h5.2.trans h.or, h6.2.trans h.oi, h.cw.keep k fun _ => hs _ rfl, h.cg.keep k fun _ => hs _ rfl, h.cf, h.cr, h.lw, h.lg, h.lf, h.lr⟩
theorem BkX.keep (h : BkX o H j p B wire) (k : Keep S o H o' H') (hs : ∀ r : Role, r.1 = j → ¬ S r) : BkX o' H' j p B wire := by
  obtain ⟨t, wr, gv, fi, rs, wi, kw, kg, kf, kr, h⟩ := h
  exact ⟨t, wr, gv, fi, rs, wi, kw, kg, kf, kr, h.keep k hs⟩
theorem BkAt.ex (h : BkAt o H j p B wire t wr gv fi rs wi kw kg kf kr) (e : Ex H H') : BkAt o H' j p B wire t wr gv fi rs wi kw kg kf kr := h.keep (S := fun _ => False) (.ex e) fun _ _ => id
theorem BkX.ex (h : BkX o H j p B wire) (e : Ex H H') : BkX o H' j p B wire := h.keep (S := fun _ => False) (.ex e) fun _ _ => id
theorem BkAt.put (h : BkAt o H j p B wire t wr gv fi rs wi kw kg kf kr) {r : Role} (hx : H x = none) : BkAt (o.put x r) H j p B wire t wr gv fi rs wi kw kg kf kr := h.keep (S := fun _ => False) (Keep.refl.own hx) fun _ _ => id
theorem BkAt.set_w (h : BkAt o H j p B wire t wr gv fi rs wi kw kg kf kr) (hn : 1 ≤ n ∧ n ≤ 8) {xs : List Int} (hl : H l = some (.lst (il (B.written n ++ xs)))) (ol : o l = (j, n, 10)) :
    BkAt o (upd H wr (.dK (putK kw (.inl n) (.ref l)))) j p (B.wr n xs) wire t wr gv fi rs wi (putK kw (.inl n) (.ref l)) kg kf kr := by
  have k : Keep (fun r => r = (j, -1, 1)) o H o (upd H wr (.dK (putK kw (.inl n) (.ref l)))) := Keep.refl.upd fun _ _ => h.ow
  have ne : ∀ {z : Addr} {y : Int} {c : Nat}, o z = (j, y, c) → c ≠ 1 → z ≠ wr := fun e hc => ne_rl e h.ow (by simp [hc])
  refine ⟨(upd_ne (ne h.op (by decide))).trans h.ob, upd_same, (upd_ne (ne h.og (by decide))).trans h.hg, (upd_ne (ne h.of (by decide))).trans h.hf, (upd_ne (ne h.or (by decide))).trans h.hr, (upd_ne (ne h.oi (by decide))).trans h.hi, h.op, h.ow, h.og, h.of, h.or, h.oi,
    (h.cw.put hl ol).keep k (fun _ => by simp), h.cg.keep k (fun _ => by simp), h.cf, h.cr, h.lw.put hn _, h.lg, h.lf, h.lr⟩
theorem BkAt.set_g (h : BkAt o H j p B wire t wr gv fi rs wi kw kg kf kr) (hn : 1 ≤ n ∧ n ≤ 8) {xs : List Int} (hl : H l = some (.lst (il (B.given n ++ xs)))) (ol : o l = (j, n, 11)) :
    BkAt o (upd H gv (.dK (putK kg (.inl n) (.ref l)))) j p (B.gv n xs) wire t wr gv fi rs wi kw (putK kg (.inl n) (.ref l)) kf kr := by
  have k : Keep (fun r => r = (j, -1, 2)) o H o (upd H gv (.dK (putK kg (.inl n) (.ref l)))) := Keep.refl.upd fun _ _ => h.og
  have ne : ∀ {z : Addr} {y : Int} {c : Nat}, o z = (j, y, c) → c ≠ 2 → z ≠ gv := fun e hc => ne_rl e h.og (by simp [hc])
  refine ⟨(upd_ne (ne h.op (by decide))).trans h.ob, (upd_ne (ne h.ow (by decide))).trans h.hw, upd_same, (upd_ne (ne h.of (by decide))).trans h.hf, (upd_ne (ne h.or (by decide))).trans h.hr, (upd_ne (ne h.oi (by decide))).trans h.hi, h.op, h.ow, h.og, h.of, h.or, h.oi,
    h.cw.keep k (fun _ => by simp), (h.cg.put hl ol).keep k (fun _ => by simp), h.cf, h.cr, h.lw, h.lg.put hn _, h.lf, h.lr⟩
theorem BkAt.set_f (h : BkAt o H j p B wire t wr gv fi rs wi kw kg kf kr) (hn : 1 ≤ n ∧ n ≤ 8) {v : V} :
    BkAt o (upd H fi (.dK (putK kf (.inl n) v))) j p (B.fi n) wire t wr gv fi rs wi kw kg (putK kf (.inl n) v) kr := by
  have k : Keep (fun r => r = (j, -1, 3)) o H o (upd H fi (.dK (putK kf (.inl n) v))) := Keep.refl.upd fun _ _ => h.of
  have ne : ∀ {z : Addr} {y : Int} {c : Nat}, o z = (j, y, c) → c ≠ 3 → z ≠ fi := fun e hc => ne_rl e h.of (by simp [hc])
  refine ⟨(upd_ne (ne h.op (by decide))).trans h.ob, (upd_ne (ne h.ow (by decide))).trans h.hw, (upd_ne (ne h.og (by decide))).trans h.hg, upd_same, (upd_ne (ne h.or (by decide))).trans h.hr, (upd_ne (ne h.oi (by decide))).trans h.hi, h.op, h.ow, h.og, h.of, h.or, h.oi,
    h.cw.keep k (fun _ => by simp), h.cg.keep k (fun _ => by simp), fun m => ?_, h.cr, h.lw, h.lg, h.lf.put hn _, h.lr⟩
  rw [valV_put]
  show _ = if m = n then true else B.fin m
  by_cases e : m = n
  · subst e
    rw [if_pos rfl, if_pos rfl]
    rfl
  · rw [if_neg (fun z => e (Sum.inl.inj z)), if_neg e]
    exact h.cf m
theorem BkAt.set_r (h : BkAt o H j p B wire t wr gv fi rs wi kw kg kf kr) (hn : 1 ≤ n ∧ n ≤ 8) {c : Int} :
    BkAt o (upd H rs (.dK (putK kr (.inl n) (.int c)))) j p (B.rs n c) wire t wr gv fi rs wi kw kg kf (putK kr (.inl n) (.int c)) := by
  have k : Keep (fun r => r = (j, -1, 4)) o H o (upd H rs (.dK (putK kr (.inl n) (.int c)))) := Keep.refl.upd fun _ _ => h.or
  have ne : ∀ {z : Addr} {y : Int} {c : Nat}, o z = (j, y, c) → c ≠ 4 → z ≠ rs := fun e hc => ne_rl e h.or (by simp [hc])
  refine ⟨(upd_ne (ne h.op (by decide))).trans h.ob, (upd_ne (ne h.ow (by decide))).trans h.hw, (upd_ne (ne h.og (by decide))).trans h.hg, (upd_ne (ne h.of (by decide))).trans h.hf, upd_same, (upd_ne (ne h.oi (by decide))).trans h.hi, h.op, h.ow, h.og, h.of, h.or, h.oi,
    h.cw.keep k (fun _ => by simp), h.cg.keep k (fun _ => by simp), h.cf, fun m => ?_, h.lw, h.lg, h.lf, h.lr.put hn _⟩
  rw [valV_put]
  show _ = (if m = n then some c else B.resets m).map V.int
  by_cases e : m = n
  · subst e
    rw [if_pos rfl, if_pos rfl]
    rfl
  · rw [if_neg (fun z => e (Sum.inl.inj z)), if_neg e]
    exact h.cr m
theorem BkAt.set_i (h : BkAt o H j p B wire t wr gv fi rs wi kw kg kf kr) {w' : List Int} : BkAt o (upd H wi (.lst (il w'))) j p B w' t wr gv fi rs wi kw kg kf kr := by
  have k : Keep (fun r => r = (j, -1, 5)) o H o (upd H wi (.lst (il w'))) := Keep.refl.upd fun _ _ => h.oi
  have ne : ∀ {z : Addr} {y : Int} {c : Nat}, o z = (j, y, c) → c ≠ 5 → z ≠ wi := fun e hc => ne_rl e h.oi (by simp [hc])
  exact ⟨(upd_ne (ne h.op (by decide))).trans h.ob, (upd_ne (ne h.ow (by decide))).trans h.hw, (upd_ne (ne h.og (by decide))).trans h.hg, (upd_ne (ne h.of (by decide))).trans h.hf, (upd_ne (ne h.or (by decide))).trans h.hr, upd_same, h.op, h.ow, h.og, h.of, h.or, h.oi,
    h.cw.keep k (fun _ => by simp), h.cg.keep k (fun _ => by simp), h.cf, h.cr, h.lw, h.lg, h.lf, h.lr⟩
/-! ### readings -/
variable {tb tn : TE} {σ : L2.St}
theorem BkAt.e_w (h : BkAt o H j p B wire t wr gv fi rs wi kw kg kf kr) (hb : Ev tb σ H (.ref p)) : Ev (tDGet tb (tC (.str "written"))) σ H (.ref wr) := ev_dget (n := .inr "written") hb h.ob ev_c rfl
theorem BkAt.e_g (h : BkAt o H j p B wire t wr gv fi rs wi kw kg kf kr) (hb : Ev tb σ H (.ref p)) : Ev (tDGet tb (tC (.str "given"))) σ H (.ref gv) := ev_dget (n := .inr "given") hb h.ob ev_c rfl
theorem BkAt.e_f (h : BkAt o H j p B wire t wr gv fi rs wi kw kg kf kr) (hb : Ev tb σ H (.ref p)) : Ev (tDGet tb (tC (.str "finished"))) σ H (.ref fi) := ev_dget (n := .inr "finished") hb h.ob ev_c rfl
theorem BkAt.e_r (h : BkAt o H j p B wire t wr gv fi rs wi kw kg kf kr) (hb : Ev tb σ H (.ref p)) : Ev (tDGet tb (tC (.str "resets"))) σ H (.ref rs) := ev_dget (n := .inr "resets") hb h.ob ev_c rfl
theorem BkAt.e_i (h : BkAt o H j p B wire t wr gv fi rs wi kw kg kf kr) (hb : Ev tb σ H (.ref p)) : Ev (tDGet tb (tC (.str "wire"))) σ H (.ref wi) := ev_dget (n := .inr "wire") hb h.ob ev_c rfl
theorem em_get {ta : TE} {d : Addr} {kvs : List (Key × V)} {f : Int → List Int} {kd : Nat} (hd : Ev ta σ H (.ref d)) (hk : H d = some (.dK kvs)) (hl : LsAt o H j kd kvs f) (hn : Ev tn σ H (.int n)) : EvM (tDGet2 ta tn (tLst tNil)) σ H (il (f n)) := fun H1 e Q q =>
  hd H1 e _ fun H2 e2 => ⟨d, rfl, .inl ⟨kvs, .inl ((e.trans e2) _ _ hk)⟩, hn H2 (e.trans e2) _ fun H3 e3 =>
    (el_lst (ea_nil (H := H)) (Nat.zero_le _)) H3 ((e.trans e2).trans e3) _ fun l H4 hl4 e4 g4 => ⟨_, DGet.k (k := .inl n) ((((e.trans e2).trans e3).trans e4) _ _ hk), by
      rcases hl n with ⟨z1, z2⟩ | ⟨l', z1, z2, _⟩
      · rw [z1]
        rw [z2] at q
        exact q l H4 ((e2.trans e3).trans e4) g4
      · rw [z1]
        exact q l' H4 ((e2.trans e3).trans e4) ((((e.trans e2).trans e3).trans e4) _ _ z2)⟩⟩
theorem ev_get1 {ta : TE} {d : Addr} {kvs : List (Key × V)} {v : Option V} (hd : Ev ta σ H (.ref d)) (hk : H d = some (.dK kvs)) (hv : valV kvs (.inl n) = v) (hn : Ev tn σ H (.int n)) : Ev (tDGet1 ta tn) σ H (v.getD .non) := fun H1 e Q q =>
  hd H1 e _ fun H2 e2 => ⟨d, rfl, .inl ⟨kvs, .inl ((e.trans e2) _ _ hk)⟩, hn H2 (e.trans e2) _ fun H3 e3 => ⟨_, DGet.k (k := .inl n) (((e.trans e2).trans e3) _ _ hk), by
      rw [hv]
      exact q H3 (e2.trans e3)⟩⟩
end
end Thl

/-! The law: a book, a channel, what is written, what is read. -/
namespace Thl
open PySem PySem.Spec PyProof.Rows L2 Evl
variable {P : Program} {w : World} {K : PySem.W.Frag} {mg : Str → Option Value} {base : Heap} {C D : Addr}
/-! ### own __iter__, own __len__ -/
def ItB (P : Program) (w : World) (K : PySem.W.Frag) (mg : Str → Option Value) (base : Heap) (D : Addr) : Prop :=
  ∃ f fd, PySem.W.findIn K (.ref D) "__iter__" = some (some (.ref f)) ∧ PySem.W.isFn K (.ref f) = true ∧ FnS P w K mg base 1 f fd ["self"] (spIter D lkN) ∧ Binds K fd ["self"] []
def LnB (P : Program) (w : World) (K : PySem.W.Frag) (mg : Str → Option Value) (base : Heap) (C D : Addr) : Prop :=
  ∃ f fd, PySem.W.findIn K (.ref D) "__len__" = some (some (.ref f)) ∧ PySem.W.isFn K (.ref f) = true ∧ FnOk P w K mg base CX0 1 f fd ["self"] (spLen C D) ∧ Binds K fd ["self"] []
theorem pit {X : Cx} {tg e : Expr} {ti : TI} (M : ItB X.prog X.w X.K X.mg X.base D) (h : ∀ f fd, PySem.W.findIn X.K (.ref D) "__iter__" = some (some (.ref f)) → PySem.W.isFn X.K (.ref f) = true → FnS X.prog X.w X.K X.mg X.base 1 f fd ["self"] (spIter D lkN) → Binds X.K fd ["self"] [] → PI X tg e ti) : PI X tg e ti := by
  obtain ⟨f, fd, h1, h2, h3, h4⟩ := M
  exact h f fd h1 h2 h3 h4
theorem pln {X : Cx} {e : Expr} {te : TE} (M : LnB X.prog X.w X.K X.mg X.base C D) (h : ∀ f fd, PySem.W.findIn X.K (.ref D) "__len__" = some (some (.ref f)) → PySem.W.isFn X.K (.ref f) = true → FnOk X.prog X.w X.K X.mg X.base CX0 1 f fd ["self"] (spLen C D) → Binds X.K fd ["self"] [] → PE X e te) : PE X e te := by
  obtain ⟨f, fd, h1, h2, h3, h4⟩ := M
  exact h f fd h1 h2 h3 h4
theorem ev_lenO {σ : L2.St} {H : Hp} {te : TE} {o : Ow} {i : Nat} {p : Addr} {A : Co} {og ic : List Int} (h : SdX C D o H i p A og ic) (hn : A.nums.length ≤ 1000) (ht : Ev te σ H (.ref p)) : Ev (tCB (rLenO D (spLen C D) E0) (tCons te tNil)) σ H (.int (A.nums.length : Int)) :=
  ev_cb (ea_cons ht ea_nil) fun H1 e Q q => by
    have h1 := h.ex e
    have h2 := h1
    obtain ⟨dx, d, ln, lt, lo, li, kvs, h1⟩ := h1
    exact ⟨p, dx, _, rfl, h1.ob, o, i, p, A, og, ic, rfl, h2, fun H2 e2 => ⟨_, rfl, by omega, by omega, q H2 e2⟩⟩

/-! ### _law_book -/
def Bc.nil : Bc := ⟨fun _ => [], fun _ => [], fun _ => false, fun _ => none⟩
def spBook : Sp := fun vs H Q _ => ∃ (o : Ow) (j : Nat) (t : Int), vs = [.int t] ∧ ∀ p o' H', BkX o' H' j p Bc.nil [] → Keep (fun _ => False) o H o' H' → Q (.ref p) H'
theorem scBook : FnScope ["_law_turn"] ["_law_turn"] (defScope (top 22)) := ⟨rfl, rfl, rfl, by decide +kernel, rfl, by decide +kernel, by decide +kernel⟩
theorem ok_book {f : Addr} {fd : FuncData} (F : Fun K "_law_book" "_law_book" (top 22) f fd) (T : Txt K mg C D) : FnOk P w K mg base CX0 1 f fd ["_law_turn"] spBook := by
  refine F.ok scBook (fun vs H Q E h => ?_) (fun cdv A outer s H vs Q E hr h => ?_)
  · obtain ⟨o, j, t, rfl, _⟩ := h
    rfl
  · obtain ⟨o, j, t, rfl, k⟩ := h
    refine ⟨_, pss_one (ps_ret (pe_disp (pps_cons pe_str (pv 0) (pps_cons pe_str pe_dnewK (pps_cons pe_str pe_dnewK (pps_cons pe_str pe_dnewK (pps_cons pe_str pe_dnewK (pps_cons pe_str (pe_lst pa_nil) pps_nil)))))) (by rfl) (by rfl) (fun z => by cases z) (by decide))), ?_⟩
    intro p hp
    refine ⟨_, rfl, fun d1 n1 d2 n2 d3 n3 d4 n4 => ⟨by show 0 ≤ sizeLine; exact Nat.zero_le _, fun d5 n5 => ?_⟩⟩
    have g0 : ∀ {H : Hp} {a z : Addr} {x : HO}, (upd H a x) z = none → z ≠ a ∧ H z = none := fun {H a z x} hz => by
      have n : z ≠ a := fun e => by rw [e, upd_same] at hz; cases hz
      rw [upd_ne n] at hz
      exact ⟨n, hz⟩
    obtain ⟨a1, m1⟩ := g0 n1
    obtain ⟨b2, n2⟩ := g0 n2
    obtain ⟨b1, m2⟩ := g0 n2
    obtain ⟨c3, n3⟩ := g0 n3
    obtain ⟨c2, n3⟩ := g0 n3
    obtain ⟨c1, m3⟩ := g0 n3
    obtain ⟨e4, n4⟩ := g0 n4
    obtain ⟨e3, n4⟩ := g0 n4
    obtain ⟨e2, n4⟩ := g0 n4
    obtain ⟨e1, m4⟩ := g0 n4
    obtain ⟨f5, n5⟩ := g0 n5
    obtain ⟨f4, n5⟩ := g0 n5
    obtain ⟨f3, n5⟩ := g0 n5
    obtain ⟨f2, n5⟩ := g0 n5
    obtain ⟨f1, m5⟩ := g0 n5
    refine ⟨by rw [upd_ne f1.symm, upd_ne e1.symm, upd_ne c1.symm, upd_ne b1.symm, upd_ne a1.symm, upd_same], bkK (.int t) d1 d2 d3 d4 d5, rfl, by show 6 ≤ 15; decide, ?_⟩
    refine k p ((((((o.put p (j, -1, 0)).put d1 (j, -1, 1)).put d2 (j, -1, 2)).put d3 (j, -1, 3)).put d4 (j, -1, 4)).put d5 (j, -1, 5)) _ ⟨.int t, d1, d2, d3, d4, d5, [], [], [], [], ?_⟩ ?_
    · refine ⟨upd_same, ?_, ?_, ?_, ?_, ?_, ?_, ?_, ?_, ?_, ?_, ?_, fun n => .inl ⟨rfl, rfl⟩, fun n => .inl ⟨rfl, rfl⟩, fun n => rfl, fun n => rfl, KL.nil, KL.nil, KL.nil, KL.nil⟩
      · rw [upd_ne a1, upd_ne f2.symm, upd_ne e2.symm, upd_ne c2.symm, upd_ne b2.symm, upd_same]
      · rw [upd_ne b1, upd_ne f3.symm, upd_ne e3.symm, upd_ne c3.symm, upd_same]
      · rw [upd_ne c1, upd_ne f4.symm, upd_ne e4.symm, upd_same]
      · rw [upd_ne e1, upd_ne f5.symm, upd_same]
      · rw [upd_ne f1, upd_same]
        rfl
      · rw [put_ne f1.symm, put_ne e1.symm, put_ne c1.symm, put_ne b1.symm, put_ne a1.symm, put_same]
      · rw [put_ne f2.symm, put_ne e2.symm, put_ne c2.symm, put_ne b2.symm, put_same]
      · rw [put_ne f3.symm, put_ne e3.symm, put_ne c3.symm, put_same]
      · rw [put_ne f4.symm, put_ne e4.symm, put_same]
      · rw [put_ne f5.symm, put_same]
      · rw [put_same]
    · refine ((((((Keep.ex ?_).own hp).own m1).own m2).own m3).own m4).own m5
      intro b x hb
      have q : ∀ {z : Addr}, H z = none → b ≠ z := fun hz => ne_of_none hb hz
      rw [upd_ne (q hp), upd_ne (q m5), upd_ne (q m4), upd_ne (q m3), upd_ne (q m2), upd_ne (q m1), upd_ne (q hp)]
      exact hb

/-! ### _law_channel -/
/-- all but s -/
def ExB (s : Addr) (H H' : Hp) : Prop := ∀ b x, H b = some x → b ≠ s → H' b = some x
def spChan (C D : Addr) : Sp := fun vs H Q _ => ∃ (o : Ow) (i : Nat) (p s : Addr) (A : Co) (og ic : List Int) (v : Int), vs = [.ref p, .ref s] ∧ SdX C D o H i p A og ic ∧ H s = some (.lst [.int v]) ∧ A.nums ≠ [] ∧ A.nums.length ≤ 1000 ∧
  ∀ n v' H', n ∈ A.nums → ExB s H H' → H' s = some (.lst [.int v']) → Q (.int n) H'
theorem scChan : FnScope ["_law_side", "_law_state", "_law_numbers", "_law_number"] ["_law_side", "_law_state"] (defScope (top 23)) := ⟨rfl, rfl, rfl, by decide +kernel, rfl, by decide +kernel, by decide +kernel⟩
theorem ok_chan {f : Addr} {fd : FuncData} (F : Fun K "_law_channel" "_law_channel" (top 23) f fd) (T : Txt K mg C D) (I : ItB P w K mg base D) (F1 : Ft P w K mg base "_law_digit" 1 ["_law_state", "_law_many"] spDigit) : FnOk P w K mg base CX0 2 f fd ["_law_side", "_law_state"] (spChan C D) := by
  refine F.ok scChan (fun vs H Q E h => ?_) (fun cdv A outer s H vs Q E hr h => ?_)
  · obtain ⟨o, i, p, s, A, og, ic, v, rfl, _⟩ := h
    rfl
  · obtain ⟨o, i, p, s, A, og, ic, v, rfl, ⟨dx, d, ln, lt, lo, li, kvs, h⟩, hs, hne, hln, k⟩ := h
    have hu := hu_of hr
    refine ⟨_, pss_cons (ps_setLc (own := [("_law_number", 3)]) (g := gName 3) rfl scChan.nd (i := 2) rfl rfl (by rfl) (pit I fun _ _ m1 m2 m3 m4 => pi_own m1 m2 m3 m4 hr (pv 0)) (blkOk_by (own := [("_law_number", 3)]) (N := ["_law_side", "_law_state", "_law_numbers", "_law_number"]) (sc := defScope (top 23)) (by decide +kernel))
          (fun _ _ _ _ _ => pg_name (i := 3) scChan.nd rfl (Or.inl rfl)) (fun _ _ _ _ _ => pts_nil) (fun _ _ _ _ _ => pv 3))
      (pss_one (ps_ret (pe_ix ix_list (pv 2) (pfn F1 hr (pa_cons (pv 1) (pa_cons (pe_callB call_len_seq (by rfl) T.len PySem.boot_len (pa_cons (pv 2) pa_nil)) pa_nil))) (fun _ _ => rfl)))), ?_⟩
    refine q_asgL (xs := il A.nums) (el_lcOwn (ev_var rfl) h.ob rfl h.nn (by rw [il_length]; omega) (fun x => rfl) (fun x H1 => ?_) (fun x H1 => ev_var rfl)) fun l H1 hl e1 g1 => ?_
    · exact fun H2 e Q q => q H2 (Ex.refl H2)
    · have hc : 0 < A.nums.length := by
        cases z : A.nums with
        | nil => exact absurd z hne
        | cons x r => simp
      refine ⟨_, rfl, ?_⟩
      refine go_call (ea_cons (ev_var rfl) (ea_cons (ev_lenM (K := K) (evm_ref (ev_var rfl) g1)) ea_nil)) fun H2 e2 => ?_
      rw [il_length]
      refine ⟨s, v, (A.nums.length : Int), rfl, e2 _ _ (e1 _ _ hs), by omega, by omega, fun r v' H3 r0 r1 hB hS => ?_⟩
      have nls : l ≠ s := (ne_of_none hs hl).symm
      obtain ⟨m, rfl⟩ : ∃ m : Nat, r = (m : Int) := ⟨r.toNat, by omega⟩
      have hlt : m < A.nums.length := by omega
      refine ⟨l, il A.nums, (m : Int), .int (A.nums[m]), rfl, rfl, sq_of (hB _ _ (e2 _ _ g1) nls), ?_, ?_⟩
      · refine atI_nat ?_
        rw [List.getElem?_map, List.getElem?_eq_getElem hlt]
        rfl
      · exact k _ v' H3 (List.getElem_mem hlt) (fun b x hb hbs => hB _ _ (e2 _ _ (e1 _ _ hb)) hbs) hS
end Thl

/-! The law: what is written, what is read. -/
namespace Thl
open PySem PySem.Spec PyProof.Rows L2 Evl
variable {P : Program} {w : World} {K : PySem.W.Frag} {mg : Str → Option Value} {base : Heap} {C D : Addr}
theorem ev_st {σ : L2.St} {H : Hp} {te tn : TE} {o : Ow} {i : Nat} {p : Addr} {A : Co} {og ic : List Int} {n : Int} {key : Str} {v : V} (h : SdX C D o H i p A og ic) (hn : n ∈ A.turns) (hp : Ev te σ H (.ref p)) (hi : Ev tn σ H (.int n))
    (hv : ∀ t, valV (stK A.win (A.ch n) t) (.inr key) = some v) : Ev (tDGet (tMeth D "status" (spSt C D) [] E0 te (tCons tn tNil)) (tC (.str key))) σ H v := fun H1 e Q q => by
  have h1 := h.ex e
  have h2 := h1
  obtain ⟨dx, d, ln, lt, lo, li, kvs, h1⟩ := h1
  refine go_meth (hp.mono e) h1.ob rfl (ea_cons (hi.mono e) ea_nil) fun H2 e2 => ⟨o, i, p, A, og, ic, n, rfl, h2.ex e2, hn, fun s t H3 hs e3 g3 _ => ⟨s, v, rfl, ?_, q H3 (e2.trans e3)⟩⟩
  rw [← hv t]
  exact DGet.k (k := .inr key) g3
abbrev Of2 (i j : Nat) : Role → Prop := fun r => r.1 = i ∨ r.1 = j
theorem isi_sp {j : Int} {H : Hp} : SpV spIsI [.int j] H (.bl true) := fun H1 _ Q q E => ⟨j, rfl, q⟩

/-! ### _law_write -/
def spLW (C D : Addr) : Sp := fun vs H Q _ => ∃ (o : Ow) (i j : Nat) (p q l : Addr) (A : Co) (og ic : List Int) (B : Bc) (wi : List Int) (n : Int) (os : List Int), vs = [.ref p, .ref q, .int n, .ref l] ∧ SdX C D o H i p A og ic ∧ BkX o H j q B wi ∧ (i ≠ j ∧ i ≠ 9 ∧ j ≠ 9) ∧ n ∈ A.turns ∧ (1 ≤ n ∧ n ≤ 8) ∧
  H l = some (.lst (il os)) ∧ o l = tmpR ∧ ((A.ch n).queue.length : Int) ≤ A.win ∧ (A.ch n).queue.length + os.length ≤ 100000 ∧ (B.written n).length + os.length ≤ 100000 ∧
  ∀ o' H', SdX C D o' H' i p (A.set n { A.ch n with queue := (A.ch n).queue ++ os.take (min (room A.win (A.ch n)) os.length).toNat }) og ic → BkX o' H' j q (B.wr n (os.take (min (room A.win (A.ch n)) os.length).toNat)) wi → Keep (Of2 i j) o H o' H' → Q (.bl true) H'
theorem scLW : FnScope ["_law_side", "_law_book_here", "_law_number", "_law_octets", "_law_room", "_law_told"] ["_law_side", "_law_book_here", "_law_number", "_law_octets"] (defScope (top 24)) := ⟨rfl, rfl, rfl, by decide +kernel, rfl, by decide +kernel, by decide +kernel⟩
theorem ok_lw {f : Addr} {fd : FuncData} (F : Fun K "_law_write" "_law_write" (top 24) f fd) (T : Txt K mg C D) (M1 : Mt P w K mg base D "status" 2 ["self", "channel"] (spSt C D)) (M2 : Mt P w K mg base D "write" 2 ["self", "channel", "octets"] (spWr C D)) (F1 : Ft P w K mg base "_law_is_integer" 1 ["_law_told"] spIsI) :
    FnOk P w K mg base CX0 3 f fd ["_law_side", "_law_book_here", "_law_number", "_law_octets"] (spLW C D) := by
  refine F.ok scLW (fun vs H Q E h => ?_) (fun cdv A outer s H vs Q E hr h => ?_)
  · obtain ⟨o, i, j, p, q, l, A, og, ic, B, wi, n, os, rfl, _⟩ := h
    rfl
  · obtain ⟨o, i, j, p, q, l, A, og, ic, B, wi, n, os, rfl, hx, hb, ⟨hij, hi9, hj9⟩, hn, hn8, hl, ol, hqw, hz, hz2, k⟩ := h
    have hu := hu_of hr
    have hr1 : Room 1 _ := hr.mono (by decide)
    refine ⟨_, pss_cons (ps_set (i := 4) scLW.nd rfl (.inl rfl) (pe_dget hu (pmt M1 fun _ _ m g b => pe_meth (pv 0) T.clD m g hr b .nil pass0 (pa_cons (pv 2) pa_nil)) pe_str (fun _ _ => rfl)))
      (pss_cons (ps_set (i := 5) scLW.nd rfl (.inl rfl) (pmt M2 fun _ _ m g b => pe_meth (pv 0) T.clD m g hr b .nil pass0 (pa_cons (pv 2) (pa_cons (pv 3) pa_nil))))
      (pss_cons (ps_if (PW.pt (pw_or (pt_not (pt_val (pfn F1 hr1 (pa_cons (pv 5) pa_nil)))) (pw_or1 (pt_cmpR op_ne (pv 5) (pe_callB (call_min2 rfl) (by rfl) T.min (by decide +kernel) (pa_cons (pv 4) (pa_cons (pe_callB call_len_seq (by rfl) T.len PySem.boot_len (pa_cons (pv 3) pa_nil)) pa_nil))) (nomark _))))) (pss_one ps_never) pss_nil)
      (pss_cons (ps_dput hu (pe_dget hu (pv 1) pe_str (fun _ _ => rfl)) (pv 2) (pe_op op_cat (pe_dget2 hu (pe_dget hu (pv 1) pe_str (fun _ _ => rfl)) (pv 2) (pe_lst pa_nil) ⟨rfl, rfl, rfl, rfl⟩) (pe_slice sl_list (pv 3) po_none (po_some (pv 5)))) rfl)
      (pss_one (ps_ret pe_bl))))), ?_⟩
    have hrm := room_nonneg hqw
    refine q_asg (v := .int (room A.win (A.ch n))) (ev_st hx hn (ev_var rfl) (ev_var rfl) fun t => rfl) fun H1 e1 => ?_
    have hx1 := hx.ex e1
    obtain ⟨dx, d, ln, lt, lo, li, kvs, h1⟩ := hx1
    refine q_asgM (ev_var rfl) h1.ob rfl (ea_cons (ev_var rfl) (ea_cons (ev_var rfl) ea_nil)) fun H2 e2 => ?_
    have e12 := e1.trans e2
    refine ⟨o, i, p, l, A, og, ic, n, os, rfl, hx.ex e12, hn, e12 _ _ hl, hqw, hz, fun o3 H3 hx3 k3 => ?_⟩
    generalize hm : min (room A.win (A.ch n)) (os.length : Int) = m at *
    have hm0 : 0 ≤ m := by omega
    have ntmp : ¬ OfS i tmpR := fun z => hi9 z.symm
    obtain ⟨l3, ol3⟩ := k3 _ _ (e12 _ _ hl) (by rw [ol]; exact ntmp)
    have hb3 := (hb.ex e12).keep k3 fun r hr z => hij (z.symm.trans hr)
    obtain ⟨t, wr, gv, fi, rs, wd, kw, kg, kf, kr, b3⟩ := hb3
    have hlen : ∀ {H4}, Ex H3 H4 → Ev (tCB (rLenS K) (tCons (tVar 3) tNil)) [some (.ref p), some (.ref q), some (.int n), some (.ref l), some (.int (room A.win (A.ch n))), some (.int m)] H4 (.int os.length) := fun e => by
      have := ev_lenM (K := K) (evm_ref (ev_var (i := 3) (σ := [some (.ref p), some (.ref q), some (.int n), some (.ref l), some (.int (room A.win (A.ch n))), some (.int m)]) rfl) (e _ _ l3))
      rw [il_length] at this
      exact this
    refine q_when (b := false) (et_or (a := false) (b := false) (et_is (et_not (et_B (ev_fn (ea_cons (ev_var rfl) ea_nil) isi_sp))) rfl) fun _ => et_is (et_test (ev_op (ev_var rfl) (ev_min2 (ev_var rfl) (hlen (Ex.refl _))) (rv_ne rfl))) (by
      rw [hm, decide_eq_true rfl]
      rfl)) (fun h => nomatch h) fun _ H4 e4 => ?_
    have b4 := b3.ex e4
    have ecat := el_cat (em_get (b4.e_w (ev_var (i := 1) (σ := [some (.ref p), some (.ref q), some (.int n), some (.ref l), some (.int (room A.win (A.ch n))), some (.int m)]) rfl)) b4.hw b4.cw (ev_var (i := 2) rfl))
      (evm_new (el_slM (K := K) (evm_ref (ev_var (i := 3) rfl) (e4 _ _ l3)) eo_none (eo_some (ev_var (i := 5) rfl)))) (by
        rw [cut_take hm0, il_length, il_length, List.length_take]
        omega)
    rw [cut_take hm0] at ecat
    have ej : il (B.written n) ++ il (os.take m.toNat) = il (B.written n ++ os.take m.toNat) := by simp [il]
    rw [ej] at ecat
    refine q_dputL (n := .inl n) ecat (b4.e_w (ev_var rfl)) b4.hw (ev_var rfl) (by have := b4.lw.bd; omega) fun l5 H5 hl5 e5 g5 => ?_
    have b5 := (((b4.put (x := l5) (r := (j, n, 10)) hl5).ex e5).set_w hn8 g5 put_same)
    have k5 : Keep (OfS j) o3 H3 (o3.put l5 (j, n, 10)) (upd H5 wr (.dK (putK kw (.inl n) (.ref l5)))) := ((Keep.ex (e4.trans e5)).upd fun _ _ => by rw [b3.ow]).own (fresh_back e4 hl5)
    refine s_ret ev_c fun H6 e6 => ?_
    refine k _ H6 ((hx3.keep k5 fun r hr z => hij (hr.symm.trans z)).ex e6) ⟨t, wr, gv, fi, rs, wd, _, kg, kf, kr, b5.ex e6⟩ ?_
    exact ((((Keep.ex e12).trans k3).mono fun r z => .inl z).trans (k5.mono fun r z => .inr z)).trans (Keep.ex e6)

/-! ### _law_read -/
def spLR (C D : Addr) : Sp := fun vs H Q _ => ∃ (o : Ow) (i j : Nat) (p q : Addr) (A : Co) (og ic : List Int) (B : Bc) (wi : List Int) (n c : Int), vs = [.ref p, .ref q, .int n, .int c] ∧ SdX C D o H i p A og ic ∧ BkX o H j q B wi ∧ (i ≠ j ∧ i ≠ 9 ∧ j ≠ 9) ∧ n ∈ A.turns ∧ (1 ≤ n ∧ n ≤ 8) ∧
  0 ≤ c ∧ (B.given n).length + (A.ch n).ready.length ≤ 100000 ∧
  ∀ o' H', SdX C D o' H' i p (A.set n { A.ch n with ready := (A.ch n).ready.drop c.toNat }) og ic → BkX o' H' j q (B.gv n ((A.ch n).ready.take c.toNat)) wi →
    (∃ t wr gv fi rs wd kw kg kf kr, BkAt o' H' j q (B.gv n ((A.ch n).ready.take c.toNat)) wi t wr gv fi rs wd kw kg kf kr ∧ (valV kg (.inl n)).isSome = true) → Keep (fun r => OfC i n r ∨ r.1 = j) o H o' H' → Q (.bl true) H'
theorem scLR : FnScope ["_law_side", "_law_book_here", "_law_number", "_law_count", "_law_told"] ["_law_side", "_law_book_here", "_law_number", "_law_count"] (defScope (top 25)) := ⟨rfl, rfl, rfl, by decide +kernel, rfl, by decide +kernel, by decide +kernel⟩
theorem ok_lr {f : Addr} {fd : FuncData} (F : Fun K "_law_read" "_law_read" (top 25) f fd) (T : Txt K mg C D) (M1 : Mt P w K mg base D "read" 2 ["self", "channel", "count"] (spRd C D)) :
    FnOk P w K mg base CX0 3 f fd ["_law_side", "_law_book_here", "_law_number", "_law_count"] (spLR C D) := by
  refine F.ok scLR (fun vs H Q E h => ?_) (fun cdv A outer s H vs Q E hr h => ?_)
  · obtain ⟨o, i, j, p, q, A, og, ic, B, wi, n, c, rfl, _⟩ := h
    rfl
  · obtain ⟨o, i, j, p, q, A, og, ic, B, wi, n, c, rfl, hx, hb, ⟨hij, hi9, hj9⟩, hn, hn8, hc, hz, k⟩ := h
    have hu := hu_of hr
    refine ⟨_, pss_cons (ps_set (i := 4) scLR.nd rfl (.inl rfl) (pmt M1 fun _ _ m g b => pe_meth (pv 0) T.clD m g hr b .nil pass0 (pa_cons (pv 2) (pa_cons (pv 3) pa_nil))))
      (pss_cons (ps_if (PW.pt (pw_or (pt_not (pt_val (pe_callB call_isi (by rfl) T.isi (by decide +kernel) (pa_cons (pv 4) (pa_cons (pe_bltn (v := .ty "list") (by rfl) T.list (by decide +kernel) rfl) pa_nil))))) (pw_or1 (pt_cmpR op_gt (pe_callB call_len_seq (by rfl) T.len PySem.boot_len (pa_cons (pv 4) pa_nil)) (pv 3) (nomark _))))) (pss_one ps_never) pss_nil)
      (pss_cons (ps_dput hu (pe_dget hu (pv 1) pe_str (fun _ _ => rfl)) (pv 2) (pe_op op_cat (pe_dget2 hu (pe_dget hu (pv 1) pe_str (fun _ _ => rfl)) (pv 2) (pe_lst pa_nil) ⟨rfl, rfl, rfl, rfl⟩) (pv 4)) rfl)
      (pss_one (ps_ret pe_bl)))), ?_⟩
    have hx1 := hx
    obtain ⟨dx, d, ln, lt, lo, li, kvs, h1⟩ := hx1
    refine q_asgM (ev_var rfl) h1.ob rfl (ea_cons (ev_var rfl) (ea_cons (ev_var rfl) ea_nil)) fun H2 e2 => ?_
    refine ⟨o, i, p, A, og, ic, n, c, rfl, hx.ex e2, hn, hc, hi9, fun l o3 H3 hl0 l3 ol3 hx3 k3 => ?_⟩
    have hb3 := (hb.ex e2).keep k3 fun r hr z => hij (z.1.symm.trans hr)
    obtain ⟨t, wr, gv, fi, rs, wd, kw, kg, kf, kr, b3⟩ := hb3
    have hlen := ev_lenM (K := K) (evm_ref (ev_var (i := 4) (σ := [some (.ref p), some (.ref q), some (.int n), some (.int c), some (.ref l)]) rfl) l3)
    rw [il_length] at hlen
    refine q_when (b := false) (et_or (a := false) (b := false) (et_is (et_not (et_B (ev_isi (t := "list") (b := true) (ev_var rfl) (fun H' e => .base (.lst (e _ _ l3))) (by decide +kernel)))) rfl) fun _ => et_is (et_test (ev_op hlen (ev_var rfl) rv_I0)) (by
      refine decide_eq_false ?_
      rw [List.length_take]
      omega)) (fun h => nomatch h) fun _ H4 e4 => ?_
    have b4 := b3.ex e4
    have ecat := el_cat (em_get (b4.e_g (ev_var (i := 1) (σ := [some (.ref p), some (.ref q), some (.int n), some (.int c), some (.ref l)]) rfl)) b4.hg b4.cg (ev_var (i := 2) rfl)) (evm_ref (ev_var (i := 4) rfl) (e4 _ _ l3)) (by
        rw [il_length, il_length, List.length_take]
        omega)
    have ej : il (B.given n) ++ il ((A.ch n).ready.take c.toNat) = il (B.given n ++ (A.ch n).ready.take c.toNat) := by simp [il]
    rw [ej] at ecat
    refine q_dputL (n := .inl n) ecat (b4.e_g (ev_var rfl)) b4.hg (ev_var rfl) (by have := b4.lg.bd; omega) fun l5 H5 hl5 e5 g5 => ?_
    have b5 := (((b4.put (x := l5) (r := (j, n, 11)) hl5).ex e5).set_g hn8 g5 put_same)
    have k5 : Keep (OfS j) o3 H3 (o3.put l5 (j, n, 11)) (upd H5 gv (.dK (putK kg (.inl n) (.ref l5)))) := ((Keep.ex (e4.trans e5)).upd fun _ _ => by rw [b3.og]).own (fresh_back e4 hl5)
    refine s_ret ev_c fun H6 e6 => ?_
    refine k _ H6 ((hx3.keep k5 fun r hr z => hij (hr.symm.trans z)).ex e6) ⟨t, wr, gv, fi, rs, wd, kw, _, kf, kr, b5.ex e6⟩ ⟨t, wr, gv, fi, rs, wd, kw, _, kf, kr, b5.ex e6, ?_⟩ ?_
    · rw [valV_put, if_pos rfl]
      rfl
    · exact ((((Keep.ex e2).trans k3).mono fun r z => .inl z).trans (k5.mono fun r z => .inr z)).trans (Keep.ex e6)
end Thl

/-! Both sides and both books: what stands where; take, move. -/
namespace Thl
open PySem PySem.Spec PyProof.Rows L2 Evl
variable {P : Program} {w : World} {K : PySem.W.Frag} {mg : Str → Option Value} {base : Heap} {C D : Addr}
def ix : Bool → Nat := fun t => if t = true then 1 else 0
theorem ix_ne (t : Bool) : ix (!t) ≠ ix t := by cases t <;> decide
theorem ix_le (t : Bool) : ix t ≤ 1 := by cases t <;> decide
theorem ix_of {i : Nat} (h : i < 2) : ∃ t, i = ix t := by
  have : i = 0 ∨ i = 1 := by omega
  rcases this with rfl | rfl
  · exact ⟨false, rfl⟩
  · exact ⟨true, rfl⟩
@[simp] theorem up_self {α : Type} (f : Bool → α) (t : Bool) : up f t (f t) = f := by
  funext u
  unfold up
  split
  · rename_i h
    rw [h]
  · rfl
def LW.sS (W : LW) (t : Bool) (A : Co) (og ic : List Int) : LW := { W with c := up W.c t A, out := up W.out t og, inc := up W.inc t ic }
def LW.sB (W : LW) (t : Bool) (B : Bc) (wi : List Int) : LW := { W with k := up W.k t B, wire := up W.wire t wi }
structure WAt (C D : Addr) (o : Ow) (H : Hp) (sl bl : Addr) (p q : Bool → Addr) (W : LW) : Prop where
  hs : H sl = some (.lst [.ref (p false), .ref (p true)])
  os : o sl = (4, 0, 1)
  hb : H bl = some (.lst [.ref (q false), .ref (q true)])
  ob : o bl = (4, 0, 2)
  sd : ∀ t, SdX C D o H (ix t) (p t) (W.c t) (W.out t) (W.inc t)
  bk : ∀ t, BkX o H (2 + ix t) (q t) (W.k t) (W.wire t)
abbrev OfW : Role → Prop := fun r => r.1 < 4
abbrev OfX : Role → Prop := fun r => r.1 < 4 ∨ r = (4, 0, 0)
section
variable {o o' : Ow} {H H' : Hp} {sl bl : Addr} {p q : Bool → Addr} {W : LW} {t : Bool} {A : Co} {og ic wi : List Int} {B : Bc} {S : Role → Prop}
theorem WAt.keep (h : WAt C D o H sl bl p q W) (k : Keep S o H o' H') (hs : ∀ r : Role, S r → r.1 < 4 → False) (h4 : ∀ c, S (4, 0, c) → c = 0) : WAt C D o' H' sl bl p q W := by
  have h1 := k _ _ h.hs (by rw [h.os]; exact fun z => absurd (h4 _ z) (by decide))
  have h2 := k _ _ h.hb (by rw [h.ob]; exact fun z => absurd (h4 _ z) (by decide))
  refine ⟨h1.1, h1.2.trans h.os, h2.1, h2.2.trans h.ob, fun t => (h.sd t).keep k fun r hr z => hs r z ?_, fun t => (h.bk t).keep k fun r hr z => hs r z ?_⟩
  · have := ix_le t
    omega
  · have := ix_le t
    omega
theorem WAt.ex (h : WAt C D o H sl bl p q W) (e : Ex H H') : WAt C D o H' sl bl p q W := h.keep (S := fun _ => False) (.ex e) (fun _ z => z.elim) fun _ z => z.elim
theorem WAt.st (h : WAt C D o H sl bl p q W) (k : Keep (fun r => r = (4, 0, 0)) o H o' H') : WAt C D o' H' sl bl p q W := h.keep k (fun r z hr => by rw [z] at hr; exact absurd hr (by decide)) fun c z => by simpa using z
theorem WAt.both (h : WAt C D o H sl bl p q W) (k : Keep (Of2 (ix t) (2 + ix t)) o H o' H') (s : SdX C D o' H' (ix t) (p t) A og ic) (b : BkX o' H' (2 + ix t) (q t) B wi) : WAt C D o' H' sl bl p q ((W.sS t A og ic).sB t B wi) := by
  have lt := ix_le t
  have h1 := k _ _ h.hs (by rw [h.os]; exact fun z => by rcases z with z | z <;> (have z : (4 : Nat) = _ := z) <;> omega)
  have h2 := k _ _ h.hb (by rw [h.ob]; exact fun z => by rcases z with z | z <;> (have z : (4 : Nat) = _ := z) <;> omega)
  refine ⟨h1.1, h1.2.trans h.os, h2.1, h2.2.trans h.ob, fun u => ?_, fun u => ?_⟩
  · rcases bcase t u with e | e
    · subst e
      simp only [LW.sS, LW.sB, up_same]
      exact s
    · subst e
      simp only [LW.sS, LW.sB, up_not]
      refine (h.sd (!t)).keep k fun r hr z => ?_
      have := ix_ne t
      have := ix_le (!t)
      rcases z with z | z <;> omega
  · rcases bcase t u with e | e
    · subst e
      simp only [LW.sS, LW.sB, up_same]
      exact b
    · subst e
      simp only [LW.sS, LW.sB, up_not]
      refine (h.bk (!t)).keep k fun r hr z => ?_
      have := ix_ne t
      have := ix_le (!t)
      rcases z with z | z <;> omega
theorem WAt.side (h : WAt C D o H sl bl p q W) (k : Keep (OfS (ix t)) o H o' H') (s : SdX C D o' H' (ix t) (p t) A og ic) : WAt C D o' H' sl bl p q (W.sS t A og ic) := by
  have hb := (h.bk t).keep k fun r hr z => by
    have z : r.1 = ix t := z
    omega
  have := h.both (k.mono fun r z => .inl z) s hb
  simp only [LW.sB, LW.sS, up_self] at this ⊢
  exact this
theorem WAt.book (h : WAt C D o H sl bl p q W) (k : Keep (OfS (2 + ix t)) o H o' H') (b : BkX o' H' (2 + ix t) (q t) B wi) : WAt C D o' H' sl bl p q (W.sB t B wi) := by
  have hs := (h.sd t).keep k fun r hr z => by
    have z : r.1 = 2 + ix t := z
    omega
  have := h.both (k.mono fun r z => .inr z) hs b
  simp only [LW.sB, LW.sS, up_self] at this ⊢
  exact this
theorem Keep.sW (k : Keep (OfS (ix t)) o H o' H') : Keep OfW o H o' H' := k.mono fun r z => by
  have z : r.1 = ix t := z
  have := ix_le t
  show r.1 < 4
  omega
theorem Keep.bW (k : Keep (OfS (2 + ix t)) o H o' H') : Keep OfW o H o' H' := k.mono fun r z => by
  have z : r.1 = 2 + ix t := z
  have := ix_le t
  show r.1 < 4
  omega
theorem Keep.wX (k : Keep OfW o H o' H') : Keep OfX o H o' H' := k.mono fun r z => .inl z
theorem Keep.tX (k : Keep (fun r => r = (4, 0, 0)) o H o' H') : Keep OfX o H o' H' := k.mono fun r z => .inr z
variable {σ : L2.St} {te tb : TE}
/-- sides[turn], books[turn] -/
theorem WAt.e_side (h : WAt C D o H sl bl p q W) (hs : Ev te σ H (.ref sl)) (ht : Ev tb σ H (.int (ix t : Int))) : Ev (tOp (rIxL K) te tb) σ H (.ref (p t)) := ev_ixL hs (sq_of h.hs) ht (atI_nat (by cases t <;> rfl))
theorem WAt.e_book (h : WAt C D o H sl bl p q W) (hs : Ev te σ H (.ref bl)) (ht : Ev tb σ H (.int (ix t : Int))) : Ev (tOp (rIxL K) te tb) σ H (.ref (q t)) := ev_ixL hs (sq_of h.hb) ht (atI_nat (by cases t <;> rfl))
theorem ix_sub (t : Bool) : (1 : Int) - (ix t : Int) = (ix (!t) : Int) := by cases t <;> decide
theorem ev_other (ht : Ev tb σ H (.int (ix t : Int))) : Ev (tOp (rI0 fun i j => V.int (i - j)) (tC (.int 1)) tb) σ H (.int (ix (!t) : Int)) := ev_is (ev_op ev_c ht rv_I0) (by rw [ix_sub])

/-! ### wire.extend(side.take(n)) -/
theorem s_takeW {tb tp tn : TE} {E : Ends} {Cn : Int → Prop} (h : WAt C D o H sl bl p q W) (hi : ∃ a, SInv (W.c t) a) (hol : (W.out t).length ≤ 1000) (hb : Ev tb σ H (.ref (q t))) (hp : Ev tp σ H (.ref (p t)))
    (hn : ∀ H1, Ex H H1 → ∀ Q : VK, (∀ c H2, Cn c → Keep (fun r => r = (4, 0, 0)) o H1 o H2 → Q (.int c) H2) → tn σ H1 Q) (hc : ∀ c, Cn c → 0 ≤ c ∧ (W.wire t).length + c.toNat ≤ 100000)
    (k : ∀ c fs A' o' H', Cn c → Makes (W.c t) fs A' → (c ≤ ((W.out t ++ encs fs).length : Int) ∨ nextFr A' = none) → (∀ gs g, fs = gs ++ [g] → ((W.out t ++ encs gs).length : Int) < c) →
      WAt C D o' H' sl bl p q (W.takeW t A' fs c.toNat) → Keep OfX o H o' H' → E.nx σ H') :
    tDrop (tBM K "list" rExtend (tDGet tb (tC (.str "wire"))) (tCons (tMeth D "take" (spTake C D) [] E0 tp (tCons tn tNil)) tNil)) E σ H := by
  have lt := ix_le t
  have bk := h.bk t
  obtain ⟨tv, wr, gv, fi, rs, wd, kw, kg, kf, kr, b⟩ := bk
  have hd := h.sd t
  obtain ⟨dx, d, ln, lt', lo, li, kvs, hd⟩ := hd
  refine (b.e_i hb) H (Ex.refl H) _ fun H1 e1 => ⟨Or.inl ⟨rfl, _, sq_of (e1 _ _ b.hi)⟩, ?_⟩
  refine hp H1 e1 _ fun H2 e2 => ⟨p t, dx, _, rfl, (e1.trans e2) _ _ hd.ob, rfl, ?_⟩
  refine hn H2 (e1.trans e2) _ fun c H3 cn k3 => ?_
  obtain ⟨c0, cz⟩ := hc c cn
  have w3 := (h.ex (e1.trans e2)).st k3
  have kk3 := (Keep.ex (S := OfX) (o := o) (e1.trans e2)).trans k3.tX
  refine ⟨o, ix t, p t, W.c t, W.out t, W.inc t, c, rfl, w3.sd t, by omega, c0, hi, hol, fun fs A' l o' H' hm h1 h2 hl ol hx kx => ?_⟩
  have b3 := (b.ex (e1.trans e2)).keep k3 fun r hr z => by
    rw [z] at hr
    have hr : 4 = 2 + ix t := hr
    omega
  have b4 := b3.keep kx fun r hr z => by
    have z : r.1 = ix t := z
    omega
  refine ⟨wd, l, il (W.wire t), il ((W.out t ++ encs fs).take c.toNat), rfl, rfl, b4.hi, hl, sz_of ?_, ?_⟩
  · rw [il_length, il_length, List.length_take]
    omega
  · have ej : il (W.wire t) ++ il ((W.out t ++ encs fs).take c.toNat) = il (W.wire t ++ (W.out t ++ encs fs).take c.toNat) := by simp [il]
    rw [ej]
    have w4 := w3.side kx hx
    have kb : Keep (OfS (2 + ix t)) o' H' o' (upd H' wd (.lst (il (W.wire t ++ (W.out t ++ encs fs).take c.toNat)))) := Keep.refl.upd fun _ _ => by rw [b4.oi]
    have w5 := w4.book kb ⟨tv, wr, gv, fi, rs, wd, kw, kg, kf, kr, b4.set_i (w' := W.wire t ++ (W.out t ++ encs fs).take c.toNat)⟩
    have ew : (W.sS t A' ((W.out t ++ encs fs).drop c.toNat) (W.inc t)).sB t (W.k t) (W.wire t ++ (W.out t ++ encs fs).take c.toNat) = W.takeW t A' fs c.toNat := by
      simp only [LW.sS, LW.sB, LW.takeW, up_self]
    rw [ew] at w5
    exact k c fs A' o' _ cn hm h1 h2 w5 ((kk3.trans kx.sW.wX).trans kb.bW.wX)
theorem q_takeW {tb tp tn : TE} {tz : TS} {E : Ends} {Cn : Int → Prop} (h : WAt C D o H sl bl p q W) (hi : ∃ a, SInv (W.c t) a) (hol : (W.out t).length ≤ 1000) (hb : Ev tb σ H (.ref (q t))) (hp : Ev tp σ H (.ref (p t)))
    (hn : ∀ H1, Ex H H1 → ∀ Q : VK, (∀ c H2, Cn c → Keep (fun r => r = (4, 0, 0)) o H1 o H2 → Q (.int c) H2) → tn σ H1 Q) (hc : ∀ c, Cn c → 0 ≤ c ∧ (W.wire t).length + c.toNat ≤ 100000)
    (k : ∀ c fs A' o' H', Cn c → Makes (W.c t) fs A' → (c ≤ ((W.out t ++ encs fs).length : Int) ∨ nextFr A' = none) → (∀ gs g, fs = gs ++ [g] → ((W.out t ++ encs gs).length : Int) < c) →
      WAt C D o' H' sl bl p q (W.takeW t A' fs c.toNat) → Keep OfX o H o' H' → tz E σ H') :
    tSeq (tDrop (tBM K "list" rExtend (tDGet tb (tC (.str "wire"))) (tCons (tMeth D "take" (spTake C D) [] E0 tp (tCons tn tNil)) tNil))) tz E σ H := s_takeW (E := { E with nx := tz E }) h hi hol hb hp hn hc k
end

/-! ### _law_move -/
def spMv (C D : Addr) : Sp := fun vs H Q _ => ∃ (o : Ow) (sl bl : Addr) (p q : Bool → Addr) (W : LW) (t : Bool) (n : Nat) (fs : List Fr) (rest : List Int) (B : Co), vs = [.ref sl, .ref bl, .int (ix t : Int), .int (n : Int)] ∧ WAt C D o H sl bl p q W ∧
  W.inc (!t) ++ (W.wire t).take n = encs fs ++ rest ∧ Tail rest ∧ Recvs (W.c !t) fs B ∧ (W.inc (!t)).length ≤ 1000 ∧ (W.wire t).length ≤ 80000 ∧ ∀ o' H', WAt C D o' H' sl bl p q (W.moveW t B rest n) → Keep OfW o H o' H' → Q (.bl true) H'
theorem scMv : FnScope ["_law_sides", "_law_books", "_law_turn", "_law_count", "_law_wire", "_law_left"] ["_law_sides", "_law_books", "_law_turn", "_law_count"] (defScope (top 27)) := ⟨rfl, rfl, rfl, by decide +kernel, rfl, by decide +kernel, by decide +kernel⟩
theorem ok_mv {f : Addr} {fd : FuncData} (F : Fun K "_law_move" "_law_move" (top 27) f fd) (T : Txt K mg C D) (M1 : Mt P w K mg base D "receive" 5 ["self", "octets"] (spRecv C D)) :
    FnOk P w K mg base CX0 6 f fd ["_law_sides", "_law_books", "_law_turn", "_law_count"] (spMv C D) := by
  refine F.ok scMv (fun vs H Q E h => ?_) (fun cdv A outer s H vs Q E hr h => ?_)
  · obtain ⟨o, sl, bl, p, q, W, t, n, fs, rest, B, rfl, _⟩ := h
    rfl
  · obtain ⟨o, sl, bl, p, q, W, t, n, fs, rest, B, rfl, h, hs, ht, hR, hi, hw, k⟩ := h
    have hu := hu_of hr
    refine ⟨_, pss_cons (ps_set (i := 4) scMv.nd rfl (.inl rfl) (pe_dget hu (pe_ix ix_list (pv 1) (pv 2) (fun _ _ => rfl)) pe_str (fun _ _ => rfl)))
      (pss_cons (ps_expr (pmt M1 fun _ _ m g b => pe_meth (pe_ix ix_list (pv 0) (pe_op op_sub pe_int (pv 2)) (fun _ _ => rfl)) T.clD m g hr b .nil pass0 (pa_cons (pe_slice sl_list (pv 4) po_none (po_some (pv 3))) pa_nil)))
      (pss_cons (ps_set (i := 5) scMv.nd rfl (.inl rfl) (pe_slice sl_list (pv 4) (po_some (pv 3)) po_none))
      (pss_cons (ps_expr (pe_bm0 PySem.F.plainAttrs_list PySem.F.slot_list_clear PySem.F.type_list_clear mt_clear (pv 4)))
      (pss_cons (ps_expr (pe_bm PySem.F.plainAttrs_list PySem.F.slot_list_extend PySem.F.type_list_extend mt_extend (pv 4) (pa_cons (pv 5) pa_nil)))
      (pss_one (ps_ret (pe_cmpR op_isN (pe_fld (pe_ix ix_list (pv 0) (pe_op op_sub pe_int (pv 2)) (fun _ _ => rfl)) rfl) pe_non (nomark _)))))))), ?_⟩
    have lt := ix_le t
    have lt2 := ix_le (!t)
    have ne := ix_ne t
    have bk := h.bk t
    obtain ⟨tv, wr, gv, fi, rs, wd, kw, kg, kf, kr, b⟩ := bk
    refine q_asg (v := .ref wd) (b.e_i (h.e_book (ev_var rfl) (ev_var rfl))) fun H1 e1 => ?_
    have h1 := h.ex e1
    have b1 := b.ex e1
    have hsd := h1.sd (!t)
    obtain ⟨dx, d, ln, lt', lo, li, kvs, hd⟩ := hsd
    -- receive
    refine h1.e_side (t := !t) (ev_var rfl) (ev_other (ev_var rfl)) H1 (Ex.refl H1) _ fun H2 e2 => ⟨p (!t), dx, _, rfl, e2 _ _ hd.ob, rfl, ?_⟩
    refine el_slM (K := K) (evm_ref (ev_var rfl) (e2 _ _ b1.hi)) eo_none (eo_some (ev_var rfl)) H2 (Ex.refl H2) _ fun l H3 hl e3 g3 => ?_
    rw [cut_take (by omega), Int.toNat_natCast] at g3
    have h3 := h1.ex (e2.trans e3)
    refine ⟨o, ix (!t), p (!t), l, W.c (!t), B, W.out (!t), W.inc (!t), (W.wire t).take n, rest, fs, rfl, h3.sd (!t), g3, hs, ht, hR, ?_, by omega, fun o4 H4 hx4 k4 => ?_⟩
    · rw [List.length_append, List.length_take]
      omega
    have h4 := h3.side k4 hx4
    have b4 := (b1.ex (e2.trans e3)).keep k4 fun r hr z => by
      have z : r.1 = ix (!t) := z
      omega
    -- left
    refine q_asgL (xs := il ((W.wire t).drop n)) (by
      have := el_slM (K := K) (tl := tPart (tVar 3)) (th := tNoPart) (evm_ref (ev_var (i := 4) (σ := [some (.ref sl), some (.ref bl), some (.int (ix t : Int)), some (.int (n : Int)), some (.ref wd), none]) rfl) b4.hi) (eo_some (ev_var (i := 3) rfl)) eo_none
      rw [cut_drop (by omega), Int.toNat_natCast] at this
      exact this) fun l5 H5 hl5 e5 g5 => ?_
    have n5 : l5 ≠ wd := (ne_of_none b4.hi hl5).symm
    -- clear, extend
    refine ⟨.ref wd, rfl, Or.inl ⟨rfl, _, sq_of (e5 _ _ b4.hi)⟩, wd, il (W.wire t), rfl, rfl, e5 _ _ b4.hi, ?_⟩
    refine q_ext (xs := []) (ys := il ((W.wire t).drop n)) upd_same (ev_var rfl) (evm_ref (ev_var (i := 5) (v := .ref l5) rfl) (by rw [upd_ne n5]; exact g5)) (by rw [il_length, List.length_drop]; show 0 + _ ≤ _; omega) fun H7 e7 => ?_
    rw [List.nil_append]
    have b6 := (b4.ex e5).set_i (w' := [])
    have b7 := (b6.ex e7).set_i (w' := (W.wire t).drop n)
    have kb : Keep (OfS (2 + ix t)) o4 H4 o4 (upd H7 wd (.lst (il ((W.wire t).drop n)))) := by
      have k6 : Keep (OfS (2 + ix t)) o4 H4 o4 (upd H5 wd (.lst (il []))) := (Keep.ex e5).upd fun _ _ => by rw [b4.oi]
      exact (k6.trans (Keep.ex e7)).upd fun _ _ => by rw [b4.oi]
    have h7 := h4.book kb ⟨tv, wr, gv, fi, rs, wd, kw, kg, kf, kr, b7⟩
    have ew : (W.sS (!t) B (W.out (!t)) rest).sB t (W.k t) ((W.wire t).drop n) = W.moveW t B rest n := by
      simp only [LW.sS, LW.sB, LW.moveW, up_self]
    rw [ew] at h7
    have hsd7 := h7.sd (!t)
    obtain ⟨dx7, d7, ln7, lt7, lo7, li7, kvs7, hd7⟩ := hsd7
    refine s_ret (ev_op (hd7.e_failure T (h7.e_side (t := !t) (ev_var rfl) (ev_other (ev_var rfl)))) ev_c rv_isN) fun H8 e8 => ?_
    exact k o4 H8 (h7.ex e8) ((((Keep.ex (e1.trans (e2.trans e3))).trans k4.sW).trans kb.bW).trans (Keep.ex e8))
end Thl

/-! One step of the law, in plain words: what each does keeps the invariant. -/
namespace Thl
section
variable {A B : Co} {p q : Bc} {F G : List Fr} {a b : Nat}
theorem CInv.writeR (h : CInv A B p q F G a b) {n : Int} (hn : n ∈ A.turns) (os : List Int) :
    CInv (A.set n { A.ch n with queue := (A.ch n).queue ++ os.take (min (room A.win (A.ch n)) os.length).toNat }) B (p.wr n (os.take (min (room A.win (A.ch n)) os.length).toNat)) q F G a b := by
  by_cases hr : (A.ch n).fin = true ∨ (A.ch n).rst.isSome = true
  · have e : room A.win (A.ch n) = 0 := by unfold room; rw [if_pos hr]
    have e0 : (min (0 : Int) os.length).toNat = 0 := by omega
    rw [e, e0, List.take_zero, List.append_nil]
    have e1 : A.set n { A.ch n with queue := (A.ch n).queue } = A := by
      have : (A.set n { A.ch n with queue := (A.ch n).queue }).ch = A.ch := by
        funext m
        by_cases e : m = n
        · subst e
          rw [Co.set_same]
        · rw [Co.set_ne _ _ e]
      cases A
      simp only [Co.set] at this ⊢
      rw [this]
    have e2 : p.wr n [] = p := by
      cases p
      simp only [Bc.wr, List.append_nil]
      congr 1
      funext m
      split
      · rename_i z
        rw [z]
      · rfl
    rw [e1, e2]
    exact h
  · have e : room A.win (A.ch n) = A.win - (A.ch n).queue.length := by unfold room; rw [if_neg hr]
    refine h.write hn _ ?_ ?_ ?_
    · cases z : (A.ch n).rst with
      | none => rfl
      | some x => exact absurd (Or.inr (by rw [z]; rfl)) hr
    · cases z : (A.ch n).fin with
      | false => rfl
      | true => exact absurd (Or.inl z) hr
    · have := (h.sa.loc n).qw
      rw [List.length_take, e]
      omega
end
variable {W : LW} {wn : Bool → Int} {N : Nat} {t : Bool} {n : Int}
theorem WOk.open (h : WOk W wn N) (h4 : (W.c t).turns.length < 4) : WOk (W.app t (openC (W.c t)) (W.k t)) wn (N + 1) := h.app (fun F G a b c => c.open h4) rfl fun n => Nat.le_add_right _ _
theorem WOk.write (h : WOk W wn N) (hn : n ∈ (W.c t).turns) {os : List Int} (hl : os.length ≤ 12) :
    WOk (W.app t ((W.c t).set n { (W.c t).ch n with queue := ((W.c t).ch n).queue ++ os.take (min (room (W.c t).win ((W.c t).ch n)) os.length).toNat }) ((W.k t).wr n (os.take (min (room (W.c t).win ((W.c t).ch n)) os.length).toNat))) wn (N + 1) :=
  h.app (fun F G a b c => c.writeR hn os) rfl fun m => by
    show (if m = n then (W.k t).written n ++ _ else (W.k t).written m).length ≤ _
    split
    · rename_i e
      rw [e, List.length_append, List.length_take]
      omega
    · omega
theorem WOk.read (h : WOk W wn N) (hn : n ∈ (W.c t).turns) (k : Nat) : WOk (W.app t ((W.c t).set n { (W.c t).ch n with ready := ((W.c t).ch n).ready.drop k }) ((W.k t).gv n (((W.c t).ch n).ready.take k))) wn (N + 1) :=
  h.app (fun F G a b c => c.read hn k) rfl fun m => Nat.le_add_right _ _
theorem WOk.finish (h : WOk W wn N) (hn : n ∈ (W.c t).turns) : WOk (W.app t ((W.c t).set n { (W.c t).ch n with fin := true }) ((W.k t).fi n)) wn (N + 1) := h.app (fun F G a b c => c.finish hn) rfl fun m => Nat.le_add_right _ _
theorem WOk.reset (h : WOk W wn N) (hn : n ∈ (W.c t).turns) {k : Int} (hr : ((W.c t).ch n).rst = none) (hk : 0 ≤ k ∧ k ≤ 65535) : WOk (W.app t ((W.c t).set n (dropAll ((W.c t).ch n) true k)) ((W.k t).rs n k)) wn (N + 1) :=
  h.app (fun F G a b c => c.reset hn hr hk) rfl fun m => Nat.le_add_right _ _
theorem WOk.ready (h : WOk W wn N) (t : Bool) (n : Int) : ((W.k t).given n).length + ((W.c t).ch n).ready.length ≤ 12 * N := h.given t n
theorem LW.app_eq (W : LW) (t : Bool) (A : Co) (p : Bc) : (W.sS t A (W.out t) (W.inc t)).sB t p (W.wire t) = W.app t A p := by
  simp only [LW.sS, LW.sB, LW.app, up_self]
end Thl

/-! One step of the law. -/
namespace Thl
open PySem PySem.Spec PyProof.Rows L2 Evl
variable {P : Program} {w : World} {K : PySem.W.Frag} {mg : Str → Option Value} {base : Heap} {C D : Addr}
/-- the digits' state -/
def StO (o : Ow) (H : Hp) (s : Addr) : Prop := (∃ v : Int, H s = some (.lst [.int v])) ∧ o s = (4, 0, 0)
abbrev OfD : Role → Prop := fun r => r = (4, 0, 0)
section
variable {o o' : Ow} {H H' : Hp} {s sl bl : Addr} {p q : Bool → Addr} {W : LW} {t : Bool} {σ : L2.St} {te tm tv : TE} {Q : VK}
theorem StO.kw (h : StO o H s) (k : Keep OfW o H o' H') : StO o' H' s := by
  obtain ⟨⟨v, hv⟩, ho⟩ := h
  have := k _ _ hv (by rw [ho]; show ¬ (4 < 4); decide)
  exact ⟨⟨v, this.1⟩, this.2.trans ho⟩
theorem StO.ex (h : StO o H s) (e : Ex H H') : StO o H' s := ⟨h.1.imp fun v hv => e _ _ hv, h.2⟩
theorem go_digitB {m : Int} (h : StO o H s) (ht : Ev te σ H (.ref s)) (hm : Ev tm σ H (.int m)) (h0 : 0 < m) (h1 : m < 1073741824) (k : ∀ r H', 0 ≤ r → r < m → ExB s H H' → StO o H' s → Q (.int r) H') :
    tCall spDigit [] E0 (tCons te (tCons tm tNil)) σ H Q := by
  obtain ⟨⟨v, hv⟩, ho⟩ := h
  exact go_call (ea_cons ht (ea_cons hm ea_nil)) fun H1 e => ⟨s, v, m, rfl, e _ _ hv, h0, h1, fun r v' H' r0 r1 hB hS => k r H' r0 r1 (fun b x hb ne => hB _ _ (e _ _ hb) ne) ⟨⟨v', hS⟩, ho⟩⟩
theorem ExB.kp (h : ExB s H H') (ho : o s = (4, 0, 0)) : Keep OfD o H o H' := fun b x hb hs => ⟨h b x hb (fun e => hs (by rw [e, ho])), rfl⟩
/-- status(n)['reset'] is None -/
theorem et_stR {tn : TE} {i : Nat} {a : Addr} {A : Co} {og ic : List Int} {n : Int} (h : SdX C D o H i a A og ic) (hn : n ∈ A.turns) (hp : Ev te σ H (.ref a)) (hi : Ev tn σ H (.int n)) :
    EvT (tTest (tOp (fun x y H Q => y = .non ∧ Q (.bl (decide (x = .non))) H) (tDGet (tMeth D "status" (spSt C D) [] E0 te (tCons tn tNil)) (tC (.str "reset"))) (tC .non))) σ H ((A.ch n).rst.isNone) := fun H1 e Q q => by
  have h1 := h.ex e
  have h2 := h1
  obtain ⟨dx, d, ln, lt, lo, li, kvs, h1⟩ := h1
  refine go_meth (hp.mono e) h1.ob rfl (ea_cons (hi.mono e) ea_nil) fun H2 e2 => ⟨o, i, a, A, og, ic, n, rfl, h2.ex e2, hn, fun s t H3 hs e3 g3 _ => ⟨s, rstV (A.ch n).rst t, rfl, DGet.k (k := .inr "reset") g3, rfl, _, rfl, ?_⟩⟩
  have := q H3 (e2.trans e3)
  have er : decide (rstV (A.ch n).rst t = V.non) = (A.ch n).rst.isNone := by
    cases (A.ch n).rst with
    | none => rfl
    | some x => rfl
  rw [er]
  exact this
/-- _law_digit(state, m) -/
theorem go_digit {m : Int} (h : StO o H s) (ht : Ev te σ H (.ref s)) (hm : Ev tm σ H (.int m)) (h0 : 0 < m) (h1 : m < 1073741824) (k : ∀ r H', 0 ≤ r → r < m → Keep OfD o H o H' → StO o H' s → Q (.int r) H') :
    tCall spDigit [] E0 (tCons te (tCons tm tNil)) σ H Q := by
  obtain ⟨⟨v, hv⟩, ho⟩ := h
  refine go_call (ea_cons ht (ea_cons hm ea_nil)) fun H1 e => ⟨s, v, m, rfl, e _ _ hv, h0, h1, fun r v' H' r0 r1 hB hS => k r H' r0 r1 (fun b x hb hs => ⟨hB _ _ (e _ _ hb) ?_, rfl⟩) ⟨⟨v', hS⟩, ho⟩⟩
  rintro rfl
  exact hs ho
/-- kind == c and _law_digit(state, m) == 0 -/
theorem go_kd {c m kd : Int} {R : Bool → Hp → Prop} (h : StO o H s) (hv : Ev tv σ H (.int kd)) (ht : ∀ H1, Ex H H1 → Ev te σ H1 (.ref s)) (h0 : 0 < m) (h1 : m < 1073741824) (k : ∀ b H', Keep OfD o H o H' → StO o H' s → R b H') :
    tAnd (tTest (tOp rEq tv (tC (.int c)))) (tTest (tOp rEq (tCall spDigit [] E0 (tCons te (tCons (tC (.int m)) tNil))) (tC (.int 0)))) σ H R := by
  refine hv H (Ex.refl H) _ fun H1 e1 => ⟨rfl, _, rfl, ?_⟩
  by_cases z : V.int kd = V.int c
  · rw [decide_eq_true z]
    dsimp only
    rw [if_pos rfl]
    exact go_digit (h.ex e1) (ht H1 e1) ev_c h0 h1 fun r H2 r0 r1 k2 s2 => ⟨rfl, _, rfl, k _ H2 ((Keep.ex e1).trans k2) s2⟩
  · rw [decide_eq_false z]
    dsimp only
    rw [if_neg Bool.false_ne_true]
    exact k _ H1 (Keep.ex e1) (h.ex e1)
theorem WAt.app (h : WAt C D o H sl bl p q W) {A : Co} {B : Bc} (k : Keep (Of2 (ix t) (2 + ix t)) o H o' H') (s : SdX C D o' H' (ix t) (p t) A (W.out t) (W.inc t)) (b : BkX o' H' (2 + ix t) (q t) B (W.wire t)) : WAt C D o' H' sl bl p q (W.app t A B) := by
  have := h.both k s b
  rw [LW.app_eq] at this
  exact this
theorem Keep.oW (k : Keep (Of2 (ix t) (2 + ix t)) o H o' H') : Keep OfW o H o' H' := k.mono fun r z => by
  have := ix_le t
  show r.1 < 4
  rcases z with z | z <;> omega
end
def spStep (C D : Addr) : Sp := fun vs H Q _ => ∃ (o : Ow) (sl bl s : Addr) (p q : Bool → Addr) (W : LW) (wn : Bool → Int) (N : Nat), vs = [.ref sl, .ref bl, .ref s] ∧ WAt C D o H sl bl p q W ∧ WOk W wn N ∧ N ≤ 150 ∧ StO o H s ∧
  ∀ W' o' H', WAt C D o' H' sl bl p q W' → WOk W' wn (N + 2) → Keep OfX o H o' H' → Q (.bl true) H'
def nmStep : List Str := ["_law_sides", "_law_books", "_law_state", "_law_turn", "_law_side", "_law_book_here", "_law_kind", "_law_number", "_law_code", "_law_way", "_law_k"]
theorem scStep : FnScope nmStep ["_law_sides", "_law_books", "_law_state"] (defScope (top 26)) := ⟨rfl, rfl, rfl, by decide +kernel, rfl, by decide +kernel, by decide +kernel⟩
/-- what the step calls -/
structure StepC (P : Program) (w : World) (K : PySem.W.Frag) (mg : Str → Option Value) (base : Heap) (C D : Addr) : Prop where
  dig : Ft P w K mg base "_law_digit" 1 ["_law_state", "_law_many"] spDigit
  isi : Ft P w K mg base "_law_is_integer" 1 ["_law_told"] spIsI
  chan : Ft P w K mg base "_law_channel" 2 ["_law_side", "_law_state"] (spChan C D)
  lw : Ft P w K mg base "_law_write" 3 ["_law_side", "_law_book_here", "_law_number", "_law_octets"] (spLW C D)
  lr : Ft P w K mg base "_law_read" 3 ["_law_side", "_law_book_here", "_law_number", "_law_count"] (spLR C D)
  mv : Ft P w K mg base "_law_move" 6 ["_law_sides", "_law_books", "_law_turn", "_law_count"] (spMv C D)
  ln : LnB P w K mg base C D
  opn : Mt P w K mg base D "open_channel" 4 ["self"] (spOpen C D)
  fin : Mt P w K mg base D "finish" 2 ["self", "channel"] (spFin C D)
  rs : Mt P w K mg base D "reset" 2 ["self", "channel", "code"] (spRs C D)
  st : Mt P w K mg base D "status" 2 ["self", "channel"] (spSt C D)
  tk : Mt P w K mg base D "take" 4 ["self", "count"] (spTake C D)
theorem ok_step {f : Addr} {fd : FuncData} (F : Fun K "_law_step" "_law_step" (top 26) f fd) (T : Txt K mg C D) (M : StepC P w K mg base C D) : FnOk P w K mg base CX0 7 f fd ["_law_sides", "_law_books", "_law_state"] (spStep C D) := by
  refine F.ok scStep (fun vs H Q E h => ?_) (fun cdv A outer s0 H vs Q E hr h => ?_)
  · obtain ⟨o, sl, bl, s, p, q, W, wn, N, rfl, _⟩ := h
    rfl
  · obtain ⟨o, sl, bl, s, p, q, W, wn, N, rfl, h, hW, hN, hst, k⟩ := h
    have hu := hu_of hr
    have hr1 : Room 1 _ := hr.mono (by decide)
    have hr1' : Room (1 + 1) _ := hr.mono (by decide)
    have hr2 : Room 2 _ := hr.mono (by decide)
    have hr3 : Room 3 _ := hr.mono (by decide)
    have hr4 : Room 4 _ := hr.mono (by decide)
    refine ⟨_, pss_cons (ps_set (i := 3) scStep.nd rfl (.inl rfl) (pfn M.dig hr1 (pa_cons (pv 2) (pa_cons pe_int pa_nil))))
      (pss_cons (ps_set (i := 4) scStep.nd rfl (.inl rfl) (pe_ix ix_list (pv 0) (pv 3) (fun _ _ => rfl)))
      (pss_cons (ps_set (i := 5) scStep.nd rfl (.inl rfl) (pe_ix ix_list (pv 1) (pv 3) (fun _ _ => rfl)))
      (pss_cons (ps_set (i := 6) scStep.nd rfl (.inl rfl) (pfn M.dig hr1 (pa_cons (pv 2) (pa_cons pe_int pa_nil))))
      (pss_cons (ps_if (PW.pt (pw_or (pt_cmpR op_eq (pln M.ln fun _ _ m i F b => pe_callB (call_lenO m i F b hr1' pass0) (by rfl) T.len PySem.boot_len (pa_cons (pv 4) pa_nil)) pe_int (nomark _))
          (pw_or1 (PW.pt (pw_and (pt_cmpR op_eq (pv 6) pe_int (nomark _)) (pw_and1 (pt_cmpR op_lt (pln M.ln fun _ _ m i F b => pe_callB (call_lenO m i F b hr1' pass0) (by rfl) T.len PySem.boot_len (pa_cons (pv 4) pa_nil)) pe_int (nomark _))))))))
          (pss_one (ps_ret (pfn M.isi hr1 (pa_cons (pmt M.opn fun _ _ m g b => pe_meth0 (pv 4) T.clD m g hr4 b .nil pass0) pa_nil)))) pss_nil)
      (pss_cons (ps_set (i := 7) scStep.nd rfl (.inl rfl) (pfn M.chan hr2 (pa_cons (pv 4) (pa_cons (pv 2) pa_nil))))
      (pss_cons (ps_if (pt_cmpR op_lt (pv 6) pe_int (nomark _))
          (pss_one (ps_ret (pfn M.lw hr3 (pa_cons (pv 4) (pa_cons (pv 5) (pa_cons (pv 7) (pa_cons (pe_lc (own := [("_law_k", 10)]) (g := gName 10) rfl scStep.nd (pi_range1 (by rfl) T.range (pa_cons (pfn M.dig hr1 (pa_cons (pv 2) (pa_cons pe_int pa_nil))) pa_nil)) (blkOk_by (own := [("_law_k", 10)]) (N := nmStep) (sc := defScope (top 26)) (by decide +kernel))
              (fun _ _ _ _ _ => pg_name (i := 10) scStep.nd rfl (Or.inl rfl)) (fun _ _ _ _ _ => pts_nil) (fun _ _ _ _ _ => pfn M.dig hr1 (pa_cons (pv 2) (pa_cons pe_int pa_nil)))) pa_nil))))))) pss_nil)
      (pss_cons (ps_if (pt_cmpR op_lt (pv 6) pe_int (nomark _)) (pss_one (ps_ret (pfn M.lr hr3 (pa_cons (pv 4) (pa_cons (pv 5) (pa_cons (pv 7) (pa_cons (pfn M.dig hr1 (pa_cons (pv 2) (pa_cons pe_int pa_nil))) pa_nil))))))) pss_nil)
      (pss_cons (ps_if (PW.pt (pw_and (pt_cmpR op_eq (pv 6) pe_int (nomark _)) (pw_and1 (pt_cmpR op_eq (pfn M.dig hr1 (pa_cons (pv 2) (pa_cons pe_int pa_nil))) pe_int (nomark _)))))
          (pss_cons (ps_expr (pmt M.fin fun _ _ m g b => pe_meth (pv 4) T.clD m g hr2 b .nil pass0 (pa_cons (pv 7) pa_nil))) (pss_one (ps_dput hu (pe_dget hu (pv 5) pe_str (fun _ _ => rfl)) (pv 7) pe_bl rfl)))
          (pss_one (ps_if (PW.pt (pw_and (pt_cmpR op_eq (pv 6) pe_int (nomark _)) (pw_and1 (pt_cmpR op_eq (pfn M.dig hr1 (pa_cons (pv 2) (pa_cons pe_int pa_nil))) pe_int (nomark _)))))
            (pss_cons (ps_set (i := 8) scStep.nd rfl (.inl rfl) (pfn M.dig hr1 (pa_cons (pv 2) (pa_cons pe_int pa_nil))))
              (pss_cons (ps_if (pt_cmpR op_isN (pe_dget hu (pmt M.st fun _ _ m g b => pe_meth (pv 4) T.clD m g hr2 b .nil pass0 (pa_cons (pv 7) pa_nil)) pe_str (fun _ _ => rfl)) pe_non (nomark _)) (pss_one (ps_dput hu (pe_dget hu (pv 5) pe_str (fun _ _ => rfl)) (pv 7) (pv 8) rfl)) pss_nil)
              (pss_one (ps_expr (pmt M.rs fun _ _ m g b => pe_meth (pv 4) T.clD m g hr2 b .nil pass0 (pa_cons (pv 7) (pa_cons (pv 8) pa_nil)))))))
            (pss_one (ps_if (pt_cmpR op_lt (pv 6) pe_int (nomark _))
              (pss_one (ps_expr (pe_bm PySem.F.plainAttrs_list PySem.F.slot_list_extend PySem.F.type_list_extend mt_extend (pe_dget hu (pv 5) pe_str (fun _ _ => rfl)) (pa_cons (pmt M.tk fun _ _ m g b => pe_meth (pv 4) T.clD m g hr4 b .nil pass0 (pa_cons (pfn M.dig hr1 (pa_cons (pv 2) (pa_cons pe_int pa_nil))) pa_nil)) pa_nil))))
              (pss_one (ps_if (pt_cmpR op_lt (pv 6) pe_int (nomark _))
                (pss_one (ps_for PassesOwn.never rfl (pi_range1 (by rfl) T.range (pa_cons pe_int pa_nil)) (pg_name (i := 9) scStep.nd rfl (Or.inl rfl))
                  (pss_cons (ps_expr (pe_bm PySem.F.plainAttrs_list PySem.F.slot_list_extend PySem.F.type_list_extend mt_extend (pe_dget hu (pe_ix ix_list (pv 1) (pv 9) (fun _ _ => rfl)) pe_str (fun _ _ => rfl)) (pa_cons (pmt M.tk fun _ _ m g b => pe_meth (pe_ix ix_list (pv 0) (pv 9) (fun _ _ => rfl)) T.clD m g hr4 b .nil pass0 (pa_cons pe_int pa_nil)) pa_nil)))
                  (pss_one (ps_if (pt_not (pt_val (pfn M.mv hr (pa_cons (pv 0) (pa_cons (pv 1) (pa_cons (pv 9) (pa_cons pe_int pa_nil))))))) (pss_one ps_never) pss_nil)))))
                (pss_one (ps_ret (pfn M.mv hr (pa_cons (pv 0) (pa_cons (pv 1) (pa_cons (pv 3) (pa_cons (pfn M.dig hr1 (pa_cons (pv 2) (pa_cons pe_int pa_nil))) pa_nil))))))))))))))
      (pss_one (ps_ret pe_bl)))))))))), ?_⟩
    -- turn
    refine go_digit hst (ev_var rfl) ev_c (by decide) (by decide) fun r0 H1 a0 a1 k1 st1 => ?_
    obtain ⟨t, rfl⟩ : ∃ t, r0 = (ix t : Int) := by
      have : r0 = 0 ∨ r0 = 1 := by omega
      rcases this with rfl | rfl
      · exact ⟨false, rfl⟩
      · exact ⟨true, rfl⟩
    have h1 := h.st k1
    dsimp only
    refine q_asg (v := .ref (p t)) (h1.e_side (ev_var rfl) (ev_var rfl)) fun H2 e2 => ?_
    have h2 := h1.ex e2
    refine q_asg (v := .ref (q t)) (h2.e_book (ev_var rfl) (ev_var rfl)) fun H3 e3 => ?_
    have h3 := h2.ex e3
    have st3 := (st1.ex e2).ex e3
    have k3 := (k1.trans (Keep.ex (e2.trans e3)))
    refine go_digit st3 (ev_var rfl) ev_c (by decide) (by decide) fun kd H4 _ _ k4 st4 => ?_
    have h4 := h3.st k4
    have kk4 : Keep OfX o H o H4 := (k3.trans k4).tX
    dsimp only
    obtain ⟨an, si⟩ := hW.sinv t
    have hlen : (W.c t).nums.length = (W.c t).turns.length := si.prm.length_eq
    have ht8 := turns_len si
    -- open
    refine q_when (et_or (et_test (ev_op (ev_lenO (h4.sd t) (by omega) (ev_var rfl)) ev_c (rv_eq rfl))) fun _ => et_and (et_test (ev_op (ev_var rfl) ev_c (rv_eq rfl))) fun _ => et_test (ev_op (ev_lenO (h4.sd t) (by omega) (ev_var rfl)) ev_c rv_I0)) (fun hb H5 e5 => ?_) fun hb H5 e5 => ?_
    · have h4t : (W.c t).turns.length < 4 := by
        rw [hlen] at hb
        simp only [Bool.or_eq_true, Bool.and_eq_true, decide_eq_true_eq, V.int.injEq] at hb
        omega
      have h5 := h4.ex e5
      have hsd := h5.sd t
      have hsx := hsd
      obtain ⟨dx, d, ln, lt', lo, li, kvs, hd⟩ := hsd
      have ho4 : (W.c t).opened < 4 := by
        have := si.len
        omega
      refine go_meth (ev_var rfl) hd.ob rfl ea_nil fun H6 e6 => ?_
      refine ⟨o, ix t, p t, W.c t, W.out t, W.inc t, rfl, hsx.ex e6, by omega, (si.open ho4).2.1, by omega, by omega, fun o' H' hx kx => ?_⟩
      refine ⟨_, rfl, fun H7 e7 => ?_⟩
      have kk := kx.mono (S' := Of2 (ix t) (2 + ix t)) fun r z => .inl z
      have b6 := ((h5.ex e6).bk t).keep kx fun r hr z => by
        have z : r.1 = ix t := z
        omega
      have w6 := (h5.ex e6).app kk hx b6
      exact k _ o' H7 (w6.ex e7) ((hW.open h4t).mono (by omega)) (((kk4.trans (Keep.ex (e5.trans e6))).trans kx.sW.wX).trans (Keep.ex e7))
    have hne : (W.c t).nums ≠ [] := by
      intro z
      rw [z] at hb
      simp at hb
    have h5 := h4.ex e5
    have st5 := st4.ex e5
    -- number
    obtain ⟨⟨v5, hv5⟩, os5⟩ := st5
    refine go_call (ea_cons (ev_var rfl) (ea_cons (ev_var rfl) ea_nil)) fun H6 e6 => ?_
    refine ⟨o, ix t, p t, s, W.c t, W.out t, W.inc t, v5, rfl, (h5.ex e6).sd t, e6 _ _ hv5, hne, by omega, fun n v7 H7 hn hB hS => ?_⟩
    have k7 : Keep OfD o H6 o H7 := fun b x hb hs => ⟨hB b x hb (fun e => hs (by rw [e, os5])), rfl⟩
    have h7 := (h5.ex e6).st k7
    have st7 : StO o H7 s := ⟨⟨v7, hS⟩, os5⟩
    have kk7 : Keep OfX o H o H7 := (kk4.trans (Keep.ex (e5.trans e6))).trans k7.tX
    have hnt : n ∈ (W.c t).turns := (si.nm n).mp hn
    have hn8 := si.bound hnt
    have loc := si.loc n
    have lt1 := ix_le t
    have hij : ix t ≠ 2 + ix t ∧ ix t ≠ 9 ∧ 2 + ix t ≠ 9 := by omega
    clear hst h1 h2 h3 h4 h5 st1 st3 st4 k1 k3 k4 kk4 h
    dsimp only
    have hw400 := hW.wl t
    have hol := hW.ol t
    have hil := hW.il (!t)
    -- write
    refine q_when (et_test (ev_op (ev_var rfl) ev_c rv_I0)) (fun hb H8 e8 => ?_) fun hb H8 e8 => ?_
    · refine ⟨_, rfl, _, rfl, _, rfl, ?_⟩
      refine go_digit (st7.ex e8) (ev_var rfl) ev_c (by decide) (by decide) fun m H9 m0 m1 k9 st9 => ?_
      refine ⟨m, rfl, by omega, by omega, fun Dl hD => ?_⟩
      have nds : Dl ≠ s := by
        obtain ⟨⟨v, hv⟩, _⟩ := st9
        exact (ne_of_none hv hD).symm
      refine lc_range (lo := 0) (n := m.toNat) (fun i H' => ∃ os : List Int, os.length = i ∧ H' Dl = some (.lst (il os)) ∧ ExB s H9 H' ∧ StO o H' s) ⟨[], rfl, upd_same, fun b x hb _ => Ex.new hD _ _ hb, st9.ex (Ex.new hD)⟩ ?_ ?_
      · rintro i H10 hi ⟨os, ol, hl, hB, st10⟩
        refine ⟨rfl, ?_⟩
        unfold tYes
        dsimp only
        rw [if_pos rfl]
        refine go_digitB st10 (ev_var rfl) ev_c (by decide) (by decide) fun d H11 d0 d1 k11 st11 => ?_
        refine ⟨il os, k11 _ _ hl nds, sz_lt (by rw [il_length]; omega), os ++ [d], by rw [List.length_append, ol]; rfl, ?_, fun b x hb ne => ?_, ?_⟩
        · rw [upd_same]
          simp [il]
        · rw [upd_ne (ne_of_none hb hD)]
          exact k11 _ _ (hB _ _ hb ne) ne
        · obtain ⟨⟨v, hv⟩, ho⟩ := st11
          exact ⟨⟨v, by rw [upd_ne nds.symm]; exact hv⟩, ho⟩
      · rintro H10 ⟨os, ol, hl, hB, st10⟩
        have k10 : Keep OfD o H9 (o.put Dl tmpR) H10 := (hB.kp os5).own hD
        have h9 := (h7.ex e8).st k9
        have h10 := h9.st k10
        have wr := hW.wr t n
        have w12 := si.w12
        have qw := loc.qw
        refine ⟨o.put Dl tmpR, ix t, 2 + ix t, p t, q t, Dl, W.c t, W.out t, W.inc t, W.k t, W.wire t, n, os, rfl, h10.sd t, h10.bk t, hij, hnt, hn8, hl, put_same, qw, by omega, by omega, fun o' H' hx hb kx => ?_⟩
        exact k _ o' H' (h10.app kx hx hb) ((hW.write hnt (by omega)).mono (by omega)) ((((kk7.trans (Keep.ex e8)).trans k9.tX).trans k10.tX).trans kx.oW.wX)
    -- read
    have h8 := h7.ex e8
    have st8 := st7.ex e8
    have kk8 := kk7.trans (Keep.ex e8)
    clear h7 st7 kk7
    refine q_when (et_test (ev_op (ev_var rfl) ev_c rv_I0)) (fun hb H9 e9 => ?_) fun hb H9 e9 => ?_
    · refine ⟨_, rfl, _, rfl, _, rfl, ?_⟩
      refine go_digit (st8.ex e9) (ev_var rfl) ev_c (by decide) (by decide) fun c H10 c0 c1 k10 st10 => ?_
      have h10 := (h8.ex e9).st k10
      have hg := hW.ready t n
      refine ⟨o, ix t, 2 + ix t, p t, q t, W.c t, W.out t, W.inc t, W.k t, W.wire t, n, c, rfl, h10.sd t, h10.bk t, hij, hnt, hn8, c0, by omega, fun o' H' hx hb _ kx0 => ?_⟩
      have kx := kx0.mono (S' := Of2 (ix t) (2 + ix t)) fun r z => z.imp (·.1) id
      exact k _ o' H' (h10.app kx hx hb) ((hW.read hnt c.toNat).mono (by omega)) (((kk8.trans (Keep.ex e9)).trans k10.tX).trans kx.oW.wX)
    have h9 := h8.ex e9
    have st9 := st8.ex e9
    have kk9 := kk8.trans (Keep.ex e9)
    clear h8 st8 kk8
    -- finish
    refine go_kd st9 (ev_var rfl) (fun _ _ => ev_var rfl) (by decide) (by decide) fun b H10 k10 st10 => ?_
    have h10 := h9.st k10
    have kk10 := kk9.trans k10.tX
    clear h9 st9 kk9
    dsimp only
    cases b with
    | true =>
      refine (if_pos rfl).mpr ?_
      have hsd := h10.sd t
      have hsx := hsd
      obtain ⟨dx, d, ln, lt', lo, li, kvs, hd⟩ := hsd
      refine q_meth (ev_var rfl) hd.ob rfl (ea_cons (ev_var rfl) ea_nil) fun H11 e11 => ?_
      refine ⟨o, ix t, p t, W.c t, W.out t, W.inc t, n, rfl, hsx.ex e11, hnt, fun o' H' hx kx => ?_⟩
      have b12 := ((h10.ex e11).bk t).keep kx fun r hr z => by
        have z : r.1 = ix t := z
        omega
      obtain ⟨tv, wr, gv, fi, rs, wd, kw, kg, kf, kr, b⟩ := b12
      refine s_dput (n := .inl n) ev_c (b.e_f (ev_var rfl)) b.hf (ev_var rfl) (by have := b.lf.bd; omega) fun H13 e13 => ?_
      have kb : Keep (OfS (2 + ix t)) o' H' o' (upd H13 fi (.dK (putK kf (.inl n) (.bl true)))) := (Keep.ex e13).upd fun _ _ => by rw [b.of]
      have kk := (kx.mono (S' := Of2 (ix t) (2 + ix t)) fun r z => .inl z).trans (kb.mono fun r z => .inr z)
      have hx' := hx.keep kb fun r hr z => by
        have z : r.1 = 2 + ix t := z
        omega
      exact k _ o' _ ((h10.ex e11).app kk hx' ⟨tv, wr, gv, fi, rs, wd, kw, kg, _, kr, (b.ex e13).set_f hn8⟩) ((hW.finish hnt).mono (by omega)) ((kk10.trans (Keep.ex e11)).trans kk.oW.wX)
    | false =>
      refine (if_neg Bool.false_ne_true).mpr ?_
      -- reset
      refine go_kd st10 (ev_var rfl) (fun _ _ => ev_var rfl) (by decide) (by decide) fun b H11 k11 st11 => ?_
      have h11 := h10.st k11
      have kk11 := kk10.trans k11.tX
      clear h10 st10 kk10
      cases b with
      | true =>
        refine (if_pos rfl).mpr ?_
        refine go_digit st11 (ev_var rfl) ev_c (by decide) (by decide) fun c H12 c0 c1 k12 st12 => ?_
        have h12 := h11.st k12
        have kk12 := kk11.trans k12.tX
        dsimp only
        refine q_when (et_stR (h12.sd t) hnt (ev_var rfl) (ev_var rfl)) (fun hb H13 e13 => ?_) fun hb H13 e13 => ?_
        · have hr0 : ((W.c t).ch n).rst = none := by
            cases z : ((W.c t).ch n).rst with
            | none => rfl
            | some x => rw [z] at hb; cases hb
          have h13 := h12.ex e13
          have b13 := h13.bk t
          obtain ⟨tv, wr, gv, fi, rs, wd, kw, kg, kf, kr, b⟩ := b13
          refine s_dput (n := .inl n) (v := .int c) (ev_var rfl) (b.e_r (ev_var rfl)) b.hr (ev_var rfl) (by have := b.lr.bd; omega) fun H14 e14 => ?_
          have kb : Keep (OfS (2 + ix t)) o H13 o (upd H14 rs (.dK (putK kr (.inl n) (.int c)))) := (Keep.ex e14).upd fun _ _ => by rw [b.or]
          have h14 := h13.book kb ⟨tv, wr, gv, fi, rs, wd, kw, kg, kf, _, (b.ex e14).set_r hn8⟩
          have hsd := h14.sd t
          have hsx := hsd
          obtain ⟨dx, d, ln, lt', lo, li, kvs, hd⟩ := hsd
          refine s_meth (ev_var rfl) hd.ob rfl (ea_cons (ev_var rfl) (ea_cons (ev_var rfl) ea_nil)) fun H15 e15 => ?_
          refine ⟨o, ix t, p t, W.c t, W.out t, W.inc t, n, c, rfl, hsx.ex e15, hnt, ⟨c0, by omega⟩, fun o' H' hx kx => ?_⟩
          rw [if_pos hr0] at hx
          have h16 := (h14.ex e15).side kx hx
          have ew : (W.sB t ((W.k t).rs n c) (W.wire t)).sS t ((W.c t).set n (dropAll ((W.c t).ch n) true c)) (W.out t) (W.inc t) = W.app t ((W.c t).set n (dropAll ((W.c t).ch n) true c)) ((W.k t).rs n c) := by
            simp only [LW.sS, LW.sB, LW.app, up_self]
          rw [ew] at h16
          exact k _ o' H' h16 ((hW.reset hnt hr0 ⟨c0, by omega⟩).mono (by omega)) ((((kk12.trans (Keep.ex e13)).trans kb.bW.wX).trans (Keep.ex e15)).trans kx.sW.wX)
        · have hr0 : ((W.c t).ch n).rst ≠ none := by
            intro z
            rw [z] at hb
            cases hb
          have h13 := h12.ex e13
          have hsd := h13.sd t
          have hsx := hsd
          obtain ⟨dx, d, ln, lt', lo, li, kvs, hd⟩ := hsd
          refine s_meth (ev_var rfl) hd.ob rfl (ea_cons (ev_var rfl) (ea_cons (ev_var rfl) ea_nil)) fun H15 e15 => ?_
          refine ⟨o, ix t, p t, W.c t, W.out t, W.inc t, n, c, rfl, hsx.ex e15, hnt, ⟨c0, by omega⟩, fun o' H' hx kx => ?_⟩
          rw [if_neg hr0] at hx
          have h16 := (h13.ex e15).side kx hx
          have ew : W.sS t (W.c t) (W.out t) (W.inc t) = W := by
            simp only [LW.sS, up_self]
          rw [ew] at h16
          exact k _ o' H' h16 (hW.mono (by omega)) (((kk12.trans (Keep.ex e13)).trans (Keep.ex e15)).trans kx.sW.wX)
      | false =>
        refine (if_neg Bool.false_ne_true).mpr ?_
        -- take
        refine s_if (et_test (ev_op (ev_var rfl) ev_c rv_I0)) (fun hb H12 e12 => ?_) fun hb H12 e12 => ?_
        · refine s_takeW (Cn := fun c => 0 ≤ c ∧ c < 31) (h11.ex e12) ⟨an, si⟩ (by omega) (ev_var rfl) (ev_var rfl) (fun H1 e1 Q q => go_digit ((st11.ex e12).ex e1) (ev_var rfl) ev_c (by decide) (by decide) fun r H2 r0 r1 k2 st2 => q r H2 ⟨r0, r1⟩ k2) (fun c hc => ⟨hc.1, by omega⟩)
            fun c fs A' o' H' hc hm _ hl w' k' => ?_
          exact k _ o' H' w' ((hW.take (n := c.toNat) (by omega) hm fun gs g e => by have := hl gs g e; omega).mono (by omega)) ((kk11.trans (Keep.ex e12)).trans k')
        -- exchange
        have h12 := h11.ex e12
        have st12 := st11.ex e12
        have kk12 := kk11.trans (Keep.ex e12)
        clear h11 st11 kk11
        refine s_if (et_test (ev_op (ev_var rfl) ev_c rv_I0)) (fun hb H13 e13 => ?_) fun hb H13 e13 => ?_
        · refine s_forR1 (n := 2) (ea_cons ev_c ea_nil) ⟨by decide, by decide⟩ (fun i σ' H' => (∃ v9, σ' = [some (.ref sl), some (.ref bl), some (.ref s), some (.int (ix t : Int)), some (.ref (p t)), some (.ref (q t)), some (.int kd), some (.int n), none, v9, none]) ∧
              ∃ W' o', WAt C D o' H' sl bl p q W' ∧ WOk W' wn (N + i) ∧ Keep OfX o H o' H') (fun H1 e1 => ⟨⟨none, rfl⟩, W, o, (h12.ex e13).ex e1, hW, (kk12.trans (Keep.ex e13)).trans (Keep.ex e1)⟩) ?_ ?_
          · rintro i σ' H14 hi ⟨⟨v9, rfl⟩, W', o', w14, wk14, k14⟩
            obtain ⟨u, rfl⟩ := ix_of (i := i) (by omega)
            have hu1 := ix_le u
            have u400 := wk14.wl u
            have uol := wk14.ol u
            refine q_takeW (Cn := fun c => c = 400) w14 (wk14.sinv u) (by omega) (w14.e_book (ev_var rfl) (ev_var rfl)) (w14.e_side (ev_var rfl) (ev_var rfl)) (fun H1 e1 Q q => q 400 H1 rfl Keep.refl) (fun c hc => ⟨by omega, by omega⟩)
              fun c fs A' o2 H15 hc hm _ hl w15 k15 => ?_
            subst hc
            have wk15 := wk14.take (n := 400) (by omega) hm fun gs g e => by have := hl gs g e; omega
            obtain ⟨fs2, rest, B, m1, m2, m3, m4⟩ := wk15.move (t := u) 4000
            have u4 := wk15.wl u
            have ui := wk15.il (!u)
            refine go_call (ea_cons (ev_var rfl) (ea_cons (ev_var rfl) (ea_cons (ev_var rfl) (ea_cons ev_c ea_nil)))) fun H16 e16 => ?_
            refine ⟨o2, sl, bl, p, q, W'.takeW u A' fs 400, u, 4000, fs2, rest, B, rfl, w15.ex e16, m1, m2, m3, by omega, by omega, fun o3 H17 w17 k17 => ⟨true, rfl, ?_⟩⟩
            refine (if_neg (by decide)).mpr ?_
            exact ⟨⟨_, rfl⟩, _, o3, w17, m4, ((k14.trans k15).trans (Keep.ex e16)).trans k17.wX⟩
          · rintro σ' H14 ⟨⟨v9, rfl⟩, W', o', w14, wk14, k14⟩
            exact k _ o' H14 w14 wk14 k14
        · refine ⟨_, rfl, _, rfl, _, rfl, ?_⟩
          refine go_digit (st12.ex e13) (ev_var rfl) ev_c (by decide) (by decide) fun c H14 c0 c1 k14 st14 => ?_
          obtain ⟨m, rfl⟩ : ∃ m : Nat, c = (m : Int) := ⟨c.toNat, by omega⟩
          have h14 := (h12.ex e13).st k14
          obtain ⟨fs2, rest, B, m1, m2, m3, m4⟩ := hW.move (t := t) m
          refine ⟨o, sl, bl, p, q, W, t, m, fs2, rest, B, rfl, h14, m1, m2, m3, by omega, by omega, fun o3 H17 w17 k17 => ?_⟩
          exact k _ o3 H17 w17 (m4.mono (by omega)) (((kk12.trans (Keep.ex e13)).trans k14.tX).trans k17.wX)
end Thl

/-! What the law asks at every moment. -/
namespace Thl
open PySem PySem.Spec PyProof.Rows L2 Evl
variable {P : Program} {w : World} {K : PySem.W.Frag} {mg : Str → Option Value} {base : Heap} {C D : Addr}
theorem hu64_of {A : Around} {k : Nat} (hr : Room k A) : A.units + 64 < cLine := by have := hr.un; omega
theorem q_asgE {σ : L2.St} {H : Hp} {te : TE} {tz : TS} {E : Ends} {i : Nat} {xs : List V} (h : EvM te σ H xs) (k : ∀ p H1, Ex H H1 → H1 p = some (.lst xs) → tz E (σ.set i (some (.ref p))) H1) : tSeq (tAsg te (gName i)) tz E σ H := h H (Ex.refl H) _ fun p H1 e h1 => k p H1 e h1
def spHold (C D : Addr) : Sp := fun vs H Q _ => ∃ (o : Ow) (i j j' : Nat) (p q q' : Addr) (A Z : Co) (og ic : List Int) (B B' : Bc) (wi wi' : List Int) (F G : List Fr) (a b : Nat), vs = [.ref p, .ref q, .ref q', .int A.win] ∧ SdX C D o H i p A og ic ∧ BkX o H j q B wi ∧ BkX o H j' q' B' wi' ∧
  CInv A Z B B' F G a b ∧ RetV (.bl true) H Q
theorem scHold : FnScope ["_law_side", "_law_book_here", "_law_far", "_law_window", "_law_number", "_law_told", "_law_given", "_law_written", "_law_reset"] ["_law_side", "_law_book_here", "_law_far", "_law_window"] (defScope (top 28)) := ⟨rfl, rfl, rfl, by decide +kernel, rfl, by decide +kernel, by decide +kernel⟩
theorem ok_hold {f : Addr} {fd : FuncData} (F : Fun K "_law_holds" "_law_holds" (top 28) f fd) (T : Txt K mg C D) (I : ItB P w K mg base D) (M1 : Mt P w K mg base D "status" 2 ["self", "channel"] (spSt C D)) :
    FnOk P w K mg base CX0 3 f fd ["_law_side", "_law_book_here", "_law_far", "_law_window"] (spHold C D) := by
  refine F.ok scHold (fun vs H Q E h => ?_) (fun cdv A0 outer s0 H vs Q E hr h => ?_)
  · obtain ⟨o, i, j, j', p, q, q', A, Z, og, ic, B, B', wi, wi', F, G, a, b, rfl, _⟩ := h
    rfl
  · obtain ⟨o, i, j, j', p, q, q', A, Z, og, ic, B, B', wi, wi', F, G, a, b, rfl, hx, hb, hb', ci, k⟩ := h
    have hu := hu_of hr
    have hu64 := hu64_of hr
    have hr1 : Room 1 _ := hr.mono (by decide)
    refine ⟨_, pss_cons (ps_if (pt_cmpR op_notN (pe_fld (pv 0) rfl) pe_non (nomark _)) (pss_one ps_never) pss_nil)
      (pss_cons (ps_for PassesOwn.never rfl (pit I fun _ _ m1 m2 m3 m4 => pi_own m1 m2 m3 m4 hr1 (pv 0)) (pg_name (i := 4) scHold.nd rfl (Or.inl rfl))
        (pss_cons (ps_set (i := 5) scHold.nd rfl (.inl rfl) (pmt M1 fun _ _ m g b => pe_meth (pv 0) T.clD m g hr b .nil pass0 (pa_cons (pv 4) pa_nil)))
        (pss_cons (ps_set (i := 6) scHold.nd rfl (.inl rfl) (pe_dget2 hu (pe_dget hu (pv 1) pe_str (fun _ _ => rfl)) (pv 4) (pe_lst pa_nil) ⟨rfl, rfl, rfl, rfl⟩))
        (pss_cons (ps_set (i := 7) scHold.nd rfl (.inl rfl) (pe_dget2 hu (pe_dget hu (pv 2) pe_str (fun _ _ => rfl)) (pv 4) (pe_lst pa_nil) ⟨rfl, rfl, rfl, rfl⟩))
        (pss_cons (ps_if (PW.pt (pw_or (pt_cmpR (op_neD hu64) (pe_slice sl_list (pv 7) po_none (po_some (pe_callB call_len_seq (by rfl) T.len PySem.boot_len (pa_cons (pv 6) pa_nil)))) (pv 6) (nomark _))
            (pw_or (pt_cmpR op_gt (pe_dget hu (pv 5) pe_str (fun _ _ => rfl)) (pv 3) (nomark _)) (pw_or1 (pt_cmpR op_gt (pe_dget hu (pv 5) pe_str (fun _ _ => rfl)) (pv 3) (nomark _)))))) (pss_one ps_never) pss_nil)
        (pss_cons (ps_if (PW.pt (pw_and (pt_val (pe_dget hu (pv 5) pe_str (fun _ _ => rfl))) (pw_and1 (PW.pt (pw_or (pt_cmpR (op_neD hu64) (pv 6) (pv 7) (nomark _)) (pw_or1 (pt_cmp (pc_dnotin hu (pv 4) (pe_dget hu (pv 2) pe_str (fun _ _ => rfl)))))))))) (pss_one ps_never) pss_nil)
        (pss_cons (ps_set (i := 8) scHold.nd rfl (.inl rfl) (pe_dget hu (pv 5) pe_str (fun _ _ => rfl)))
        (pss_cons (ps_if (PW.pt (pw_and (pt_cmpR op_notN (pv 8) pe_non (nomark _)) (pw_and (pt_cmpR op_eq (pe_ix ix_tup (pv 8) pe_int (fun _ _ => rfl)) pe_str (nomark _)) (pw_and1 (pt_cmpR op_ne (pe_dget1 hu (pe_dget hu (pv 2) pe_str (fun _ _ => rfl)) (pv 4) ⟨rfl, rfl, rfl, rfl⟩) (pe_ix ix_tup (pv 8) pe_int (fun _ _ => rfl)) (nomark _)))))) (pss_one ps_never) pss_nil)
        (pss_one (ps_if (PW.pt (pw_and (pt_cmpR op_notN (pv 8) pe_non (nomark _)) (pw_and (pt_cmpR op_eq (pe_ix ix_tup (pv 8) pe_int (fun _ _ => rfl)) pe_str (nomark _)) (pw_and1 (pt_cmpR op_ne (pe_dget1 hu (pe_dget hu (pv 1) pe_str (fun _ _ => rfl)) (pv 4) ⟨rfl, rfl, rfl, rfl⟩) (pe_ix ix_tup (pv 8) pe_int (fun _ _ => rfl)) (nomark _)))))) (pss_one ps_never) pss_nil))))))))))
      (pss_one (ps_ret pe_bl))), ?_⟩
    have hsx := hx
    obtain ⟨dx, d, ln, lt, lo, li, kvs, h⟩ := hx
    obtain ⟨tv, wr, gv, fi, rs, wd, kw, kg, kf, kr, b1⟩ := hb
    obtain ⟨tv', wr', gv', fi', rs', wd', kw', kg', kf', kr', b2⟩ := hb'
    refine q_when (b := false) (et_is (et_test (ev_op (h.e_failure T (ev_var rfl)) ev_c rv_notN)) rfl) (fun h => nomatch h) fun _ H1 e1 => ?_
    refine q_forOwn (lk := lkN) (ev_var rfl) (h.ex e1).ob rfl (h.ex e1).nn (fun i' σ' H' => (∃ v4 v5 v6 v7 v8, σ' = [some (.ref p), some (.ref q), some (.ref q'), some (.int A.win), v4, v5, v6, v7, v8]) ∧ Ex H H') (fun H2 e2 => ⟨⟨none, none, none, none, none, rfl⟩, e1.trans e2⟩) (fun i' σ' H' _ hp => sq_of ((h.ex hp.2).nn)) ?_ ?_
    · rintro i' x σ' H2 hx2 ⟨⟨v4, v5, v6, v7, v8, rfl⟩, e2⟩
      obtain ⟨n, hn, rfl⟩ := il_get hx2
      have hnn : n ∈ A.nums := List.mem_of_getElem? hn
      have hnt : n ∈ A.turns := (ci.sa.nm n).mp hnn
      have loc := ci.sa.loc n
      have h2 := h.ex e2
      refine q_asgM (ev_var rfl) h2.ob rfl (ea_cons (ev_var rfl) ea_nil) fun H3 e3 => ?_
      have e03 := e2.trans e3
      refine ⟨o, i, p, A, og, ic, n, rfl, hsx.ex e03, hnt, fun sa ta H4 hs4 e4 g4 r4 => ?_⟩
      have e04 := e03.trans e4
      refine q_asgE (em_get ((b1.ex e04).e_g (ev_var rfl)) (b1.ex e04).hg (b1.ex e04).cg (ev_var rfl)) fun lg H5 e5 g5 => ?_
      have e05 := e04.trans e5
      refine q_asgE (em_get ((b2.ex e05).e_w (ev_var rfl)) (b2.ex e05).hw (b2.ex e05).cw (ev_var rfl)) fun lw H6 e6 g6 => ?_
      have e06 := e05.trans e6
      have g6g := e6 _ _ g5
      have g6s := e6 _ _ (e5 _ _ g4)
      obtain ⟨x, ex⟩ := ci.symm.prefix n
      have d0 := loc.d0
      have dw := loc.dw
      have qw := loc.qw
      -- test 1
      have hcut := el_slM (K := K) (tl := tNoPart) (evm_ref (ev_var (i := 7) (σ := [some (.ref p), some (.ref q), some (.ref q'), some (.int A.win), some (.int n), some (.ref sa), some (.ref lg), some (.ref lw), v8]) rfl) g6) eo_none (eo_some (ev_lenM (K := K) (evm_ref (ev_var (i := 6) rfl) g6g)))
      rw [il_length, cut_take (by omega), Int.toNat_natCast] at hcut
      have etake : (B'.written n).take (B.given n).length = B.given n := by
        rw [ex, List.append_assoc, List.take_left]
      rw [etake] at hcut
      refine q_when (b := false) (et_or (a := false) (b := false) (et_is (et_test (ev_neIL (evm_new hcut) (evm_ref (ev_var rfl) g6g))) (by rw [decide_eq_true rfl]; rfl)) fun _ => et_or (a := false) (b := false)
        (et_is (et_test (ev_op (ev_dget (n := .inr "readable") (ev_var rfl) g6s ev_c rfl) (ev_var rfl) rv_I0)) (decide_eq_false (by omega))) fun _ => et_is (et_test (ev_op (ev_dget (n := .inr "waiting") (ev_var rfl) g6s ev_c rfl) (ev_var rfl) rv_I0)) (decide_eq_false (by omega))) (fun h => nomatch h) fun _ H7 e7 => ?_
      have e07 := e06.trans e7
      have g7s := e7 _ _ g6s
      have g7g := e7 _ _ g6g
      have g7w := e7 _ _ g6
      -- test 2
      refine q_when (b := false) (et_is (et_and (a := atE (A.ch n)) (b := false) (et_B (ev_dget (n := .inr "at_end") (ev_var rfl) g7s ev_c rfl)) fun hat => ?_) (by simp)) (fun h => nomatch h) fun _ H8 e8 => ?_
      · have hat' := hat
        simp only [atE, Bool.and_eq_true, Option.isNone_iff_eq_none, List.isEmpty_iff] at hat'
        obtain ⟨z1, z2, z3⟩ := hat'
        obtain ⟨y1, y2⟩ := ci.symm.at_end z1 z2 z3
        refine et_or (a := false) (b := false) (et_is (et_test (ev_neIL (evm_ref (ev_var rfl) g7g) (evm_ref (ev_var rfl) g7w))) (by rw [y1, decide_eq_true rfl]; rfl)) fun _ => et_is (et_B (ev_dnotin (n := .inl n) (ev_var rfl) ((b2.ex e07).e_f (ev_var rfl)) (b2.ex e07).hf)) ?_
        rw [b2.cf n, y2]
        rfl
      have e08 := e07.trans e8
      have g8s := e8 _ _ g7s
      -- reset
      refine q_asg (v := rstV (A.ch n).rst ta) (ev_dget (n := .inr "reset") (ev_var rfl) g8s ev_c rfl) fun H9 e9 => ?_
      have e09 := e08.trans e9
      have eH9 := ((((e5.trans e6).trans e7).trans e8).trans e9)
      cases hr0 : (A.ch n).rst with
      | none =>
        refine q_when (b := false) (et_is (et_and (a := false) (b := false) (et_is (et_test (ev_op (x := .non) (ev_var rfl) ev_c rv_notN)) rfl) (fun h => nomatch h)) rfl) (fun h => nomatch h) fun _ H10 e10 => ?_
        refine s_when (b := false) (et_is (et_and (a := false) (b := false) (et_is (et_test (ev_op (x := .non) (ev_var rfl) ev_c rv_notN)) rfl) (fun h => nomatch h)) rfl) (fun h => nomatch h) fun _ H11 e11 => ?_
        exact ⟨⟨_, _, _, _, _, rfl⟩, (e09.trans e10).trans e11⟩
      | some bk =>
        obtain ⟨bb, c⟩ := bk
        have ht9 := eH9 _ _ (r4 bb c hr0)
        refine q_when (b := false) (et_is (et_and (a := true) (b := false) (et_is (et_test (ev_op (x := .ref ta) (ev_var rfl) ev_c rv_notN)) rfl) (fun _ => et_is (et_and (a := decide (V.str (plc bb) = V.str "there")) (b := false) (et_test (ev_op (ev_ixT (ev_var rfl) ht9 ev_c (atI_nat (j := 0) rfl)) ev_c (rv_eq rfl))) fun hth => ?_) (by simp))) rfl) (fun h => nomatch h) fun _ H10 e10 => ?_
        · have hbb : bb = false := by
            cases bb with
            | false => rfl
            | true => exact absurd hth (by decide +kernel)
          subst hbb
          have := ci.symm.there hr0
          refine et_is (et_test (ev_op (ev_get1 (v := some (.int c)) ((b2.ex e09).e_r (ev_var rfl)) (b2.ex e09).hr (by rw [b2.cr n, this]; rfl) (ev_var rfl)) (ev_ixT (ev_var rfl) ht9 ev_c (atI_nat (j := 1) rfl)) (rv_ne rfl))) ?_
          show (!decide (V.int c = V.int c)) = false
          rw [decide_eq_true rfl]
          rfl
        have ht10 := e10 _ _ ht9
        refine s_when (b := false) (et_is (et_and (a := true) (b := false) (et_is (et_test (ev_op (x := .ref ta) (ev_var rfl) ev_c rv_notN)) rfl) (fun _ => et_is (et_and (a := decide (V.str (plc bb) = V.str "here")) (b := false) (et_test (ev_op (ev_ixT (ev_var rfl) ht10 ev_c (atI_nat (j := 0) rfl)) ev_c (rv_eq rfl))) fun hth => ?_) (by simp))) rfl) (fun h => nomatch h) fun _ H11 e11 => ?_
        · have hbb : bb = true := by
            cases bb with
            | true => rfl
            | false => exact absurd hth (by decide +kernel)
          subst hbb
          have := ci.here hr0
          have e10' := e09.trans e10
          refine et_is (et_test (ev_op (ev_get1 (v := some (.int c)) ((b1.ex e10').e_r (ev_var rfl)) (b1.ex e10').hr (by rw [b1.cr n, this]; rfl) (ev_var rfl)) (ev_ixT (ev_var rfl) ht10 ev_c (atI_nat (j := 1) rfl)) (rv_ne rfl))) ?_
          show (!decide (V.int c = V.int c)) = false
          rw [decide_eq_true rfl]
          rfl
        exact ⟨⟨_, _, _, _, _, rfl⟩, (e09.trans e10).trans e11⟩
    · rintro σ' H2 ⟨_, e2⟩
      exact s_ret ev_c fun H3 e3 => k H3 (e2.trans e3)
end Thl

/-! The settling, in plain words. -/
namespace Thl
structure SetI (W : LW) (wn : Bool → Int) (F : Bool → List Fr) (a : Bool → Nat) : Prop where
  wi : WI W F a
  wn : ∀ t, (W.c t).win = wn t
  ol : ∀ t, (W.out t).length ≤ 17
  il : ∀ t, (W.inc t).length ≤ 17
  wl : ∀ t, (W.wire t).length ≤ 60000
  wr : ∀ t n, ((W.k t).written n).length ≤ 1800
variable {W : LW} {wn : Bool → Int} {N : Nat} {t : Bool} {n : Int} {F : Bool → List Fr} {a : Bool → Nat} {A' : Co} {fs : List Fr}
theorem WOk.set (h : WOk W wn N) (hN : N ≤ 150) : ∃ F a, SetI W wn F a := by
  obtain ⟨F, a, hi⟩ := h.inv
  exact ⟨F, a, hi, h.wn, h.ol, h.il, fun t => by have := h.wl t; omega, fun t n => by have := h.wr t n; omega⟩
theorem encs_eq_nil {fs : List Fr} (h : encs fs = []) : fs = [] := by
  cases fs with
  | nil => rfl
  | cons f l =>
    exfalso
    rw [encs_cons] at h
    have := (List.append_eq_nil_iff.mp h).1
    cases f <;> simp [enc] at this
theorem makes_nil {A A' : Co} (h : Makes A [] A') : A' = A := by
  generalize e : ([] : List Fr) = l at h
  cases h with
  | nil => rfl
  | snoc _ _ => simp at e
theorem SetI.exch (h : SetI W wn F a) (hm : Makes (W.c t) fs A') (hc : (5000 : Int) ≤ ((W.out t ++ encs fs).length : Int) ∨ nextFr A' = none) :
    nextFr A' = none ∧ ((W.takeW t A' fs 5000).wire t).length ≤ 70000 ∧ ((W.takeW t A' fs 5000).inc (!t)).length ≤ 17 ∧ ∃ fs2 rest B F2 a2,
      (W.takeW t A' fs 5000).inc (!t) ++ ((W.takeW t A' fs 5000).wire t).take 100000 = encs fs2 ++ rest ∧ Tail rest ∧ Recvs ((W.takeW t A' fs 5000).c !t) fs2 B ∧
      SetI ((W.takeW t A' fs 5000).moveW t B rest 100000) wn F2 a2 ∧ ((W.takeW t A' fs 5000).moveW t B rest 100000).phi F2 + fs.length ≤ W.phi F ∧ F2 (!t) = F (!t) ∧ F2 t = [] ∧
      ((W.takeW t A' fs 5000).moveW t B rest 100000).wire t = [] ∧ ((W.takeW t A' fs 5000).moveW t B rest 100000).out t = [] ∧
      ((W.takeW t A' fs 5000).moveW t B rest 100000).wire (!t) = W.wire (!t) ∧ ((W.takeW t A' fs 5000).moveW t B rest 100000).out (!t) = W.out (!t) ∧
      ((W.takeW t A' fs 5000).moveW t B rest 100000).c t = A' ∧
      ((W.takeW t A' fs 5000).wire t = [] → fs = [] ∧ ((W.takeW t A' fs 5000).moveW t B rest 100000).c = W.c) := by
  obtain ⟨s', s1, s2⟩ := ((h.wi.cinv t).sa).makes hm
  have b0 := (beta_bd s1).1
  have b1 := (beta_bd ((h.wi.cinv t).sa)).2
  have ho := h.ol t
  have hlen : (W.out t ++ encs fs).length ≤ 1200 := by
    rw [List.length_append]
    omega
  have hnx : nextFr A' = none := by
    rcases hc with z | z
    · omega
    · exact z
  have hwl := h.wl t
  have e1 : (W.takeW t A' fs 5000).wire t = W.wire t ++ (W.out t ++ encs fs) := by
    simp only [LW.takeW, up_same]
    rw [List.take_of_length_le (by omega)]
  have e2 : (W.takeW t A' fs 5000).out t = [] := by
    simp only [LW.takeW, up_same]
    rw [List.drop_of_length_le (by omega)]
  have hl1 : ((W.takeW t A' fs 5000).wire t).length ≤ 70000 := by
    rw [e1, List.length_append]
    omega
  obtain ⟨a', w1, p1⟩ := h.wi.take 5000 hm
  obtain ⟨fs2, G, rest, B, m1, m2, m3, m4, m5, m6, m7, m8⟩ := w1.move (t := t) 100000
  have hd : ((W.takeW t A' fs 5000).wire t).drop 100000 = [] := List.drop_of_length_le (by omega)
  obtain ⟨g1, g2⟩ := m8 hd e2
  subst g1
  have ei : (W.takeW t A' fs 5000).inc = W.inc := rfl
  have ew2 : ((W.takeW t A' fs 5000).moveW t B rest 100000).wire t = [] := by
    rw [← hd]
    simp only [LW.moveW, up_same]
  have eo2 : ((W.takeW t A' fs 5000).moveW t B rest 100000).out t = [] := e2
  have ew3 : ((W.takeW t A' fs 5000).moveW t B rest 100000).wire (!t) = W.wire (!t) := by simp only [LW.moveW, LW.takeW, up_not]
  have eo3 : ((W.takeW t A' fs 5000).moveW t B rest 100000).out (!t) = W.out (!t) := by simp only [LW.moveW, LW.takeW, up_not]
  have ec2 : ((W.takeW t A' fs 5000).moveW t B rest 100000).c t = A' := by simp only [LW.moveW, LW.takeW, up_not', up_same]
  have ec3 : (W.takeW t A' fs 5000).c (!t) = W.c (!t) := by simp only [LW.takeW, up_not]
  refine ⟨hnx, hl1, h.il (!t), fs2, rest, B, _, _, m1, m2, m3, ⟨m5, fun u => ?_, fun u => ?_, fun u => ?_, fun u => ?_, h.wr⟩, by omega, ?_, ?_, ew2, eo2, ew3, eo3, ec2, fun hz => ?_⟩
  · rcases bcase t u with e | e
    · subst e
      rw [ec2, (makes_same hm).1]
      exact h.wn u
    · subst e
      have : ((W.takeW t A' fs 5000).moveW t B rest 100000).c (!t) = B := by simp only [LW.moveW, up_same]
      rw [this, (recvs_same m3).1, ec3]
      exact h.wn _
  · rcases bcase t u with e | e
    · subst e
      rw [eo2]
      exact Nat.zero_le _
    · subst e
      rw [eo3]
      exact h.ol _
  · rcases bcase t u with e | e
    · subst e
      simp only [LW.moveW, LW.takeW, up_not']
      exact h.il _
    · subst e
      simp only [LW.moveW, up_same]
      exact m7
  · rcases bcase t u with e | e
    · subst e
      rw [ew2]
      exact Nat.zero_le _
    · subst e
      rw [ew3]
      exact h.wl _
  · simp only [up_not]
  · simp only [up_same]
  · rw [e1] at hz
    obtain ⟨z1, z2⟩ := List.append_eq_nil_iff.mp hz
    obtain ⟨z3, z4⟩ := List.append_eq_nil_iff.mp z2
    have hfs := encs_eq_nil z4
    subst hfs
    have eA := makes_nil hm
    refine ⟨rfl, ?_⟩
    have hz1 : (W.takeW t A' [] 5000).wire t = [] := by rw [e1]; exact hz
    rw [hz1, List.take_nil, List.append_nil, ei] at m1
    have hf2 := recvs_tail (h.wi.tl (!t)) m1 m3
    subst hf2
    have eB := recvs_nil m3
    rw [ec3] at eB
    subst eA
    subst eB
    simp only [LW.moveW, LW.takeW, up_self]

/-! ### the exchange of a round -/
def ExS (W0 : LW) (F0 : Bool → List Fr) (wn : Bool → Int) (i : Nat) (W : LW) (mv : Int) : Prop := ∃ (F : Bool → List Fr) (a : Bool → Nat) (cnt : Nat), SetI W wn F a ∧ W.phi F + cnt ≤ W0.phi F0 ∧ 0 ≤ mv ∧
  (∀ t, ix t < i → W.wire t = [] ∧ W.out t = [] ∧ F t = []) ∧ (mv = 0 → ∀ t, ix t < i → nextFr (W.c t) = none) ∧ (Clean W0 → cnt = 0 → mv = 0 ∧ W.c = W0.c ∧ ∀ t, W.wire t = [] ∧ W.out t = [])
variable {W0 : LW} {F0 : Bool → List Fr} {mv : Int}
theorem ExS.init (h : SetI W0 wn F0 a) : ExS W0 F0 wn 0 W0 0 := ⟨F0, a, 0, h, by simp, by omega, fun t ht => absurd ht (Nat.not_lt_zero _), fun _ t ht => absurd ht (Nat.not_lt_zero _), fun hc _ => ⟨rfl, rfl, fun t => ⟨(hc t).1, (hc t).2.1⟩⟩⟩
theorem ExS.step (h : ExS W0 F0 wn (ix t) W mv) (hm : Makes (W.c t) fs A') (hc : (5000 : Int) ≤ ((W.out t ++ encs fs).length : Int) ∨ nextFr A' = none) :
    ((W.takeW t A' fs 5000).wire t).length ≤ 70000 ∧ ((W.takeW t A' fs 5000).inc (!t)).length ≤ 17 ∧ ∃ fs2 rest B,
      (W.takeW t A' fs 5000).inc (!t) ++ ((W.takeW t A' fs 5000).wire t).take 100000 = encs fs2 ++ rest ∧ Tail rest ∧ Recvs ((W.takeW t A' fs 5000).c !t) fs2 B ∧
      ExS W0 F0 wn (ix t + 1) ((W.takeW t A' fs 5000).moveW t B rest 100000) (mv + ((W.takeW t A' fs 5000).wire t).length) := by
  obtain ⟨F, a, cnt, hs, hp, h0, h1, h2, h3⟩ := h
  obtain ⟨x1, x2, x3, fs2, rest, B, F2, a2, m1, m2, m3, s2, p2, f1, f2, w1, o1, w2, o2, c1, id⟩ := hs.exch hm hc
  refine ⟨x2, x3, fs2, rest, B, m1, m2, m3, F2, a2, cnt + fs.length, s2, by push_cast; omega, by omega, fun u hu => ?_, fun hmv u hu => ?_, fun hcl hcnt => ?_⟩
  · rcases bcase t u with e | e
    · subst e
      exact ⟨w1, o1, f2⟩
    · subst e
      have hlt : ix (!t) < ix t := by
        have := ix_ne t
        omega
      obtain ⟨y1, y2, y3⟩ := h1 _ hlt
      exact ⟨w2.trans y1, o2.trans y2, f1.trans y3⟩
  · have hw : ((W.takeW t A' fs 5000).wire t).length = 0 := by omega
    obtain ⟨z1, z2⟩ := id (List.length_eq_zero_iff.mp hw)
    rcases bcase t u with e | e
    · subst e
      rw [c1]
      exact x1
    · subst e
      rw [z2]
      have := ix_ne t
      exact h2 (by omega) _ (by omega)
  · have hf : fs = [] := List.length_eq_zero_iff.mp (by omega)
    obtain ⟨y1, y2, y3⟩ := h3 hcl (by omega)
    subst hf
    have hw : (W.takeW t A' [] 5000).wire t = [] := by
      simp only [LW.takeW, up_same]
      rw [(y3 t).1, (y3 t).2]
      rfl
    obtain ⟨z1, z2⟩ := id hw
    refine ⟨by rw [hw]; simp; omega, by rw [z2, y2], fun u => ?_⟩
    rcases bcase t u with e | e
    · subst e
      exact ⟨w1, o1⟩
    · subst e
      exact ⟨w2.trans (y3 _).1, o2.trans (y3 _).2⟩

/-! ### the reading of a round -/
def RdS (W0 : LW) (F0 : Bool → List Fr) (wn : Bool → Int) (Dn : Bool → Int → Prop) (W : LW) (mv : Int) : Prop := ∃ (F : Bool → List Fr) (a : Bool → Nat) (cnt : Nat), SetI W wn F a ∧ W.phi F + cnt ≤ W0.phi F0 ∧ 0 ≤ mv ∧
  (∀ t, W.wire t = [] ∧ W.out t = [] ∧ F t = []) ∧ (∀ t n, Dn t n → ((W.c t).ch n).ready = []) ∧ (mv = 0 → ∀ t, nextFr (W.c t) = none) ∧ (Clean W0 → cnt = 0 → mv = 0 ∧ ∀ t n, ((W.c t).ch n).ready = [])
theorem ExS.read (h : ExS W0 F0 wn 2 W mv) : RdS W0 F0 wn (fun _ _ => False) W mv := by
  obtain ⟨F, a, cnt, hs, hp, h0, h1, h2, h3⟩ := h
  have l2 : ∀ t, ix t < 2 := fun t => by have := ix_le t; omega
  exact ⟨F, a, cnt, hs, hp, h0, fun t => h1 t (l2 t), fun _ _ z => z.elim, fun z t => h2 z t (l2 t), fun hc hz => ⟨(h3 hc hz).1, fun t n => by rw [(h3 hc hz).2.1]; exact (hc t).2.2 n⟩⟩
theorem RdS.weak {Dn Dn' : Bool → Int → Prop} (h : RdS W0 F0 wn Dn W mv) (hd : ∀ t n, Dn' t n → Dn t n ∨ n ∉ (W.c t).turns) : RdS W0 F0 wn Dn' W mv := by
  obtain ⟨F, a, cnt, hs, hp, h0, h1, h2, h3, h4⟩ := h
  refine ⟨F, a, cnt, hs, hp, h0, h1, fun t n z => ?_, h3, h4⟩
  rcases hd t n z with z | z
  · exact h2 t n z
  · rw [(hs.wi.cinv t).sa.unk n z]
    rfl
theorem phi_read (W : LW) (F : Bool → List Fr) (t : Bool) (n : Int) (r : List Int) (p : Bc) : (W.app t ((W.c t).set n { (W.c t).ch n with ready := r }) p).phi F = W.phi F := by
  rw [LW.phi_at _ _ t, LW.phi_at _ _ t]
  simp only [LW.app, up_same, up_not]
  unfold Phi
  congr 1
  funext m
  unfold phi2
  by_cases e : m = n
  · subst e
    rw [Co.set_same]
    rfl
  · rw [Co.set_ne _ _ e]
    rfl
theorem RdS.step {Dn : Bool → Int → Prop} {k : Nat} (h : RdS W0 F0 wn Dn W mv) (hn : n ∈ (W.c t).turns) (hk : 12 ≤ k) :
    RdS W0 F0 wn (fun u m => Dn u m ∨ (u = t ∧ m = n)) (W.app t ((W.c t).set n { (W.c t).ch n with ready := ((W.c t).ch n).ready.drop k }) ((W.k t).gv n (((W.c t).ch n).ready.take k))) (mv + ((((W.c t).ch n).ready.take k).length : Int)) := by
  obtain ⟨F, a, cnt, hs, hp, h0, h1, h2, h3, h4⟩ := h
  have loc := (hs.wi.cinv t).sa.loc n
  have w12 := (hs.wi.cinv t).sa.w12
  have hr : ((W.c t).ch n).ready.length ≤ 12 := by
    have := loc.d0
    have := loc.dw
    omega
  have hdrop : ((W.c t).ch n).ready.drop k = [] := List.drop_of_length_le (by omega)
  have htake : ((W.c t).ch n).ready.take k = ((W.c t).ch n).ready := List.take_of_length_le (by omega)
  have same : ((W.c t).ch n).ready = [] → (W.app t ((W.c t).set n { (W.c t).ch n with ready := ((W.c t).ch n).ready.drop k }) ((W.k t).gv n (((W.c t).ch n).ready.take k))).c = W.c := fun z => by
    rw [read_none z]
    simp only [LW.app, up_self]
  have rdy : ∀ u m, (((W.app t ((W.c t).set n { (W.c t).ch n with ready := ((W.c t).ch n).ready.drop k }) ((W.k t).gv n (((W.c t).ch n).ready.take k))).c u).ch m).ready = if u = t ∧ m = n then [] else ((W.c u).ch m).ready := fun u m => by
    rcases bcase t u with e | e
    · subst e
      simp only [LW.app, up_same]
      by_cases e : m = n
      · subst e
        rw [Co.set_same, if_pos (by simp)]
        exact hdrop
      · rw [Co.set_ne _ _ e, if_neg (fun z => e z.2)]
    · subst e
      simp only [LW.app, up_not]
      rw [if_neg (fun z => by cases t <;> simp at z)]
  have rd0 : ∀ u m, ((W.c u).ch m).ready = [] → (if u = t ∧ m = n then [] else ((W.c u).ch m).ready) = [] := fun u m z => by
    rw [z]
    split <;> rfl
  refine ⟨F, a, cnt, ⟨hs.wi.app ((hs.wi.cinv t).read hn k), fun u => ?_, hs.ol, hs.il, hs.wl, fun u m => ?_⟩, by rw [phi_read]; exact hp, by omega, h1, fun u m z => ?_, fun hz u => ?_, fun hc hz => ?_⟩
  · rcases bcase t u with e | e
    · subst e
      simp only [LW.app, up_same]
      exact hs.wn u
    · subst e
      simp only [LW.app, up_not]
      exact hs.wn _
  · rcases bcase t u with e | e
    · subst e
      simp only [LW.app, up_same]
      exact hs.wr u m
    · subst e
      simp only [LW.app, up_not]
      exact hs.wr _ m
  · rw [rdy]
    rcases z with z | z
    · exact rd0 _ _ (h2 u m z)
    · rw [if_pos z]
  · rw [htake] at hz
    rw [same (List.length_eq_zero_iff.mp (by omega))]
    exact h3 (by omega) u
  · obtain ⟨y1, y2⟩ := h4 hc hz
    refine ⟨?_, fun u m => by rw [rdy]; exact rd0 _ _ (y2 u m)⟩
    rw [htake, y2 t n, y1]
    rfl
theorem RdS.inv {Dn : Bool → Int → Prop} (h : RdS W0 F0 wn Dn W mv) (t : Bool) : (∃ a, SInv (W.c t) a) ∧ ∀ n, ((W.k t).given n).length + ((W.c t).ch n).ready.length ≤ 1800 := by
  obtain ⟨F, a, cnt, hs, _⟩ := h
  refine ⟨⟨_, (hs.wi.cinv t).sa⟩, fun n => ?_⟩
  have := (hs.wi.cinv (!t)).prefix n
  rw [Bool.not_not] at this
  obtain ⟨x, e⟩ := this
  have := congrArg List.length e
  have := hs.wr (!t) n
  simp at *
  omega
theorem RdS.next {r : Nat} (h : RdS W0 F0 wn (fun _ _ => True) W mv) (hne : mv ≠ 0) (hr : r = 0 ∨ (Clean W0 ∧ W0.phi F0 + r ≤ 625)) (hb : W0.phi F0 ≤ 624) : ∃ F a, SetI W wn F a ∧ Clean W ∧ W.phi F + ((r + 1 : Nat) : Int) ≤ 625 := by
  obtain ⟨F, a, cnt, hs, hp, h0, h1, h2, h3, h4⟩ := h
  refine ⟨F, a, hs, fun t => ⟨(h1 t).1, (h1 t).2.1, fun n => h2 t n trivial⟩, ?_⟩
  rcases hr with rfl | ⟨hc, hr⟩
  · push_cast
    omega
  · have : cnt ≠ 0 := fun z => hne (h4 hc z).1
    push_cast
    omega
theorem RdS.quiet (h : RdS W0 F0 wn (fun _ _ => True) W 0) : Quiet W ∧ ∀ t, (W.c t).win = wn t := by
  obtain ⟨F, a, cnt, hs, hp, h0, h1, h2, h3, h4⟩ := h
  have eF : F = fun _ => [] := by
    funext t
    exact (h1 t).2.2
  subst eF
  exact ⟨⟨⟨a, hs.wi⟩, h3 rfl, fun t n => h2 t n trivial⟩, hs.wn⟩
theorem SetI.phi_bd (h : SetI W wn F a) : 0 ≤ W.phi F ∧ W.phi F ≤ 624 := (h.wi.cinv false).phi_bd
end Thl

/-! The settling. -/
namespace Thl
open PySem PySem.Spec PyProof.Rows L2 Evl
variable {P : Program} {w : World} {K : PySem.W.Frag} {mg : Str → Option Value} {base : Heap} {C D : Addr}
def spSettle (C D : Addr) : Sp := fun vs H Q _ => ∃ (o : Ow) (sl bl : Addr) (p q : Bool → Addr) (W : LW) (wn : Bool → Int) (F : Bool → List Fr) (a : Bool → Nat), vs = [.ref sl, .ref bl] ∧ WAt C D o H sl bl p q W ∧ SetI W wn F a ∧
  ∀ W' o' H', WAt C D o' H' sl bl p q W' → Quiet W' → (∀ t, (W'.c t).win = wn t) → Keep OfX o H o' H' → Q (.bl true) H'
def nmSet : List Str := ["_law_sides", "_law_books", "_law_k", "_law_moved", "_law_turn", "_law_number", "_law_before"]
theorem scSet : FnScope nmSet ["_law_sides", "_law_books"] (defScope (top 29)) := ⟨rfl, rfl, rfl, by decide +kernel, rfl, by decide +kernel, by decide +kernel⟩
theorem ok_settle {f : Addr} {fd : FuncData} (F : Fun K "_law_settle" "_law_settle" (top 29) f fd) (T : Txt K mg C D) (I : ItB P w K mg base D) (M1 : Mt P w K mg base D "take" 4 ["self", "count"] (spTake C D))
    (F1 : Ft P w K mg base "_law_move" 6 ["_law_sides", "_law_books", "_law_turn", "_law_count"] (spMv C D)) (F2 : Ft P w K mg base "_law_read" 3 ["_law_side", "_law_book_here", "_law_number", "_law_count"] (spLR C D)) :
    FnOk P w K mg base CX0 7 f fd ["_law_sides", "_law_books"] (spSettle C D) := by
  refine F.ok scSet (fun vs H Q E h => ?_) (fun cdv A0 outer s0 H vs Q E hr h => ?_)
  · obtain ⟨o, sl, bl, p, q, W, wn, F, a, rfl, _⟩ := h
    rfl
  · obtain ⟨o, sl, bl, p, q, W, wn, F, a, rfl, h, hS, k⟩ := h
    have hu := hu_of hr
    have hr1 : Room 1 _ := hr.mono (by decide)
    have hr3 : Room 3 _ := hr.mono (by decide)
    have hr4 : Room 4 _ := hr.mono (by decide)
    refine ⟨_, pss_cons (ps_for PassesOwn.never rfl (pi_range1 (by rfl) T.range (pa_cons pe_int pa_nil)) (pg_name (i := 2) scSet.nd rfl (Or.inl rfl))
        (pss_cons (ps_set (i := 3) scSet.nd rfl (.inl rfl) pe_int)
        (pss_cons (ps_for PassesOwn.never rfl (pi_range1 (by rfl) T.range (pa_cons pe_int pa_nil)) (pg_name (i := 4) scSet.nd rfl (Or.inl rfl))
          (pss_cons (ps_expr (pe_bm PySem.F.plainAttrs_list PySem.F.slot_list_extend PySem.F.type_list_extend mt_extend (pe_dget hu (pe_ix ix_list (pv 1) (pv 4) (fun _ _ => rfl)) pe_str (fun _ _ => rfl)) (pa_cons (pmt M1 fun _ _ m g b => pe_meth (pe_ix ix_list (pv 0) (pv 4) (fun _ _ => rfl)) T.clD m g hr4 b .nil pass0 (pa_cons pe_int pa_nil)) pa_nil)))
          (pss_cons (ps_set (i := 3) scSet.nd rfl (.inl rfl) (pe_op op_add (pv 3) (pe_callB call_len_seq (by rfl) T.len PySem.boot_len (pa_cons (pe_dget hu (pe_ix ix_list (pv 1) (pv 4) (fun _ _ => rfl)) pe_str (fun _ _ => rfl)) pa_nil))))
          (pss_one (ps_if (pt_not (pt_val (pfn F1 hr (pa_cons (pv 0) (pa_cons (pv 1) (pa_cons (pv 4) (pa_cons pe_int pa_nil))))))) (pss_one ps_never) pss_nil)))))
        (pss_cons (ps_for PassesOwn.never rfl (pi_range1 (by rfl) T.range (pa_cons pe_int pa_nil)) (pg_name (i := 4) scSet.nd rfl (Or.inl rfl))
          (pss_one (ps_for PassesOwn.never rfl (pit I fun _ _ m1 m2 m3 m4 => pi_own m1 m2 m3 m4 hr1 (pe_ix ix_list (pv 0) (pv 4) (fun _ _ => rfl))) (pg_name (i := 5) scSet.nd rfl (Or.inl rfl))
            (pss_cons (ps_set (i := 6) scSet.nd rfl (.inl rfl) (pe_callB call_len_seq (by rfl) T.len PySem.boot_len (pa_cons (pe_dget2 hu (pe_dget hu (pe_ix ix_list (pv 1) (pv 4) (fun _ _ => rfl)) pe_str (fun _ _ => rfl)) (pv 5) (pe_lst pa_nil) ⟨rfl, rfl, rfl, rfl⟩) pa_nil)))
            (pss_cons (ps_if (pt_not (pt_val (pfn F2 hr3 (pa_cons (pe_ix ix_list (pv 0) (pv 4) (fun _ _ => rfl)) (pa_cons (pe_ix ix_list (pv 1) (pv 4) (fun _ _ => rfl)) (pa_cons (pv 5) (pa_cons pe_int pa_nil))))))) (pss_one ps_never) pss_nil)
            (pss_one (ps_set (i := 3) scSet.nd rfl (.inl rfl) (pe_op op_sub (pe_op op_add (pv 3) (pe_callB call_len_seq (by rfl) T.len PySem.boot_len (pa_cons (pe_dget hu (pe_dget hu (pe_ix ix_list (pv 1) (pv 4) (fun _ _ => rfl)) pe_str (fun _ _ => rfl)) (pv 5) (fun _ _ => rfl)) pa_nil))) (pv 6)))))))))
        (pss_one (ps_if (pt_cmpR op_eq (pv 3) pe_int (nomark _)) (pss_one (ps_ret pe_bl)) pss_nil))))))
      (pss_one ps_never), ?_⟩
    have pb := hS.phi_bd
    refine q_forR1 (n := 1200) (ea_cons ev_c ea_nil) ⟨by decide, by decide⟩ (fun r σ' H' => (∃ v2 v3 v4 v5 v6, σ' = [some (.ref sl), some (.ref bl), v2, v3, v4, v5, v6]) ∧ ∃ W' F' a' o', WAt C D o' H' sl bl p q W' ∧ SetI W' wn F' a' ∧ Keep OfX o H o' H' ∧ (r = 0 ∨ (Clean W' ∧ W'.phi F' + (r : Int) ≤ 625)))
      (fun H1 e1 => ⟨⟨_, _, _, _, _, rfl⟩, W, F, a, o, h.ex e1, hS, Keep.ex e1, .inl rfl⟩) ?_ ?_
    · rintro r σ' H1 hr1200 ⟨⟨v2, v3, v4, v5, v6, rfl⟩, W0, F0, a0, o1, w1, s1, k1, hph⟩
      have pb0 := s1.phi_bd
      refine q_asg (v := .int 0) ev_c fun H2 e2 => ?_
      -- exchange
      refine q_forR1 (n := 2) (ea_cons ev_c ea_nil) ⟨by decide, by decide⟩ (fun i σ' H' => ∃ (mv : Int), (∃ v4, σ' = [some (.ref sl), some (.ref bl), some (.int (r : Int)), some (.int mv), v4, v5, v6]) ∧ ∃ W' o', WAt C D o' H' sl bl p q W' ∧ ExS W0 F0 wn i W' mv ∧ Keep OfX o H o' H')
        (fun H3 e3 => ⟨0, ⟨_, rfl⟩, W0, o1, (w1.ex e2).ex e3, ExS.init s1, (k1.trans (Keep.ex e2)).trans (Keep.ex e3)⟩) ?_ ?_
      · rintro i σ' H3 hi ⟨mv, ⟨v4', rfl⟩, W', o', w3, x3, k3⟩
        obtain ⟨t, rfl⟩ := ix_of (i := i) (by omega)
        have x3' := x3
        obtain ⟨F', a', cnt, s3, _⟩ := x3'
        have ol := s3.ol t
        have wl := s3.wl t
        refine q_takeW (Cn := fun c => c = 5000) w3 ⟨_, (s3.wi.cinv t).sa⟩ (by omega) (w3.e_book (ev_var rfl) (ev_var rfl)) (w3.e_side (ev_var rfl) (ev_var rfl)) (fun H1 e1 Q q => q 5000 H1 rfl Keep.refl) (fun c hc => ⟨by omega, by omega⟩)
          fun c fs A' o4 H4 hc hm hnx hl w4 k4 => ?_
        subst hc
        obtain ⟨y1, y2, fs2, rest, B, m1, m2, m3, x5⟩ := x3.step hm hnx
        have b4 := w4.bk t
        obtain ⟨tv, wr, gv, fi, rs, wd, kw, kg, kf, kr, b⟩ := b4
        have hlen := ev_lenM (K := K) (evm_ref (b.e_i (w4.e_book (K := K) (te := tVar 1) (tb := tVar 4) (σ := [some (.ref sl), some (.ref bl), some (.int (r : Int)), some (.int mv), some (.int (ix t : Int)), v5, v6]) (ev_var rfl) (ev_var rfl))) b.hi)
        rw [il_length] at hlen
        refine q_asg (v := .int (mv + (((W'.takeW t A' fs 5000).wire t).length : Int))) (ev_op (ev_var rfl) hlen rv_I0) fun H5 e5 => ?_
        refine go_call (ea_cons (ev_var rfl) (ea_cons (ev_var rfl) (ea_cons (ev_var rfl) (ea_cons ev_c ea_nil)))) fun H6 e6 => ?_
        refine ⟨o4, sl, bl, p, q, W'.takeW t A' fs 5000, t, 100000, fs2, rest, B, rfl, (w4.ex e5).ex e6, m1, m2, m3, by omega, by omega, fun o7 H7 w7 k7 => ⟨true, rfl, ?_⟩⟩
        refine (if_neg (by decide)).mpr ?_
        exact ⟨_, ⟨_, rfl⟩, _, o7, w7, x5, (((k3.trans k4).trans (Keep.ex e5)).trans (Keep.ex e6)).trans k7.wX⟩
      · rintro σ' H3 ⟨mv, ⟨v4', rfl⟩, W', o', w3, x3, k3⟩
        have x3 : ExS W0 F0 wn 2 W' mv := x3
        -- reading
        refine q_forR1 (n := 2) (ea_cons ev_c ea_nil) ⟨by decide, by decide⟩ (fun i σ' H' => ∃ (mv : Int), (∃ v4 v5 v6, σ' = [some (.ref sl), some (.ref bl), some (.int (r : Int)), some (.int mv), v4, v5, v6]) ∧ ∃ W' o', WAt C D o' H' sl bl p q W' ∧ RdS W0 F0 wn (fun u _ => ix u < i) W' mv ∧ Keep OfX o H o' H')
          (fun H4 e4 => ⟨mv, ⟨_, _, _, rfl⟩, W', o', w3.ex e4, x3.read.weak (fun t n z => absurd z (Nat.not_lt_zero _)), k3.trans (Keep.ex e4)⟩) ?_ ?_
        · rintro i σ' H4 hi ⟨mv, ⟨v4', v5', v6', rfl⟩, W', o', w4, x4, k4⟩
          obtain ⟨t, rfl⟩ := ix_of (i := i) (by omega)
          have hsd := w4.sd t
          obtain ⟨dx, d, ln, lt, lo, li, kvs, hd⟩ := hsd
          refine s_forOwn (lk := lkN) (w4.e_side (ev_var rfl) (ev_var rfl)) hd.ob rfl hd.nn (fun j σ' H' => ∃ (mv : Int), (∃ v5 v6, σ' = [some (.ref sl), some (.ref bl), some (.int (r : Int)), some (.int mv), some (.int (ix t : Int)), v5, v6]) ∧
              ∃ W2 o2, WAt C D o2 H' sl bl p q W2 ∧ RdS W0 F0 wn (fun u m => ix u < ix t ∨ (u = t ∧ ∃ j', j' < j ∧ (W'.c t).nums[j']? = some m)) W2 mv ∧ (W2.c t).nums = (W'.c t).nums ∧ H' ln = some (.lst (il (W'.c t).nums)) ∧ o2 ln = (ix t, -1, 2) ∧ Keep OfX o H o2 H')
            (fun H5 e5 => ⟨mv, ⟨_, _, rfl⟩, W', o', w4.ex e5, x4.weak (fun u m z => z.elim .inl fun z => by obtain ⟨_, j', hj, _⟩ := z; exact absurd hj (Nat.not_lt_zero _)), rfl, e5 _ _ hd.nn, hd.rn, k4.trans (Keep.ex e5)⟩)
            (fun j σ' H' _ hp => by obtain ⟨_, _, _, _, _, _, _, g, _⟩ := hp; exact sq_of g) ?_ ?_
          · rintro j x σ' H5 hx ⟨mv, ⟨v5'', v6'', rfl⟩, W2, o2, w5, x5, hnum, hln, oln, k5⟩
            obtain ⟨n, hn, rfl⟩ := il_get hx
            obtain ⟨⟨an, si⟩, hgl⟩ := x5.inv t
            have hnn : n ∈ (W2.c t).nums := by rw [hnum]; exact List.mem_of_getElem? hn
            have hnt : n ∈ (W2.c t).turns := (si.nm n).mp hnn
            have hn8 := si.bound hnt
            have b5 := w5.bk t
            obtain ⟨tv, wr, gv, fi, rs, wd, kw, kg, kf, kr, b⟩ := b5
            have hlen := ev_lenM (K := K) (em_get (b.e_g (w5.e_book (K := K) (te := tVar 1) (tb := tVar 4) (σ := [some (.ref sl), some (.ref bl), some (.int (r : Int)), some (.int mv), some (.int (ix t : Int)), some (.int n), v6'']) (ev_var rfl) (ev_var rfl))) b.hg b.cg (ev_var (i := 5) (v := .int n) rfl))
            rw [il_length] at hlen
            refine q_asg (v := .int (((W2.k t).given n).length : Int)) hlen fun H6 e6 => ?_
            have w6 := w5.ex e6
            refine go_call (ea_cons (w6.e_side (ev_var rfl) (ev_var rfl)) (ea_cons (w6.e_book (ev_var rfl) (ev_var rfl)) (ea_cons (ev_var rfl) (ea_cons ev_c ea_nil)))) fun H7 e7 => ?_
            have w7 := w6.ex e7
            have hg := hgl n
            have lt1 := ix_le t
            refine ⟨o2, ix t, 2 + ix t, p t, q t, W2.c t, W2.out t, W2.inc t, W2.k t, W2.wire t, n, 100000, rfl, w7.sd t, w7.bk t, by omega, hnt, hn8, by decide, by omega, fun o8 H8 hx8 hb8 hbg kx => ⟨true, rfl, (if_neg (by decide)).mpr ?_⟩⟩
            have kx2 := kx.mono (S' := Of2 (ix t) (2 + ix t)) fun r z => z.imp (·.1) id
            have w8 := w7.app kx2 hx8 hb8
            have ek : (100000 : Int).toNat = 100000 := rfl
            rw [ek] at w8 hbg
            have x8 := x5.step (k := 100000) hnt (by decide)
            obtain ⟨tv', wr', gv', fi', rs', wd', kw', kg', kf', kr', b8, hsome⟩ := hbg
            have ln8 := kx _ _ (e7 _ _ (e6 _ _ hln)) (by
              rw [oln]
              rintro (z | z)
              · exact absurd (show 10 ≤ 2 from z.2.2) (by decide)
              · have z : ix t = 2 + ix t := z
                omega)
            rcases b8.cg n with ⟨z, _⟩ | ⟨l, z1, z2, _⟩
            · rw [z] at hsome
              cases hsome
            have eg : ((W2.k t).gv n (((W2.c t).ch n).ready.take 100000)).given n = (W2.k t).given n ++ ((W2.c t).ch n).ready.take 100000 := by simp [Bc.gv]
            rw [eg] at z2
            have hl2 := ev_lenM (K := K) (evm_ref (ev_dget (n := .inl n) (b8.e_g (w8.e_book (K := K) (te := tVar 1) (tb := tVar 4) (σ := [some (.ref sl), some (.ref bl), some (.int (r : Int)), some (.int mv), some (.int (ix t : Int)), some (.int n), some (.int (((W2.k t).given n).length : Int))]) (ev_var rfl) (ev_var rfl))) b8.hg (ev_var (i := 5) rfl) z1) z2)
            rw [il_length, List.length_append] at hl2
            refine s_asg (v := .int (mv + ((((W2.c t).ch n).ready.take 100000).length : Int))) (ev_is (ev_op (ev_op (ev_var rfl) hl2 rv_I0) (ev_var rfl) rv_I0) (by congr 1; push_cast; omega)) fun H9 e9 => ?_
            refine ⟨_, ⟨_, _, rfl⟩, _, o8, w8.ex e9, x8.weak (fun u m z => ?_), ?_, e9 _ _ ln8.1, ln8.2.trans oln, (((k5.trans (Keep.ex (e6.trans e7))).trans kx2.oW.wX).trans (Keep.ex e9))⟩
            · rcases z with z | ⟨z, j', hj, hm⟩
              · exact .inl (.inl (.inl z))
              · by_cases e : j' = j
                · subst e
                  rw [hn] at hm
                  injection hm with hm
                  exact .inl (.inr ⟨z, hm.symm⟩)
                · exact .inl (.inl (.inr ⟨z, j', by omega, hm⟩))
            · simp only [LW.app, up_same]
              exact hnum
          · rintro σ' H5 ⟨mv, ⟨v5'', v6'', rfl⟩, W2, o2, w5, x5, hnum, hln, oln, k5⟩
            refine ⟨mv, ⟨_, _, _, rfl⟩, W2, o2, w5, x5.weak fun u m z => ?_, k5⟩
            rcases bcase t u with e | e
            · subst e
              obtain ⟨⟨an, si⟩, _⟩ := x5.inv u
              by_cases hm : m ∈ (W2.c u).turns
              · have := (si.nm m).mpr hm
                rw [hnum] at this
                obtain ⟨j', hj, ej⟩ := List.getElem_of_mem this
                exact .inl (.inr ⟨rfl, j', by rw [il_length]; exact hj, by rw [List.getElem?_eq_getElem hj, ej]⟩)
              · exact .inr hm
            · subst e
              have := ix_ne t
              exact .inl (.inl (by omega))
        · rintro σ' H4 ⟨mv, ⟨v4', v5', v6', rfl⟩, W', o', w4, x4, k4⟩
          have x4 : RdS W0 F0 wn (fun _ _ => True) W' mv := x4.weak fun u m _ => .inl (by have := ix_le u; show ix u < 2; omega)
          refine s_when (et_test (ev_op (ev_var rfl) ev_c (rv_eq rfl))) (fun hb H5 e5 => ?_) fun hb H5 e5 => ?_
          · have hmv : mv = 0 := by
              have := of_decide_eq_true hb
              injection this
            subst hmv
            obtain ⟨z1, z2⟩ := x4.quiet
            exact s_ret ev_c fun H6 e6 => k W' o' H6 ((w4.ex e5).ex e6) z1 z2 ((k4.trans (Keep.ex e5)).trans (Keep.ex e6))
          · have hmv : mv ≠ 0 := fun e => of_decide_eq_false hb (by rw [e])
            obtain ⟨F', a', z1, z2, z3⟩ := x4.next hmv hph pb0.2
            exact ⟨⟨_, _, _, _, _, rfl⟩, W', F', a', o', w4.ex e5, z1, k4.trans (Keep.ex e5), .inr ⟨z2, z3⟩⟩
    · rintro σ' H1 ⟨_, W0, F0, a0, o1, w1, s1, k1, hph⟩
      have pb0 := s1.phi_bd
      exfalso
      rcases hph with z | ⟨_, z⟩
      · exact absurd z (by decide)
      · have e : ((1200 : Int).toNat : Int) = 1200 := rfl
        rw [e] at z
        omega
end Thl

/-! Once settled. -/
namespace Thl
open PySem PySem.Spec PyProof.Rows L2 Evl
variable {P : Program} {w : World} {K : PySem.W.Frag} {mg : Str → Option Value} {base : Heap} {C D : Addr}
def spSettled (C D : Addr) : Sp := fun vs H Q _ => ∃ (o : Ow) (sl bl : Addr) (p q : Bool → Addr) (W : LW), vs = [.ref sl, .ref bl] ∧ WAt C D o H sl bl p q W ∧ Quiet W ∧ RetV (.bl true) H Q
def nmSettled : List Str := ["_law_sides", "_law_books", "_law_number", "_law_told", "_law_turn", "_law_written", "_law_side"]
theorem scSettled : FnScope nmSettled ["_law_sides", "_law_books"] (defScope (top 30)) := ⟨rfl, rfl, rfl, by decide +kernel, rfl, by decide +kernel, by decide +kernel⟩
theorem ok_settled {f : Addr} {fd : FuncData} (F : Fun K "_law_settled" "_law_settled" (top 30) f fd) (T : Txt K mg C D) (I : ItB P w K mg base D) (M1 : Mt P w K mg base D "status" 2 ["self", "channel"] (spSt C D)) :
    FnOk P w K mg base CX0 3 f fd ["_law_sides", "_law_books"] (spSettled C D) := by
  refine F.ok scSettled (fun vs H Q E h => ?_) (fun cdv A0 outer s0 H vs Q E hr h => ?_)
  · obtain ⟨o, sl, bl, p, q, W, rfl, _⟩ := h
    rfl
  · obtain ⟨o, sl, bl, p, q, W, rfl, h, hQ, k⟩ := h
    have hu := hu_of hr
    have hu64 := hu64_of hr
    have hr1 : Room 1 _ := hr.mono (by decide)
    refine ⟨_, pss_cons (ps_if (pt_cmpR (op_neD hu64)
          (pe_lc (own := [("_law_number", 2)]) (g := gName 2) rfl scSettled.nd (pit I fun _ _ m1 m2 m3 m4 => pi_own m1 m2 m3 m4 hr1 (pe_ix ix_list (pv 0) pe_int (fun _ _ => rfl))) (blkOk_by (own := [("_law_number", 2)]) (N := nmSettled) (sc := defScope (top 30)) (by decide +kernel)) (fun _ _ _ _ _ => pg_name (i := 2) scSettled.nd rfl (Or.inl rfl)) (fun _ _ _ _ _ => pts_nil) (fun _ _ _ _ _ => pv 2))
          (pe_lc (own := [("_law_number", 2)]) (g := gName 2) rfl scSettled.nd (pit I fun _ _ m1 m2 m3 m4 => pi_own m1 m2 m3 m4 hr1 (pe_ix ix_list (pv 0) pe_int (fun _ _ => rfl))) (blkOk_by (own := [("_law_number", 2)]) (N := nmSettled) (sc := defScope (top 30)) (by decide +kernel)) (fun _ _ _ _ _ => pg_name (i := 2) scSettled.nd rfl (Or.inl rfl)) (fun _ _ _ _ _ => pts_nil) (fun _ _ _ _ _ => pv 2)) (nomark _)) (pss_one ps_never) pss_nil)
      (pss_cons (ps_for PassesOwn.never rfl (pit I fun _ _ m1 m2 m3 m4 => pi_own m1 m2 m3 m4 hr1 (pe_ix ix_list (pv 0) pe_int (fun _ _ => rfl))) (pg_name (i := 2) scSettled.nd rfl (Or.inr rfl))
        (pss_cons (ps_setLc (own := [("_law_side", 6)]) (g := gName 6) rfl scSettled.nd (i := 3) rfl rfl (by rfl) (pi_list (pv 0)) (blkOk_by (own := [("_law_side", 6)]) (N := nmSettled) (sc := defScope (top 30)) (by decide +kernel)) (fun _ _ _ _ _ => pg_name (i := 6) scSettled.nd rfl (Or.inl rfl)) (fun _ _ _ _ _ => pts_nil)
            (fun _ _ _ _ _ => pmt M1 fun _ _ m g b => pe_meth (pv 6) T.clD m g hr b .nil pass0 (pa_cons (pv 2) pa_nil)))
        (pss_one (ps_if (PW.pt (pw_or (pt_cmpR op_notN (pe_dget hu (pe_ix ix_list (pv 3) pe_int (fun _ _ => rfl)) pe_str (fun _ _ => rfl)) pe_non (nomark _)) (pw_or1 (pt_cmpR op_notN (pe_dget hu (pe_ix ix_list (pv 3) pe_int (fun _ _ => rfl)) pe_str (fun _ _ => rfl)) pe_non (nomark _)))))
          (pss_one (ps_if (PW.pt (pw_or (pt_cmpR op_isN (pe_dget hu (pe_ix ix_list (pv 3) pe_int (fun _ _ => rfl)) pe_str (fun _ _ => rfl)) pe_non (nomark _)) (pw_or1 (pt_cmpR op_isN (pe_dget hu (pe_ix ix_list (pv 3) pe_int (fun _ _ => rfl)) pe_str (fun _ _ => rfl)) pe_non (nomark _))))) (pss_one ps_never) pss_nil))
          (pss_one (ps_for PassesOwn.never rfl (pi_range1 (by rfl) T.range (pa_cons pe_int pa_nil)) (pg_name (i := 4) scSettled.nd rfl (Or.inl rfl))
            (pss_cons (ps_set (i := 5) scSettled.nd rfl (.inl rfl) (pe_dget2 hu (pe_dget hu (pe_ix ix_list (pv 1) (pv 4) (fun _ _ => rfl)) pe_str (fun _ _ => rfl)) (pv 2) (pe_lst pa_nil) ⟨rfl, rfl, rfl, rfl⟩))
            (pss_cons (ps_if (PW.pt (pw_or (pt_cmpR op_ne (pe_dget hu (pe_ix ix_list (pv 3) (pv 4) (fun _ _ => rfl)) pe_str (fun _ _ => rfl)) pe_int (nomark _)) (pw_or1 (pt_cmpR (op_neD hu64) (pe_dget2 hu (pe_dget hu (pe_ix ix_list (pv 1) (pe_op op_sub pe_int (pv 4)) (fun _ _ => rfl)) pe_str (fun _ _ => rfl)) (pv 2) (pe_lst pa_nil) ⟨rfl, rfl, rfl, rfl⟩) (pv 5) (nomark _))))) (pss_one ps_never) pss_nil)
            (pss_one (ps_if (pt_cmpR op_ne (pe_dget hu (pe_ix ix_list (pv 3) (pe_op op_sub pe_int (pv 4)) (fun _ _ => rfl)) pe_str (fun _ _ => rfl)) (pe_cmp (pc_din hu (pv 2) (pe_dget hu (pe_ix ix_list (pv 1) (pv 4) (fun _ _ => rfl)) pe_str (fun _ _ => rfl)))) (nomark _)) (pss_one ps_never) pss_nil))))))))))
      (pss_one (ps_ret pe_bl))), ?_⟩
    have hnums := hQ.nums
    obtain ⟨⟨an, wi⟩, hnx, hrd⟩ := hQ
    have s0' := h.sd false
    have s1' := h.sd true
    obtain ⟨dx0, d0, ln0, lt0, lo0, li0, kvs0, hd0⟩ := s0'
    obtain ⟨dx1, d1, ln1, lt1, lo1, li1, kvs1, hd1⟩ := s1'
    have si0 := (wi.cinv false).sa
    have si1 := (wi.cinv true).sa
    have l0 : (W.c false).nums.length ≤ 8 := by rw [si0.prm.length_eq]; exact turns_len si0
    have l1 : (W.c true).nums.length ≤ 8 := by rw [si1.prm.length_eq]; exact turns_len si1
    -- the numbers
    refine q_when (b := false) (et_is (et_test (ev_neIL (xs := (W.c false).nums) (ys := (W.c true).nums)
        (evm_new (el_lcOwn (h.e_side (t := false) (ev_var rfl) (ev_is ev_c rfl)) hd0.ob rfl hd0.nn (by rw [il_length]; omega) (fun x => rfl) (fun x H1 => fun H2 e Q q => q H2 (Ex.refl H2)) (fun x H1 => ev_var rfl)))
        (evm_new (el_lcOwn (h.e_side (t := true) (ev_var rfl) (ev_is ev_c rfl)) hd1.ob rfl hd1.nn (by rw [il_length]; omega) (fun x => rfl) (fun x H1 => fun H2 e Q q => q H2 (Ex.refl H2)) (fun x H1 => ev_var rfl))))) (by rw [decide_eq_true hnums]; rfl)) (fun h => nomatch h) fun _ H1 e1 => ?_
    refine q_forOwn (lk := lkN) ((h.ex e1).e_side (t := false) (ev_var rfl) (ev_is ev_c rfl)) (hd0.ex e1).ob rfl (hd0.ex e1).nn (fun i σ' H' => (∃ v2 v3 v4 v5, σ' = [some (.ref sl), some (.ref bl), v2, v3, v4, v5, none]) ∧ Ex H H') (fun H2 e2 => ⟨⟨none, none, none, none, rfl⟩, e1.trans e2⟩) (fun i σ' H' _ hp => sq_of (hd0.ex hp.2).nn) ?_ ?_
    · rintro i x σ' H2 hx ⟨⟨v2, v3, v4, v5, rfl⟩, e2⟩
      obtain ⟨n, hn, rfl⟩ := il_get hx
      have hn0 : n ∈ (W.c false).nums := List.mem_of_getElem? hn
      have hn1 : n ∈ (W.c true).nums := by rw [← hnums]; exact hn0
      have ht0 : n ∈ (W.c false).turns := (si0.nm n).mp hn0
      have ht1 : n ∈ (W.c true).turns := (si1.nm n).mp hn1
      have htt : ∀ t, n ∈ (W.c t).turns := fun t => by cases t <;> assumption
      have h2 := h.ex e2
      -- told
      refine ⟨.ref sl, rfl, sl, rfl, ⟨_, sq_of h2.hs⟩, fun Dl hD => ?_⟩
      refine lc_list (xs := [.ref (p false), .ref (p true)]) (fun i H' => Ex H2 H' ∧ ∃ ss : List Addr, ss.length = i ∧ H' Dl = some (.lst (ss.map .ref)) ∧ ∀ t, ix t < i → ∃ s ta, ss[ix t]? = some s ∧ s ≠ Dl ∧ H' s = some (.dK (stK (W.c t).win ((W.c t).ch n) ta)))
        ⟨Ex.new hD, [], rfl, upd_same, fun t ht => absurd ht (Nat.not_lt_zero _)⟩ (fun i H' _ hp => sq_of (hp.1 _ _ h2.hs)) ?_ ?_
      · rintro i x H3 hx3 ⟨e3, ss, hl, hDl, hss⟩
        obtain ⟨t, rfl⟩ := ix_of (i := i) (by have := (List.getElem?_eq_some_iff.mp hx3).1; simp at this; omega)
        have ex : x = .ref (p t) := by
          cases t <;> (injection hx3 with hx3; exact hx3.symm)
        subst ex
        refine ⟨rfl, ?_⟩
        unfold tYes
        dsimp only
        rw [if_pos rfl]
        have h3 := h2.ex e3
        have hsd := h3.sd t
        have hsx := hsd
        obtain ⟨dx, d, ln, lt, lo, li, kvs, hd⟩ := hsd
        refine go_meth (ev_var rfl) hd.ob rfl (ea_cons (ev_var rfl) ea_nil) fun H4 e4 => ?_
        refine ⟨o, ix t, p t, W.c t, W.out t, W.inc t, n, rfl, hsx.ex e4, htt t, fun sa ta H5 hs5 e5 g5 _ => ?_⟩
        have e45 := e4.trans e5
        have nsd : sa ≠ Dl := fun e => by
          rw [e] at hs5
          rw [e4 _ _ hDl] at hs5
          cases hs5
        have lss : ss.length ≤ 2 := by have := ix_le t; omega
        refine ⟨ss.map .ref, e45 _ _ hDl, sz_lt (by rw [List.length_map]; omega), Ex.mut (e3.trans e45) hD, ss ++ [sa], by rw [List.length_append, hl]; rfl, ?_, fun u hu => ?_⟩
        · rw [upd_same]
          simp
        · by_cases e : u = t
          · subst e
            refine ⟨sa, ta, ?_, nsd, ?_⟩
            · rw [← hl, List.getElem?_append_right (Nat.le_refl _), Nat.sub_self]
              rfl
            · rw [upd_ne nsd]
              exact g5
          · have hlt : ix u < ix t := by
              rcases bcase t u with z | z
              · exact absurd z e
              · subst z
                have := ix_ne t
                omega
            obtain ⟨s', ta', y1, y2, y3⟩ := hss u hlt
            refine ⟨s', ta', ?_, y2, ?_⟩
            · rw [List.getElem?_append_left (by omega)]
              exact y1
            · rw [upd_ne y2]
              exact e45 _ _ y3
      · rintro H3 ⟨e3, ss, hl, hDl, hss⟩
        have hl : ss.length = 2 := hl
        obtain ⟨sA, tA, x1, x2, x3⟩ := hss false (show 0 < 2 by decide)
        obtain ⟨sB, tB', y1, y2, y3⟩ := hss true (show 1 < 2 by decide)
        have ess : ss = [sA, sB] := by
          match ss, hl with
          | [a, b], _ =>
            have x1 : some a = some sA := x1
            have y1 : some b = some sB := y1
            injection x1 with x1
            injection y1 with y1
            rw [x1, y1]
        subst ess
        have hDl : H3 Dl = some (.lst [.ref sA, .ref sB]) := hDl
        dsimp only
        let sOf : Bool → Addr := fun t => if t = true then sB else sA
        let tOf : Bool → Addr := fun t => if t = true then tB' else tA
        have hDo : H3 Dl = some (.lst [.ref (sOf false), .ref (sOf true)]) := hDl
        have hso : ∀ t, H3 (sOf t) = some (.dK (stK (W.c t).win ((W.c t).ch n) (tOf t))) := fun t => by
          cases t
          · exact x3
          · exact y3
        have eTold : ∀ {σ : L2.St} {te tb : TE} {H' : Hp} (t : Bool), Ex H3 H' → Ev te σ H' (.ref Dl) → Ev tb σ H' (.int (ix t : Int)) → Ev (tOp (rIxL K) te tb) σ H' (.ref (sOf t)) := fun t e h1 h2 => ev_ixM (evm_ref h1 (e _ _ hDo)) h2 (atI_nat (by cases t <;> rfl))
        have eRst : ∀ {σ : L2.St} {te tb : TE} {H' : Hp} (t : Bool), Ex H3 H' → Ev te σ H' (.ref Dl) → Ev tb σ H' (.int (ix t : Int)) → Ev (tDGet (tOp (rIxL K) te tb) (tC (.str "reset"))) σ H' (rstV ((W.c t).ch n).rst (tOf t)) := fun t e h1 h2 => ev_dget (n := .inr "reset") (eTold t e h1 h2) (e _ _ (hso t)) ev_c rfl
        have e03 := e2.trans e3
        refine s_if (b := ((W.c false).ch n).rst.isSome || ((W.c true).ch n).rst.isSome) (et_or (et_is (et_test (ev_op (eRst false (Ex.refl _) (ev_var rfl) (ev_is ev_c rfl)) ev_c rv_notN)) (rst_some _ _)) fun _ => et_is (et_test (ev_op (eRst true (Ex.refl _) (ev_var rfl) (ev_is ev_c rfl)) ev_c rv_notN)) (rst_some _ _)) (fun hb H4 e4 => ?_) fun hb H4 e4 => ?_
        · have b01 := (wi.cinv false).both (hnx false) ht0
          have b10 := (wi.cinv true).both (hnx true) ht1
          have z0 : ((W.c false).ch n).rst ≠ none := by
            intro z
            rw [z] at hb
            have : ((W.c true).ch n).rst ≠ none := fun z' => by rw [z'] at hb; cases hb
            exact b10 this z
          have z1 : ((W.c true).ch n).rst ≠ none := b01 z0
          refine s_when (b := false) (et_or (a := false) (b := false) (et_is (et_test (ev_op (eRst false e4 (ev_var rfl) (ev_is ev_c rfl)) ev_c rv_isN)) ?_) fun _ => et_is (et_test (ev_op (eRst true e4 (ev_var rfl) (ev_is ev_c rfl)) ev_c rv_isN)) ?_) (fun h => nomatch h) fun _ H5 e5 => ?_
          · rw [rst_none]
            exact Option.isNone_eq_false_iff.mpr (Option.isSome_iff_ne_none.mpr z0)
          · rw [rst_none]
            exact Option.isNone_eq_false_iff.mpr (Option.isSome_iff_ne_none.mpr z1)
          · exact ⟨⟨_, _, _, _, rfl⟩, (e03.trans e4).trans e5⟩
        · rw [Bool.or_eq_false_iff] at hb
          have z0 : ((W.c false).ch n).rst = none := by simpa using hb.1
          have z1 : ((W.c true).ch n).rst = none := by simpa using hb.2
          have zz : ∀ t, ((W.c t).ch n).rst = none := fun t => by cases t <;> assumption
          refine s_forR1 (n := 2) (ea_cons ev_c ea_nil) ⟨by decide, by decide⟩ (fun i σ' H' => (∃ v4 v5, σ' = [some (.ref sl), some (.ref bl), some (.int n), some (.ref Dl), v4, v5, none]) ∧ Ex H3 H') (fun H5 e5 => ⟨⟨_, _, rfl⟩, e4.trans e5⟩) ?_ ?_
          · rintro i σ' H5 hi ⟨⟨v4', v5', rfl⟩, e5⟩
            obtain ⟨t, rfl⟩ := ix_of (i := i) (by omega)
            obtain ⟨q1, q2, q3⟩ := (wi.cinv t).whole (hnx t) (hnx (!t)) (fun m _ => hrd (!t) m) (htt t) (htt (!t)) (zz t) (zz (!t))
            have h5 := h.ex (e03.trans e5)
            have b5 := h5.bk t
            obtain ⟨tv, wr, gv, fi, rs, wd, kw, kg, kf, kr, b⟩ := b5
            have b5' := h5.bk (!t)
            obtain ⟨tv', wr', gv', fi', rs', wd', kw', kg', kf', kr', b'⟩ := b5'
            refine q_asgE (em_get (b.e_w (h5.e_book (ev_var rfl) (ev_var rfl))) b.hw b.cw (ev_var rfl)) fun lw H6 e6 g6 => ?_
            have h6 := h5.ex e6
            refine q_when (b := false) (et_or (a := false) (b := false) (et_is (et_test (ev_op (ev_dget (n := .inr "waiting") (eTold t (e5.trans e6) (ev_var rfl) (ev_var rfl)) ((e5.trans e6) _ _ (hso t)) ev_c rfl) ev_c (rv_ne rfl))) (by rw [q1]; decide +kernel))
              fun _ => et_is (et_test (ev_neIL (em_get ((b'.ex e6).e_g (h6.e_book (ev_var rfl) (ev_other (ev_var rfl)))) (b'.ex e6).hg (b'.ex e6).cg (ev_var rfl)) (evm_ref (ev_var rfl) g6))) (by rw [q2, decide_eq_true rfl]; rfl)) (fun h => nomatch h) fun _ H7 e7 => ?_
            have h7 := h6.ex e7
            have b7 := (b.ex e6).ex e7
            have e37 := (e5.trans e6).trans e7
            refine s_when (b := false) (et_is (et_test (ev_op (ev_dget (n := .inr "at_end") (eTold (!t) e37 (ev_var rfl) (ev_other (ev_var rfl))) (e37 _ _ (hso (!t))) ev_c rfl) (ev_din (n := .inl n) (ev_var rfl) (b7.e_f (h7.e_book (ev_var rfl) (ev_var rfl))) b7.hf) (rv_ne rfl))) ?_) (fun h => nomatch h) fun _ H8 e8 => ?_
            · have ea : atE ((W.c !t).ch n) = (valV kf (.inl n)).isSome := by
                rw [b7.cf n]
                unfold atE
                rw [zz (!t), hrd (!t) n, q3]
                simp
              rw [ea, decide_eq_true rfl]
              rfl
            · exact ⟨⟨_, _, rfl⟩, e37.trans e8⟩
          · rintro σ' H5 ⟨⟨v4', v5', rfl⟩, e5⟩
            exact ⟨⟨_, _, _, _, rfl⟩, e03.trans e5⟩
    · rintro σ' H2 ⟨_, e2⟩
      exact s_ret ev_c fun H3 e3 => k H3 (e2.trans e3)
end Thl

/-! The law. -/
namespace Thl
open PySem PySem.Spec PyProof.Rows L2 Evl
variable {P : Program} {w : World} {K : PySem.W.Frag} {mg : Str → Option Value} {base : Heap} {C D : Addr}
/-! ### at the start -/
theorem own0 {f : Bool} {n : Int} : ¬ Own f 0 n := fun ⟨j, h1, h2, _⟩ => by omega
theorem sinv0 {f : Bool} {wd m : Int} (hw : 1 ≤ wd ∧ wd ≤ 12) (hm : 1 ≤ m ∧ m ≤ 8) : SInv (Co.init f wd m) 0 :=
  ⟨hw.1, hw.2, hm.1, hm.2, fun _ => LInv.new hw.1 false, Nat.le_refl _, by show 0 ≤ 4; omega, by show 0 ≤ 4; omega, fun n => ⟨fun z => (by cases z), fun z => (z.elim own0 own0).elim⟩, List.nodup_nil, List.Pairwise.nil, List.Perm.refl _,
    fun n => ⟨fun z => (by cases z), fun z => (z.elim own0 own0).elim⟩, rfl, fun _ _ => rfl, rfl⟩
theorem cinv0 {f : Bool} {wd m wd' m' : Int} (hw : 1 ≤ wd ∧ wd ≤ 12) (hm : 1 ≤ m ∧ m ≤ 8) (hw' : 1 ≤ wd' ∧ wd' ≤ 12) (hm' : 1 ≤ m' ∧ m' ≤ 8) : CInv (Co.init f wd m) (Co.init (!f) wd' m') Bc.nil Bc.nil [] [] 0 0 :=
  ⟨sinv0 hw hm, sinv0 hw' hm', rfl, fun n => PInv.new false false, fun n => PInv.new false false, fun n => ⟨rfl, fun k z => (by cases z)⟩, fun n => ⟨rfl, fun k z => (by cases z)⟩, rfl, rfl, fun f z => (by cases z), fun f z => (by cases z)⟩
def LW.init (wn ms : Bool → Int) : LW := ⟨fun t => Co.init (!t) (wn t) (ms t), fun _ => Bc.nil, fun _ => [], fun _ => [], fun _ => []⟩
theorem WOk.init {wn ms : Bool → Int} (hw : ∀ t, 1 ≤ wn t ∧ wn t ≤ 12) (hm : ∀ t, 1 ≤ ms t ∧ ms t ≤ 8) : WOk (LW.init wn ms) wn 0 :=
  ⟨⟨fun _ => [], fun _ => 0, ⟨fun t => cinv0 (hw t) (hm t) (hw !t) (hm !t), fun t => rfl, fun t => .inl rfl⟩⟩, fun t => rfl, fun t => Nat.zero_le _, fun t => Nat.zero_le _, fun t => Nat.zero_le _, fun t n => Nat.zero_le _⟩
theorem sql_kp {S : Role → Prop} {o o' : Ow} {H H' : Hp} {a : Addr} {xs : List V} (h : SqL K H a xs) (k : Keep S o H o' H') (ho : ∀ x, H a = some x → ¬ S (o a)) : SqL K H' a xs := by
  rcases h with (h | ⟨ob, h⟩) | h
  · exact .inl (.inl (k _ _ h (ho _ h)).1)
  · exact .inl (.inr ⟨ob, (k _ _ h (ho _ h)).1⟩)
  · exact .inr h
/-- not _law_holds(sides[turn], books[turn], books[1 - turn], windows[turn]) -/
theorem et_hold {o : Ow} {H : Hp} {sl bl lw : Addr} {p q : Bool → Addr} {W : LW} {t : Bool} {wn : Bool → Int} {σ : L2.St} {t2 t3 t4 t6 : TE} (h : WAt C D o H sl bl p q W) (hi : ∃ F a, WI W F a) (hwn : ∀ t, (W.c t).win = wn t) (hlw : H lw = some (.lst [.int (wn false), .int (wn true)]))
    (i3 : Ev t3 σ H (.ref sl)) (i4 : Ev t4 σ H (.ref bl)) (i2 : Ev t2 σ H (.ref lw)) (i6 : Ev t6 σ H (.int (ix t : Int))) :
    EvT (tNot (tB (tCall (spHold C D) [] E0 (tCons (tOp (rIxL K) t3 t6) (tCons (tOp (rIxL K) t4 t6) (tCons (tOp (rIxL K) t4 (tOp (rI0 fun i j => V.int (i - j)) (tC (.int 1)) t6)) (tCons (tOp (rIxL K) t2 t6) tNil))))))) σ H false := by
  obtain ⟨F, a, wi⟩ := hi
  refine et_is (et_not (et_B (b := true) (ev_fn (ea_cons (h.e_side i3 i6) (ea_cons (h.e_book i4 i6) (ea_cons (h.e_book i4 (ev_other i6)) (ea_cons (ev_ixM (v := .int (wn t)) (evm_ref i2 hlw) i6 (atI_nat (by cases t <;> rfl))) ea_nil)))) fun H1 e Q q' E => ?_))) rfl
  refine ⟨o, ix t, 2 + ix t, 2 + ix (!t), p t, q t, q (!t), W.c t, W.c (!t), W.out t, W.inc t, W.k t, W.k (!t), W.wire t, W.wire (!t), F t, F (!t), a t, a (!t), ?_, (h.ex e).sd t, (h.ex e).bk t, (h.ex e).bk (!t), wi.cinv t, q'⟩
  rw [hwn]
def spLaw (K : PySem.W.Frag) : Sp := fun vs H Q _ => ∃ (a : Addr) (ns : List Int), vs = [.ref a] ∧ SqL K H a (ns.map V.int) ∧ ns.length ≤ 63 ∧ ∀ H', Q (.bl true) H'
def nmLaw : List Str := ["_law_script", "_law_state", "_law_windows", "_law_sides", "_law_books", "_law_k", "_law_turn"]
theorem scLaw : FnScope nmLaw ["_law_script"] (defScope (top 31)) := ⟨rfl, rfl, rfl, by decide +kernel, rfl, by decide +kernel, by decide +kernel⟩
/-- what the law calls -/
structure LawC (P : Program) (w : World) (K : PySem.W.Frag) (mg : Str → Option Value) (base : Heap) (C D : Addr) : Prop where
  cell : Ft P w K mg base "_law_cell" 1 ["_law_script", "_law_k"] (spCell K)
  start : Ft P w K mg base "_law_start" 1 ["_law_cell_here", "_law_k"] spStart
  dig : Ft P w K mg base "_law_digit" 1 ["_law_state", "_law_many"] spDigit
  book : Ft P w K mg base "_law_book" 1 ["_law_turn"] spBook
  step : Ft P w K mg base "_law_step" 7 ["_law_sides", "_law_books", "_law_state"] (spStep C D)
  hold : Ft P w K mg base "_law_holds" 3 ["_law_side", "_law_book_here", "_law_far", "_law_window"] (spHold C D)
  settle : Ft P w K mg base "_law_settle" 7 ["_law_sides", "_law_books"] (spSettle C D)
  settled : Ft P w K mg base "_law_settled" 3 ["_law_sides", "_law_books"] (spSettled C D)
  mkd : MkP P w K mg base D 1 ["self", "first", "window", "most"] 0 ["first", "window", "most"] (spSInit C D)
theorem ok_law {f : Addr} {fd : FuncData} (F : Fun K "law" "law" (top 31) f fd) (T : Txt K mg C D) (M : LawC P w K mg base C D) : FnOk P w K mg base CX0 8 f fd ["_law_script"] (spLaw K) := by
  refine F.ok scLaw (fun vs H Q E h => ?_) (fun cdv A0 outer s0 H vs Q E hr h => ?_)
  · obtain ⟨a, ns, rfl, _⟩ := h
    rfl
  · obtain ⟨a, ns, rfl, hq, hlen, k⟩ := h
    have hu := hu_of hr
    have hr1 : Room 1 _ := hr.mono (by decide)
    have hr2 : Room (1 + 1) _ := hr.mono (by decide)
    have hr3 : Room 3 _ := hr.mono (by decide)
    refine ⟨_, pss_cons (ps_set (i := 1) scLaw.nd rfl (.inr rfl) (pfn M.start hr1 (pa_cons (pfn M.cell hr1 (pa_cons (pv 0) (pa_cons pe_int pa_nil))) (pa_cons pe_int pa_nil))))
      (pss_cons (ps_set (i := 2) scLaw.nd rfl (.inr rfl) (pe_lst (pa_cons (pe_op op_add pe_int (pfn M.dig hr1 (pa_cons (pv 1) (pa_cons pe_int pa_nil)))) (pa_cons (pe_op op_add pe_int (pfn M.dig hr1 (pa_cons (pv 1) (pa_cons pe_int pa_nil)))) pa_nil))))
      (pss_cons (ps_setLc (own := [("_law_turn", 6)]) (g := gName 6) rfl scLaw.nd (i := 3) rfl rfl (by rfl) (pi_range1 (by rfl) T.range (pa_cons pe_int pa_nil)) (blkOk_by (own := [("_law_turn", 6)]) (N := nmLaw) (sc := defScope (top 31)) (by decide +kernel)) (fun _ _ _ _ _ => pg_name (i := 6) scLaw.nd rfl (Or.inl rfl)) (fun _ _ _ _ _ => pts_nil)
          (fun _ _ _ _ _ => pmk M.mkd fun _ _ _ m b g => pe_makeK0 m g hr2 rfl T.mgD b pass0 (pk_cons (pe_cmpR op_eq (pv 6) pe_int (nomark _)) (pk_cons (pe_ix (ix_list : IxR _ (rIxL K)) (pv 2) (pv 6) (fun _ _ => rfl)) (pk_cons (pe_op op_add pe_int (pfn M.dig hr1 (pa_cons (pv 1) (pa_cons pe_int pa_nil)))) pk_nil)))))
      (pss_cons (ps_set (i := 4) scLaw.nd rfl (.inl rfl) (pe_lst (pa_cons (pfn M.book hr1 (pa_cons pe_int pa_nil)) (pa_cons (pfn M.book hr1 (pa_cons pe_int pa_nil)) pa_nil))))
      (pss_cons (ps_for PassesOwn.never rfl (pi_range1 (by rfl) T.range (pa_cons (pe_callB (call_min2 rfl) (by rfl) T.min (by decide +kernel) (pa_cons pe_int (pa_cons (pe_callB (call_max2 rfl) (by rfl) T.max (by decide +kernel) (pa_cons pe_int (pa_cons (pe_op op_sub (pe_callB call_len_seq (by rfl) T.len PySem.boot_len (pa_cons (pv 0) pa_nil)) pe_int) pa_nil))) pa_nil))) pa_nil)) (pg_name (i := 5) scLaw.nd rfl (Or.inl rfl))
          (pss_cons (ps_if (pt_not (pt_val (pfn M.step hr (pa_cons (pv 3) (pa_cons (pv 4) (pa_cons (pfn M.start hr1 (pa_cons (pfn M.cell hr1 (pa_cons (pv 0) (pa_cons (pe_op op_add pe_int (pv 5)) pa_nil))) (pa_cons (pv 5) pa_nil))) pa_nil)))))) (pss_one ps_never) pss_nil)
          (pss_one (ps_for PassesOwn.never rfl (pi_range1 (by rfl) T.range (pa_cons pe_int pa_nil)) (pg_name (i := 6) scLaw.nd rfl (Or.inl rfl))
            (pss_one (ps_if (pt_not (pt_val (pfn M.hold hr3 (pa_cons (pe_ix ix_list (pv 3) (pv 6) (fun _ _ => rfl)) (pa_cons (pe_ix ix_list (pv 4) (pv 6) (fun _ _ => rfl)) (pa_cons (pe_ix ix_list (pv 4) (pe_op op_sub pe_int (pv 6)) (fun _ _ => rfl)) (pa_cons (pe_ix ix_list (pv 2) (pv 6) (fun _ _ => rfl)) pa_nil))))))) (pss_one ps_never) pss_nil))))))
      (pss_cons (ps_if (pt_not (pt_val (pfn M.settle hr (pa_cons (pv 3) (pa_cons (pv 4) pa_nil))))) (pss_one ps_never) pss_nil)
      (pss_cons (ps_for PassesOwn.never rfl (pi_range1 (by rfl) T.range (pa_cons pe_int pa_nil)) (pg_name (i := 6) scLaw.nd rfl (Or.inl rfl))
            (pss_one (ps_if (pt_not (pt_val (pfn M.hold hr3 (pa_cons (pe_ix ix_list (pv 3) (pv 6) (fun _ _ => rfl)) (pa_cons (pe_ix ix_list (pv 4) (pv 6) (fun _ _ => rfl)) (pa_cons (pe_ix ix_list (pv 4) (pe_op op_sub pe_int (pv 6)) (fun _ _ => rfl)) (pa_cons (pe_ix ix_list (pv 2) (pv 6) (fun _ _ => rfl)) pa_nil))))))) (pss_one ps_never) pss_nil)))
      (pss_one (ps_ret (pfn M.settled hr3 (pa_cons (pv 3) (pa_cons (pv 4) pa_nil))))))))))), ?_⟩
    -- the state of the digits
    refine go_call (sp := spCell K) (ea_cons (ev_var rfl) (ea_cons ev_c ea_nil)) fun H1 e1 => ⟨a, ns, 0, rfl, ex_l e1 hq, fun v0 H2 e2 => ?_⟩
    refine ⟨v0, 0, rfl, by omega, fun s sv H3 hs3 e3 g3 => ?_⟩
    have e13 := (e1.trans e2).trans e3
    have k3 : Keep OfX (fun _ => (4, 0, 4)) H (Ow.put (fun _ => (4, 0, 4)) s (4, 0, 0)) H3 := (Keep.ex e13).own (fresh_back (e1.trans e2) hs3)
    have st3 : StO (Ow.put (fun _ => (4, 0, 4)) s (4, 0, 0)) H3 s := ⟨⟨sv, g3⟩, put_same⟩
    generalize ho1 : Ow.put (fun _ => (4, 0, 4)) s (4, 0, 0) = o1 at k3 st3
    dsimp only
    -- the windows
    refine go_digit st3 (ev_var rfl) ev_c (by decide) (by decide) fun x0 H4 a0 a1 k4 st4 => ⟨_, _, rfl, rfl, ?_⟩
    refine go_digit st4 (ev_var rfl) ev_c (by decide) (by decide) fun x1 H5 b0 b1 k5 st5 => ⟨_, _, rfl, rfl, ?_⟩
    refine ⟨by show 2 ≤ sizeLine; decide, fun lw hlw => ?_⟩
    obtain ⟨wn, hwn0, hwn1, hwn⟩ : ∃ wn : Bool → Int, 1 + x0 = wn false ∧ 1 + x1 = wn true ∧ ∀ t, 1 ≤ wn t ∧ wn t ≤ 12 := ⟨fun t => if t = true then 1 + x1 else 1 + x0, rfl, rfl, fun t => by cases t <;> simp <;> omega⟩
    dsimp only
    rw [hwn0, hwn1]
    have nsw : s ≠ lw := by
      obtain ⟨⟨v, hv⟩, _⟩ := st5
      exact ne_of_none hv hlw
    have st6 : StO (o1.put lw (4, 0, 3)) (upd H5 lw (.lst [.int (wn false), .int (wn true)])) s := by
      obtain ⟨⟨v, hv⟩, ho⟩ := st5
      exact ⟨⟨v, by rw [upd_ne nsw]; exact hv⟩, by rw [put_ne nsw]; exact ho⟩
    have k6 : Keep OfX (fun _ => (4, 0, 4)) H (o1.put lw (4, 0, 3)) (upd H5 lw (.lst [.int (wn false), .int (wn true)])) := ((k3.trans k4.tX).trans k5.tX).trans ((Keep.ex (Ex.new hlw)).own hlw)
    have g6 : (upd H5 lw (.lst [.int (wn false), .int (wn true)])) lw = some (.lst [.int (wn false), .int (wn true)]) := upd_same
    have r6 : (o1.put lw (4, 0, 3)) lw = (4, 0, 3) := put_same
    generalize o1.put lw (4, 0, 3) = o6 at k6 st6 r6
    generalize upd H5 lw (.lst [.int (wn false), .int (wn true)]) = H6 at k6 st6 g6 ⊢
    -- the sides
    refine ⟨2, rfl, by decide, by decide, fun sl hsl => ?_⟩
    have nsl : s ≠ sl := by
      obtain ⟨⟨v, hv⟩, _⟩ := st6
      exact ne_of_none hv hsl
    have nlw : lw ≠ sl := ne_of_none g6 hsl
    have h0sl : H sl = none := by
      cases z : H sl with
      | none => rfl
      | some y =>
        have := (k6 _ _ z (by rintro (z | z) <;> simp at z)).1
        rw [hsl] at this
        cases this
    refine lc_range (lo := 0) (n := 2) (fun i H' => ∃ (o' : Ow) (ps : List Addr) (ms : Bool → Int), ps.length = i ∧ H' sl = some (.lst (ps.map .ref)) ∧ o' sl = (4, 0, 1) ∧ StO o' H' s ∧ (H' lw = some (.lst [.int (wn false), .int (wn true)]) ∧ o' lw = (4, 0, 3)) ∧
        Keep OfX (fun _ => (4, 0, 4)) H o' H' ∧ ∀ t, ix t < i → (1 ≤ ms t ∧ ms t ≤ 8) ∧ ∃ pt, ps[ix t]? = some pt ∧ SdX C D o' H' (ix t) pt (Co.init (!t) (wn t) (ms t)) [] [])
      ⟨o6.put sl (4, 0, 1), [], fun _ => 1, rfl, upd_same, put_same, ?_, ⟨by rw [upd_ne nlw]; exact g6, by rw [put_ne nlw]; exact r6⟩, k6.trans ((Keep.ex (Ex.new hsl)).own hsl), fun t ht => absurd ht (Nat.not_lt_zero _)⟩ ?_ ?_
    · obtain ⟨⟨v, hv⟩, ho⟩ := st6
      exact ⟨⟨v, by rw [upd_ne nsl]; exact hv⟩, by rw [put_ne nsl]; exact ho⟩
    · rintro i H7 hi ⟨o', ps, ms, hl, hsl7, osl, st7, ⟨hlw7, olw⟩, k7, hps⟩
      obtain ⟨t, rfl⟩ := ix_of hi
      have lt1 := ix_le t
      refine ⟨rfl, ?_⟩
      unfold tYes
      dsimp only
      rw [if_pos rfl]
      have e0 : (0 : Int) + (ix t : Int) = (ix t : Int) := Int.zero_add _
      rw [e0]
      have hb : decide (V.int (ix t : Int) = V.int 0) = !t := by cases t <;> decide +kernel
      refine ⟨_, rfl, rfl, ?_⟩
      rw [hb]
      refine ⟨_, rfl, _, rfl, lw, _, _, .int (wn t), rfl, rfl, sq_of hlw7, atI_nat (by cases t <;> rfl), ?_⟩
      refine go_digit st7 (ev_var rfl) ev_c (by decide) (by decide) fun m H8 m0 m1 k8 st8 => ⟨_, _, rfl, rfl, rfl, rfl, fun x dx hx hdx hne => ?_⟩
      refine ⟨o', ix t, x, dx, !t, wn t, 1 + m, rfl, by have := hwn t; omega, by omega, upd_same, fun o9 H9 hx9 hk9 => ⟨rfl, ?_⟩⟩
      have kk : Keep (fun _ => False) o' H8 o9 H9 := fun b y hb _ => hk9 b y (by rw [upd_ne (ne_of_none hb hx), upd_ne (ne_of_none hb hdx)]; exact hb) (ne_of_none hb hx)
      have sl8 := k8 _ _ hsl7 (by rw [osl]; exact fun z => by simp at z)
      have sl9 := kk _ _ sl8.1 id
      have osl9 : o9 sl = (4, 0, 1) := sl9.2.trans osl
      have ku : Keep (fun r => r = (4, 0, 1)) o9 H9 o9 (upd H9 sl (.lst (ps.map .ref ++ [.ref x]))) := Keep.refl.upd fun _ _ => osl9
      have lw8 := k8 _ _ hlw7 (by rw [olw]; exact fun z => by simp at z)
      have lw9 := kk _ _ lw8.1 id
      refine ⟨ps.map .ref, sl9.1, sz_lt (by rw [List.length_map]; omega), o9, ps ++ [x], up ms t (1 + m), by rw [List.length_append, hl]; rfl, by rw [upd_same]; simp, osl9, ?_, ⟨by rw [upd_ne nlw]; exact lw9.1, lw9.2.trans olw⟩, ?_, fun u hu => ?_⟩
      · obtain ⟨⟨v, hv⟩, ho⟩ := st8
        have := kk _ _ hv id
        exact ⟨⟨v, by rw [upd_ne nsl]; exact this.1⟩, this.2.trans ho⟩
      · exact ((k7.trans k8.tX).trans (kk.mono fun _ z => z.elim)).upd fun y hy => by rw [h0sl] at hy; cases hy
      · have lu := ix_le u
        by_cases e : u = t
        · subst e
          rw [up_same]
          refine ⟨by omega, x, ?_, hx9.keep ku fun r hr z => ?_⟩
          · rw [← hl, List.getElem?_append_right (Nat.le_refl _), Nat.sub_self]
            rfl
          · rw [z] at hr
            have hr : 4 = ix u := hr
            omega
        · rw [up_ne _ _ e]
          have hlt : ix u < ix t := by
            rcases bcase t u with z | z
            · exact absurd z e
            · subst z
              have := ix_ne t
              omega
          obtain ⟨y1, pt, y2, y3⟩ := hps u hlt
          refine ⟨y1, pt, ?_, ((y3.keep k8 fun r hr z => ?_).keep kk fun r hr z => z).keep ku fun r hr z => ?_⟩
          · rw [List.getElem?_append_left (by omega)]
            exact y2
          · rw [z] at hr
            have hr : 4 = ix u := hr
            omega
          · rw [z] at hr
            have hr : 4 = ix u := hr
            omega
    rintro H7 ⟨o', ps, ms, hl, hsl7, osl, st7, ⟨hlw7, olw⟩, k7, hps⟩
    obtain ⟨p0, p1, rfl⟩ : ∃ p0 p1, ps = [p0, p1] := by
      match ps, hl with
      | [x, y], _ => exact ⟨x, y, rfl⟩
    obtain ⟨p, hp0, hp1⟩ : ∃ p : Bool → Addr, p0 = p false ∧ p1 = p true := ⟨fun t => if t = true then p1 else p0, rfl, rfl⟩
    subst hp0
    subst hp1
    have hms : ∀ t, 1 ≤ ms t ∧ ms t ≤ 8 := fun t => (hps t (by have := ix_le t; omega)).1
    have hsd : ∀ t, SdX C D o' H7 (ix t) (p t) (Co.init (!t) (wn t) (ms t)) [] [] := fun t => by
      obtain ⟨_, pt, y2, y3⟩ := hps t (by have := ix_le t; omega)
      have : pt = p t := by
        cases t <;> (injection y2 with y2; exact y2.symm)
      rw [← this]
      exact y3
    dsimp only
    -- the books
    refine go_call (sp := spBook) (ea_cons ev_c ea_nil) fun H8 e8 => ⟨o', 2, 0, rfl, fun q0 o9 H9 bk0 k9 => ?_⟩
    refine go_call (sp := spBook) (ea_cons ev_c ea_nil) fun H10 e10 => ⟨o9, 3, 1, rfl, fun q1 o11 H11 bk1 k11 => ?_⟩
    refine ⟨by show 2 ≤ sizeLine; decide, fun bl hbl => ?_⟩
    obtain ⟨q, hq0, hq1⟩ : ∃ q : Bool → Addr, q0 = q false ∧ q1 = q true := ⟨fun t => if t = true then q1 else q0, rfl, rfl⟩
    subst hq0
    subst hq1
    have kl : Keep (fun _ => False) o11 H11 (o11.put bl (4, 0, 2)) (upd H11 bl (.lst [.ref (q false), .ref (q true)])) := (Keep.ex (Ex.new hbl)).own hbl
    have kb := (((Keep.ex (S := fun _ => False) (o := o') e8).trans k9).trans ((Keep.ex e10).trans k11)).trans kl
    have w12 : WAt C D (o11.put bl (4, 0, 2)) (upd H11 bl (.lst [.ref (q false), .ref (q true)])) sl bl p q (LW.init wn ms) := by
      have h1 := kb _ _ hsl7 id
      refine ⟨h1.1, h1.2.trans osl, upd_same, put_same, fun t => (hsd t).keep kb fun _ _ z => z, fun t => ?_⟩
      cases t
      · exact ((bk0.ex e10).keep k11 fun _ _ z => z).keep kl fun _ _ z => z
      · exact bk1.keep kl fun _ _ z => z
    have k12 : Keep OfX (fun _ => (4, 0, 4)) H (o11.put bl (4, 0, 2)) (upd H11 bl (.lst [.ref (q false), .ref (q true)])) := k7.trans (kb.mono fun _ z => z.elim)
    have lw12 := kb _ _ hlw7 id
    rw [olw] at lw12
    have hw0 := WOk.init hwn hms
    generalize o11.put bl (4, 0, 2) = o12 at w12 k12 lw12
    generalize upd H11 bl (.lst [.ref (q false), .ref (q true)]) = H12 at w12 k12 lw12 ⊢
    dsimp only
    have hqk : ∀ {o' H'}, Keep OfX o12 H12 o' H' → SqL K H' a (ns.map V.int) := fun k' => sql_kp hq (k12.trans k') fun x _ => by rintro (z | z) <;> simp at z
    have lwk : ∀ {o' H'}, Keep OfX o12 H12 o' H' → H' lw = some (.lst [.int (wn false), .int (wn true)]) := fun k' => (k' _ _ lw12.1 (by rw [lw12.2]; rintro (z | z) <;> simp at z)).1
    -- the steps
    have hlenE := ev_len (K := K) (ev_var (i := 0) (v := .ref a) (σ := [some (.ref a), some (.ref s), some (.ref lw), some (.ref sl), some (.ref bl), none, none]) rfl) (hqk Keep.refl)
    rw [List.length_map] at hlenE
    refine q_forR1 (n := min 58 (if ((ns.length : Int) - 1) > 8 then ((ns.length : Int) - 1) else 8)) (ea_cons (ev_min2 ev_c (ev_max2 ev_c (ev_op hlenE ev_c rv_I0))) ea_nil) ⟨by split <;> omega, by omega⟩
      (fun i σ' H' => (∃ v5 v6, σ' = [some (.ref a), some (.ref s), some (.ref lw), some (.ref sl), some (.ref bl), v5, v6]) ∧ ∃ W' o', WAt C D o' H' sl bl p q W' ∧ WOk W' wn (2 * i) ∧ Keep OfX o12 H12 o' H')
      (fun H13 e13 => ⟨⟨_, _, rfl⟩, _, o12, w12.ex e13, hw0, Keep.ex e13⟩) ?_ ?_
    · rintro i σ' H13 hi ⟨⟨v5, v6, rfl⟩, W', o', w13, wk13, k13⟩
      have hi58 : i < 58 := by omega
      refine ⟨_, rfl, _, rfl, ?_⟩
      refine go_call (sp := spCell K) (ea_cons (ev_var rfl) (ea_cons (x := .int ((1 + i : Nat) : Int)) (ev_is (ev_op ev_c (ev_var rfl) rv_I0) (by push_cast; rfl)) ea_nil)) fun H14 e14 => ⟨a, ns, 1 + i, rfl, ex_l e14 (hqk k13), fun v H15 e15 => ?_⟩
      refine ⟨_, rfl, ?_⟩
      refine ⟨v, i, rfl, by omega, fun s' sv' H16 hs' e16 g16 => ?_⟩
      have kst : Keep (fun _ => False) o' H15 (o'.put s' (4, 0, 0)) H16 := (Keep.ex e16).own hs'
      have w16 := ((w13.ex e14).ex e15).keep kst (fun _ z => z.elim) fun _ z => z.elim
      refine ⟨o'.put s' (4, 0, 0), sl, bl, s', p, q, W', wn, 2 * i, rfl, w16, wk13, by omega, ⟨⟨sv', g16⟩, put_same⟩, fun W2 o17 H17 w17 wk17 k17 => ⟨true, rfl, (if_neg (by decide)).mpr ?_⟩⟩
      have kk17 : Keep OfX o12 H12 o17 H17 := ((k13.trans (Keep.ex (e14.trans e15))).trans (kst.mono fun _ z => z.elim)).trans k17
      obtain ⟨F, an, wi⟩ := wk17.inv
      refine s_forR1 (n := 2) (ea_cons ev_c ea_nil) ⟨by decide, by decide⟩ (fun j σ' H' => (∃ v6, σ' = [some (.ref a), some (.ref s), some (.ref lw), some (.ref sl), some (.ref bl), some (.int (i : Int)), v6]) ∧ Ex H17 H') (fun H18 e18 => ⟨⟨_, rfl⟩, e18⟩) ?_ ?_
      · rintro j σ' H18 hj ⟨⟨v6', rfl⟩, e18⟩
        obtain ⟨t, rfl⟩ := ix_of (i := j) (by omega)
        refine s_when (b := false) (et_hold (w17.ex e18) ⟨F, an, wi⟩ wk17.wn (e18 _ _ (lwk kk17)) (ev_var rfl) (ev_var rfl) (ev_var rfl) (ev_var rfl)) (fun h => nomatch h) fun _ H19 e19 => ⟨⟨_, rfl⟩, e18.trans e19⟩
      · rintro σ' H18 ⟨⟨v6', rfl⟩, e18⟩
        exact ⟨⟨_, _, rfl⟩, W2, o17, w17.ex e18, wk17, kk17.trans (Keep.ex e18)⟩
    · rintro σ' H13 ⟨⟨v5, v6, rfl⟩, W', o', w13, wk13, k13⟩
      -- the settling
      obtain ⟨F, an, sI⟩ := wk13.set (by split <;> omega)
      refine go_call (ea_cons (ev_var rfl) (ea_cons (ev_var rfl) ea_nil)) fun H14 e14 => ?_
      refine ⟨o', sl, bl, p, q, W', wn, F, an, rfl, w13.ex e14, sI, fun W2 o15 H15 w15 qt wn15 k15 => ⟨true, rfl, (if_neg (by decide)).mpr ?_⟩⟩
      have kk15 : Keep OfX o12 H12 o15 H15 := (k13.trans (Keep.ex e14)).trans k15
      obtain ⟨an', wi'⟩ := qt.1
      refine q_forR1 (n := 2) (ea_cons ev_c ea_nil) ⟨by decide, by decide⟩ (fun j σ' H' => (∃ v6, σ' = [some (.ref a), some (.ref s), some (.ref lw), some (.ref sl), some (.ref bl), v5, v6]) ∧ Ex H15 H') (fun H16 e16 => ⟨⟨_, rfl⟩, e16⟩) ?_ ?_
      · rintro j σ' H16 hj ⟨⟨v6', rfl⟩, e16⟩
        obtain ⟨t, rfl⟩ := ix_of (i := j) (by omega)
        refine s_when (b := false) (et_hold (w15.ex e16) ⟨_, an', wi'⟩ wn15 (e16 _ _ (lwk kk15)) (ev_var rfl) (ev_var rfl) (ev_var rfl) (ev_var rfl)) (fun h => nomatch h) fun _ H17 e17 => ⟨⟨_, rfl⟩, e16.trans e17⟩
      · rintro σ' H16 ⟨⟨v6', rfl⟩, e16⟩
        refine go_call (ea_cons (ev_var rfl) (ea_cons (ev_var rfl) ea_nil)) fun H17 e17 => ?_
        exact ⟨o15, sl, bl, p, q, W2, rfl, (w15.ex e16).ex e17, qt, fun H18 _ => k H18⟩
end Thl

namespace Thl
open PySem PySem.Spec PyProof.Rows L2 Evl
theorem all_mk {l : PySem.W.OpenLaw} {w : World} {K : PySem.W.Frag} {h : Heap} {mg : Str → Option Value} {fa C D W : Addr} {oW : Obj} {isW : Array Value} {nW : Nat} {uM : Value} (X : K.In h) (G : h.Ns mainGlobals mg) (hfa : mg "law" = some (.ref fa))
    {f_two f_write f_first f_cell f_isi f_start f_digit f_book f_chan f_lw f_lr f_mv f_step f_hold f_settle f_settled f_cinit f_has f_owes f_nextf f_drop f_prob f_takef f_sinit f_len f_iter f_known f_theirs f_room f_add f_open f_wr f_rd f_fin f_rs f_st f_nextt f_next f_take f_ff f_tf f_recv f_law : Addr}
    {od_two an_two od_write an_write od_first an_first od_cell an_cell od_isi an_isi od_start an_start od_digit an_digit od_book an_book od_chan an_chan od_lw an_lw od_lr an_lr od_mv an_mv od_step an_step od_hold an_hold od_settle an_settle od_settled an_settled od_cinit an_cinit od_has an_has od_owes an_owes od_nextf an_nextf od_drop an_drop od_prob an_prob od_takef an_takef od_sinit an_sinit od_len an_len od_iter an_iter od_known an_known od_theirs an_theirs od_room an_room od_add an_add od_open an_open od_wr an_wr od_rd an_rd od_fin an_fin od_rs an_rs od_st an_st od_nextt an_nextt od_next an_next od_take an_take od_ff an_ff od_tf an_tf od_recv an_recv od_law an_law : Option Addr}
    {sl_two sl_write sl_first sl_cell sl_isi sl_start sl_digit sl_book sl_chan sl_lw sl_lr sl_mv sl_step sl_hold sl_settle sl_settled sl_cinit sl_has sl_owes sl_nextf sl_drop sl_prob sl_takef sl_sinit sl_len sl_iter sl_known sl_theirs sl_room sl_add sl_open sl_wr sl_rd sl_fin sl_rs sl_st sl_nextt sl_next sl_take sl_ff sl_tf sl_recv sl_law : Array (Option Value)}
    {oc_two kV_two dc_two pm_two cd_two ct_two oc_write kV_write dc_write pm_write cd_write ct_write oc_first kV_first dc_first pm_first cd_first ct_first oc_cell kV_cell dc_cell pm_cell cd_cell ct_cell oc_isi kV_isi dc_isi pm_isi cd_isi ct_isi oc_start kV_start dc_start pm_start cd_start ct_start oc_digit kV_digit dc_digit pm_digit cd_digit ct_digit oc_book kV_book dc_book pm_book cd_book ct_book oc_chan kV_chan dc_chan pm_chan cd_chan ct_chan oc_lw kV_lw dc_lw pm_lw cd_lw ct_lw oc_lr kV_lr dc_lr pm_lr cd_lr ct_lr oc_mv kV_mv dc_mv pm_mv cd_mv ct_mv oc_step kV_step dc_step pm_step cd_step ct_step oc_hold kV_hold dc_hold pm_hold cd_hold ct_hold oc_settle kV_settle dc_settle pm_settle cd_settle ct_settle oc_settled kV_settled dc_settled pm_settled cd_settled ct_settled oc_cinit kV_cinit dc_cinit pm_cinit cd_cinit ct_cinit oc_has kV_has dc_has pm_has cd_has ct_has oc_owes kV_owes dc_owes pm_owes cd_owes ct_owes oc_nextf kV_nextf dc_nextf pm_nextf cd_nextf ct_nextf oc_drop kV_drop dc_drop pm_drop cd_drop ct_drop oc_prob kV_prob dc_prob pm_prob cd_prob ct_prob oc_takef kV_takef dc_takef pm_takef cd_takef ct_takef oc_sinit kV_sinit dc_sinit pm_sinit cd_sinit ct_sinit oc_len kV_len dc_len pm_len cd_len ct_len oc_iter kV_iter dc_iter pm_iter cd_iter ct_iter oc_known kV_known dc_known pm_known cd_known ct_known oc_theirs kV_theirs dc_theirs pm_theirs cd_theirs ct_theirs oc_room kV_room dc_room pm_room cd_room ct_room oc_add kV_add dc_add pm_add cd_add ct_add oc_open kV_open dc_open pm_open cd_open ct_open oc_wr kV_wr dc_wr pm_wr cd_wr ct_wr oc_rd kV_rd dc_rd pm_rd cd_rd ct_rd oc_fin kV_fin dc_fin pm_fin cd_fin ct_fin oc_rs kV_rs dc_rs pm_rs cd_rs ct_rs oc_st kV_st dc_st pm_st cd_st ct_st oc_nextt kV_nextt dc_nextt pm_nextt cd_nextt ct_nextt oc_next kV_next dc_next pm_next cd_next ct_next oc_take kV_take dc_take pm_take cd_take ct_take oc_ff kV_ff dc_ff pm_ff cd_ff ct_ff oc_tf kV_tf dc_tf pm_tf cd_tf ct_tf oc_recv kV_recv dc_recv pm_recv cd_recv ct_recv oc_law kV_law dc_law pm_law cd_law ct_law : Value}
    (aC : PySem.W.nsIn K mainGlobals "Channel" = some (some (.ref C)))
    (aD : PySem.W.nsIn K mainGlobals "Channels" = some (some (.ref D)))
    (aW : PySem.W.nsIn K mainGlobals "WORDS" = some (some (.ref W)))
    (a_two : PySem.W.nsIn K mainGlobals "two_octets" = some (some (.ref f_two)))
    (l_two : K.lookup f_two = some ⟨oc_two, od_two, .func (PySem.W.fnOf "two_octets" "two_octets" (defArgs (top 12)) (defBody (top 12)) (defScope (top 12)) .none kV_two dc_two pm_two an_two cd_two ct_two), sl_two⟩)
    (c_two : PySem.W.codeIn K cd_two "two_octets" = true)
    (k_two : PySem.W.keepIn K (.ref f_two) = true)
    (a_write : PySem.W.nsIn K mainGlobals "write_frame" = some (some (.ref f_write)))
    (l_write : K.lookup f_write = some ⟨oc_write, od_write, .func (PySem.W.fnOf "write_frame" "write_frame" (defArgs (top 13)) (defBody (top 13)) (defScope (top 13)) .none kV_write dc_write pm_write an_write cd_write ct_write), sl_write⟩)
    (c_write : PySem.W.codeIn K cd_write "write_frame" = true)
    (k_write : PySem.W.keepIn K (.ref f_write) = true)
    (a_first : PySem.W.nsIn K mainGlobals "first_frame" = some (some (.ref f_first)))
    (l_first : K.lookup f_first = some ⟨oc_first, od_first, .func (PySem.W.fnOf "first_frame" "first_frame" (defArgs (top 14)) (defBody (top 14)) (defScope (top 14)) .none kV_first dc_first pm_first an_first cd_first ct_first), sl_first⟩)
    (c_first : PySem.W.codeIn K cd_first "first_frame" = true)
    (k_first : PySem.W.keepIn K (.ref f_first) = true)
    (a_cell : PySem.W.nsIn K mainGlobals "_law_cell" = some (some (.ref f_cell)))
    (l_cell : K.lookup f_cell = some ⟨oc_cell, od_cell, .func (PySem.W.fnOf "_law_cell" "_law_cell" (defArgs (top 18)) (defBody (top 18)) (defScope (top 18)) .none kV_cell dc_cell pm_cell an_cell cd_cell ct_cell), sl_cell⟩)
    (c_cell : PySem.W.codeIn K cd_cell "_law_cell" = true)
    (k_cell : PySem.W.keepIn K (.ref f_cell) = true)
    (a_isi : PySem.W.nsIn K mainGlobals "_law_is_integer" = some (some (.ref f_isi)))
    (l_isi : K.lookup f_isi = some ⟨oc_isi, od_isi, .func (PySem.W.fnOf "_law_is_integer" "_law_is_integer" (defArgs (top 19)) (defBody (top 19)) (defScope (top 19)) .none kV_isi dc_isi pm_isi an_isi cd_isi ct_isi), sl_isi⟩)
    (c_isi : PySem.W.codeIn K cd_isi "_law_is_integer" = true)
    (k_isi : PySem.W.keepIn K (.ref f_isi) = true)
    (a_start : PySem.W.nsIn K mainGlobals "_law_start" = some (some (.ref f_start)))
    (l_start : K.lookup f_start = some ⟨oc_start, od_start, .func (PySem.W.fnOf "_law_start" "_law_start" (defArgs (top 20)) (defBody (top 20)) (defScope (top 20)) .none kV_start dc_start pm_start an_start cd_start ct_start), sl_start⟩)
    (c_start : PySem.W.codeIn K cd_start "_law_start" = true)
    (k_start : PySem.W.keepIn K (.ref f_start) = true)
    (a_digit : PySem.W.nsIn K mainGlobals "_law_digit" = some (some (.ref f_digit)))
    (l_digit : K.lookup f_digit = some ⟨oc_digit, od_digit, .func (PySem.W.fnOf "_law_digit" "_law_digit" (defArgs (top 21)) (defBody (top 21)) (defScope (top 21)) .none kV_digit dc_digit pm_digit an_digit cd_digit ct_digit), sl_digit⟩)
    (c_digit : PySem.W.codeIn K cd_digit "_law_digit" = true)
    (k_digit : PySem.W.keepIn K (.ref f_digit) = true)
    (a_book : PySem.W.nsIn K mainGlobals "_law_book" = some (some (.ref f_book)))
    (l_book : K.lookup f_book = some ⟨oc_book, od_book, .func (PySem.W.fnOf "_law_book" "_law_book" (defArgs (top 22)) (defBody (top 22)) (defScope (top 22)) .none kV_book dc_book pm_book an_book cd_book ct_book), sl_book⟩)
    (c_book : PySem.W.codeIn K cd_book "_law_book" = true)
    (k_book : PySem.W.keepIn K (.ref f_book) = true)
    (a_chan : PySem.W.nsIn K mainGlobals "_law_channel" = some (some (.ref f_chan)))
    (l_chan : K.lookup f_chan = some ⟨oc_chan, od_chan, .func (PySem.W.fnOf "_law_channel" "_law_channel" (defArgs (top 23)) (defBody (top 23)) (defScope (top 23)) .none kV_chan dc_chan pm_chan an_chan cd_chan ct_chan), sl_chan⟩)
    (c_chan : PySem.W.codeIn K cd_chan "_law_channel" = true)
    (k_chan : PySem.W.keepIn K (.ref f_chan) = true)
    (a_lw : PySem.W.nsIn K mainGlobals "_law_write" = some (some (.ref f_lw)))
    (l_lw : K.lookup f_lw = some ⟨oc_lw, od_lw, .func (PySem.W.fnOf "_law_write" "_law_write" (defArgs (top 24)) (defBody (top 24)) (defScope (top 24)) .none kV_lw dc_lw pm_lw an_lw cd_lw ct_lw), sl_lw⟩)
    (c_lw : PySem.W.codeIn K cd_lw "_law_write" = true)
    (k_lw : PySem.W.keepIn K (.ref f_lw) = true)
    (a_lr : PySem.W.nsIn K mainGlobals "_law_read" = some (some (.ref f_lr)))
    (l_lr : K.lookup f_lr = some ⟨oc_lr, od_lr, .func (PySem.W.fnOf "_law_read" "_law_read" (defArgs (top 25)) (defBody (top 25)) (defScope (top 25)) .none kV_lr dc_lr pm_lr an_lr cd_lr ct_lr), sl_lr⟩)
    (c_lr : PySem.W.codeIn K cd_lr "_law_read" = true)
    (k_lr : PySem.W.keepIn K (.ref f_lr) = true)
    (a_mv : PySem.W.nsIn K mainGlobals "_law_move" = some (some (.ref f_mv)))
    (l_mv : K.lookup f_mv = some ⟨oc_mv, od_mv, .func (PySem.W.fnOf "_law_move" "_law_move" (defArgs (top 27)) (defBody (top 27)) (defScope (top 27)) .none kV_mv dc_mv pm_mv an_mv cd_mv ct_mv), sl_mv⟩)
    (c_mv : PySem.W.codeIn K cd_mv "_law_move" = true)
    (k_mv : PySem.W.keepIn K (.ref f_mv) = true)
    (a_step : PySem.W.nsIn K mainGlobals "_law_step" = some (some (.ref f_step)))
    (l_step : K.lookup f_step = some ⟨oc_step, od_step, .func (PySem.W.fnOf "_law_step" "_law_step" (defArgs (top 26)) (defBody (top 26)) (defScope (top 26)) .none kV_step dc_step pm_step an_step cd_step ct_step), sl_step⟩)
    (c_step : PySem.W.codeIn K cd_step "_law_step" = true)
    (k_step : PySem.W.keepIn K (.ref f_step) = true)
    (a_hold : PySem.W.nsIn K mainGlobals "_law_holds" = some (some (.ref f_hold)))
    (l_hold : K.lookup f_hold = some ⟨oc_hold, od_hold, .func (PySem.W.fnOf "_law_holds" "_law_holds" (defArgs (top 28)) (defBody (top 28)) (defScope (top 28)) .none kV_hold dc_hold pm_hold an_hold cd_hold ct_hold), sl_hold⟩)
    (c_hold : PySem.W.codeIn K cd_hold "_law_holds" = true)
    (k_hold : PySem.W.keepIn K (.ref f_hold) = true)
    (a_settle : PySem.W.nsIn K mainGlobals "_law_settle" = some (some (.ref f_settle)))
    (l_settle : K.lookup f_settle = some ⟨oc_settle, od_settle, .func (PySem.W.fnOf "_law_settle" "_law_settle" (defArgs (top 29)) (defBody (top 29)) (defScope (top 29)) .none kV_settle dc_settle pm_settle an_settle cd_settle ct_settle), sl_settle⟩)
    (c_settle : PySem.W.codeIn K cd_settle "_law_settle" = true)
    (k_settle : PySem.W.keepIn K (.ref f_settle) = true)
    (a_settled : PySem.W.nsIn K mainGlobals "_law_settled" = some (some (.ref f_settled)))
    (l_settled : K.lookup f_settled = some ⟨oc_settled, od_settled, .func (PySem.W.fnOf "_law_settled" "_law_settled" (defArgs (top 30)) (defBody (top 30)) (defScope (top 30)) .none kV_settled dc_settled pm_settled an_settled cd_settled ct_settled), sl_settled⟩)
    (c_settled : PySem.W.codeIn K cd_settled "_law_settled" = true)
    (k_settled : PySem.W.keepIn K (.ref f_settled) = true)
    (a_cinit : PySem.W.findIn K (.ref C) "__init__" = some (some (.ref f_cinit)))
    (i_cinit : PySem.W.isFn K (.ref f_cinit) = true)
    (l_cinit : K.lookup f_cinit = some ⟨oc_cinit, od_cinit, .func (PySem.W.fnOf "__init__" "Channel.__init__" (defArgs (sCh 0)) (defBody (sCh 0)) (defScope (sCh 0)) .none kV_cinit dc_cinit pm_cinit an_cinit cd_cinit ct_cinit), sl_cinit⟩)
    (c_cinit : PySem.W.codeIn K cd_cinit "Channel.__init__" = true)
    (k_cinit : PySem.W.keepIn K (.ref f_cinit) = true)
    (a_has : PySem.W.findIn K (.ref C) "has_something" = some (some (.ref f_has)))
    (i_has : PySem.W.isFn K (.ref f_has) = true)
    (l_has : K.lookup f_has = some ⟨oc_has, od_has, .func (PySem.W.fnOf "has_something" "Channel.has_something" (defArgs (sCh 1)) (defBody (sCh 1)) (defScope (sCh 1)) .none kV_has dc_has pm_has an_has cd_has ct_has), sl_has⟩)
    (c_has : PySem.W.codeIn K cd_has "Channel.has_something" = true)
    (k_has : PySem.W.keepIn K (.ref f_has) = true)
    (a_owes : PySem.W.findIn K (.ref C) "owes" = some (some (.ref f_owes)))
    (i_owes : PySem.W.isFn K (.ref f_owes) = true)
    (l_owes : K.lookup f_owes = some ⟨oc_owes, od_owes, .func (PySem.W.fnOf "owes" "Channel.owes" (defArgs (sCh 2)) (defBody (sCh 2)) (defScope (sCh 2)) .none kV_owes dc_owes pm_owes an_owes cd_owes ct_owes), sl_owes⟩)
    (c_owes : PySem.W.codeIn K cd_owes "Channel.owes" = true)
    (k_owes : PySem.W.keepIn K (.ref f_owes) = true)
    (a_nextf : PySem.W.findIn K (.ref C) "next_frame" = some (some (.ref f_nextf)))
    (i_nextf : PySem.W.isFn K (.ref f_nextf) = true)
    (l_nextf : K.lookup f_nextf = some ⟨oc_nextf, od_nextf, .func (PySem.W.fnOf "next_frame" "Channel.next_frame" (defArgs (sCh 3)) (defBody (sCh 3)) (defScope (sCh 3)) .none kV_nextf dc_nextf pm_nextf an_nextf cd_nextf ct_nextf), sl_nextf⟩)
    (c_nextf : PySem.W.codeIn K cd_nextf "Channel.next_frame" = true)
    (k_nextf : PySem.W.keepIn K (.ref f_nextf) = true)
    (a_drop : PySem.W.findIn K (.ref C) "drop_all" = some (some (.ref f_drop)))
    (i_drop : PySem.W.isFn K (.ref f_drop) = true)
    (l_drop : K.lookup f_drop = some ⟨oc_drop, od_drop, .func (PySem.W.fnOf "drop_all" "Channel.drop_all" (defArgs (sCh 4)) (defBody (sCh 4)) (defScope (sCh 4)) .none kV_drop dc_drop pm_drop an_drop cd_drop ct_drop), sl_drop⟩)
    (c_drop : PySem.W.codeIn K cd_drop "Channel.drop_all" = true)
    (k_drop : PySem.W.keepIn K (.ref f_drop) = true)
    (a_prob : PySem.W.findIn K (.ref C) "problem_of" = some (some (.ref f_prob)))
    (i_prob : PySem.W.isFn K (.ref f_prob) = true)
    (l_prob : K.lookup f_prob = some ⟨oc_prob, od_prob, .func (PySem.W.fnOf "problem_of" "Channel.problem_of" (defArgs (sCh 5)) (defBody (sCh 5)) (defScope (sCh 5)) .none kV_prob dc_prob pm_prob an_prob cd_prob ct_prob), sl_prob⟩)
    (c_prob : PySem.W.codeIn K cd_prob "Channel.problem_of" = true)
    (k_prob : PySem.W.keepIn K (.ref f_prob) = true)
    (a_takef : PySem.W.findIn K (.ref C) "take_frame" = some (some (.ref f_takef)))
    (i_takef : PySem.W.isFn K (.ref f_takef) = true)
    (l_takef : K.lookup f_takef = some ⟨oc_takef, od_takef, .func (PySem.W.fnOf "take_frame" "Channel.take_frame" (defArgs (sCh 6)) (defBody (sCh 6)) (defScope (sCh 6)) .none kV_takef dc_takef pm_takef an_takef cd_takef ct_takef), sl_takef⟩)
    (c_takef : PySem.W.codeIn K cd_takef "Channel.take_frame" = true)
    (k_takef : PySem.W.keepIn K (.ref f_takef) = true)
    (a_sinit : PySem.W.findIn K (.ref D) "__init__" = some (some (.ref f_sinit)))
    (i_sinit : PySem.W.isFn K (.ref f_sinit) = true)
    (l_sinit : K.lookup f_sinit = some ⟨oc_sinit, od_sinit, .func (PySem.W.fnOf "__init__" "Channels.__init__" (defArgs (sSd 1)) (defBody (sSd 1)) (defScope (sSd 1)) .none kV_sinit dc_sinit pm_sinit an_sinit cd_sinit ct_sinit), sl_sinit⟩)
    (c_sinit : PySem.W.codeIn K cd_sinit "Channels.__init__" = true)
    (k_sinit : PySem.W.keepIn K (.ref f_sinit) = true)
    (a_len : PySem.W.findIn K (.ref D) "__len__" = some (some (.ref f_len)))
    (i_len : PySem.W.isFn K (.ref f_len) = true)
    (l_len : K.lookup f_len = some ⟨oc_len, od_len, .func (PySem.W.fnOf "__len__" "Channels.__len__" (defArgs (sSd 2)) (defBody (sSd 2)) (defScope (sSd 2)) .none kV_len dc_len pm_len an_len cd_len ct_len), sl_len⟩)
    (c_len : PySem.W.codeIn K cd_len "Channels.__len__" = true)
    (k_len : PySem.W.keepIn K (.ref f_len) = true)
    (a_iter : PySem.W.findIn K (.ref D) "__iter__" = some (some (.ref f_iter)))
    (i_iter : PySem.W.isFn K (.ref f_iter) = true)
    (l_iter : K.lookup f_iter = some ⟨oc_iter, od_iter, .func (PySem.W.fnOf "__iter__" "Channels.__iter__" (defArgs (sSd 3)) (defBody (sSd 3)) (defScope (sSd 3)) .none kV_iter dc_iter pm_iter an_iter cd_iter ct_iter), sl_iter⟩)
    (c_iter : PySem.W.codeIn K cd_iter "Channels.__iter__" = true)
    (k_iter : PySem.W.keepIn K (.ref f_iter) = true)
    (a_known : PySem.W.findIn K (.ref D) "_known" = some (some (.ref f_known)))
    (i_known : PySem.W.isFn K (.ref f_known) = true)
    (l_known : K.lookup f_known = some ⟨oc_known, od_known, .func (PySem.W.fnOf "_known" "Channels._known" (defArgs (sSd 14)) (defBody (sSd 14)) (defScope (sSd 14)) .none kV_known dc_known pm_known an_known cd_known ct_known), sl_known⟩)
    (c_known : PySem.W.codeIn K cd_known "Channels._known" = true)
    (k_known : PySem.W.keepIn K (.ref f_known) = true)
    (a_theirs : PySem.W.findIn K (.ref D) "_theirs" = some (some (.ref f_theirs)))
    (i_theirs : PySem.W.isFn K (.ref f_theirs) = true)
    (l_theirs : K.lookup f_theirs = some ⟨oc_theirs, od_theirs, .func (PySem.W.fnOf "_theirs" "Channels._theirs" (defArgs (sSd 15)) (defBody (sSd 15)) (defScope (sSd 15)) .none kV_theirs dc_theirs pm_theirs an_theirs cd_theirs ct_theirs), sl_theirs⟩)
    (c_theirs : PySem.W.codeIn K cd_theirs "Channels._theirs" = true)
    (k_theirs : PySem.W.keepIn K (.ref f_theirs) = true)
    (a_room : PySem.W.findIn K (.ref D) "_room" = some (some (.ref f_room)))
    (i_room : PySem.W.isFn K (.ref f_room) = true)
    (l_room : K.lookup f_room = some ⟨oc_room, od_room, .func (PySem.W.fnOf "_room" "Channels._room" (defArgs (sSd 17)) (defBody (sSd 17)) (defScope (sSd 17)) .none kV_room dc_room pm_room an_room cd_room ct_room), sl_room⟩)
    (c_room : PySem.W.codeIn K cd_room "Channels._room" = true)
    (k_room : PySem.W.keepIn K (.ref f_room) = true)
    (a_add : PySem.W.findIn K (.ref D) "_add" = some (some (.ref f_add)))
    (i_add : PySem.W.isFn K (.ref f_add) = true)
    (l_add : K.lookup f_add = some ⟨oc_add, od_add, .func (PySem.W.fnOf "_add" "Channels._add" (defArgs (sSd 16)) (defBody (sSd 16)) (defScope (sSd 16)) .none kV_add dc_add pm_add an_add cd_add ct_add), sl_add⟩)
    (c_add : PySem.W.codeIn K cd_add "Channels._add" = true)
    (k_add : PySem.W.keepIn K (.ref f_add) = true)
    (a_open : PySem.W.findIn K (.ref D) "open_channel" = some (some (.ref f_open)))
    (i_open : PySem.W.isFn K (.ref f_open) = true)
    (l_open : K.lookup f_open = some ⟨oc_open, od_open, .func (PySem.W.fnOf "open_channel" "Channels.open_channel" (defArgs (sSd 4)) (defBody (sSd 4)) (defScope (sSd 4)) .none kV_open dc_open pm_open an_open cd_open ct_open), sl_open⟩)
    (c_open : PySem.W.codeIn K cd_open "Channels.open_channel" = true)
    (k_open : PySem.W.keepIn K (.ref f_open) = true)
    (a_wr : PySem.W.findIn K (.ref D) "write" = some (some (.ref f_wr)))
    (i_wr : PySem.W.isFn K (.ref f_wr) = true)
    (l_wr : K.lookup f_wr = some ⟨oc_wr, od_wr, .func (PySem.W.fnOf "write" "Channels.write" (defArgs (sSd 6)) (defBody (sSd 6)) (defScope (sSd 6)) .none kV_wr dc_wr pm_wr an_wr cd_wr ct_wr), sl_wr⟩)
    (c_wr : PySem.W.codeIn K cd_wr "Channels.write" = true)
    (k_wr : PySem.W.keepIn K (.ref f_wr) = true)
    (a_rd : PySem.W.findIn K (.ref D) "read" = some (some (.ref f_rd)))
    (i_rd : PySem.W.isFn K (.ref f_rd) = true)
    (l_rd : K.lookup f_rd = some ⟨oc_rd, od_rd, .func (PySem.W.fnOf "read" "Channels.read" (defArgs (sSd 7)) (defBody (sSd 7)) (defScope (sSd 7)) .none kV_rd dc_rd pm_rd an_rd cd_rd ct_rd), sl_rd⟩)
    (c_rd : PySem.W.codeIn K cd_rd "Channels.read" = true)
    (k_rd : PySem.W.keepIn K (.ref f_rd) = true)
    (a_fin : PySem.W.findIn K (.ref D) "finish" = some (some (.ref f_fin)))
    (i_fin : PySem.W.isFn K (.ref f_fin) = true)
    (l_fin : K.lookup f_fin = some ⟨oc_fin, od_fin, .func (PySem.W.fnOf "finish" "Channels.finish" (defArgs (sSd 8)) (defBody (sSd 8)) (defScope (sSd 8)) .none kV_fin dc_fin pm_fin an_fin cd_fin ct_fin), sl_fin⟩)
    (c_fin : PySem.W.codeIn K cd_fin "Channels.finish" = true)
    (k_fin : PySem.W.keepIn K (.ref f_fin) = true)
    (a_rs : PySem.W.findIn K (.ref D) "reset" = some (some (.ref f_rs)))
    (i_rs : PySem.W.isFn K (.ref f_rs) = true)
    (l_rs : K.lookup f_rs = some ⟨oc_rs, od_rs, .func (PySem.W.fnOf "reset" "Channels.reset" (defArgs (sSd 9)) (defBody (sSd 9)) (defScope (sSd 9)) .none kV_rs dc_rs pm_rs an_rs cd_rs ct_rs), sl_rs⟩)
    (c_rs : PySem.W.codeIn K cd_rs "Channels.reset" = true)
    (k_rs : PySem.W.keepIn K (.ref f_rs) = true)
    (a_st : PySem.W.findIn K (.ref D) "status" = some (some (.ref f_st)))
    (i_st : PySem.W.isFn K (.ref f_st) = true)
    (l_st : K.lookup f_st = some ⟨oc_st, od_st, .func (PySem.W.fnOf "status" "Channels.status" (defArgs (sSd 10)) (defBody (sSd 10)) (defScope (sSd 10)) .none kV_st dc_st pm_st an_st cd_st ct_st), sl_st⟩)
    (c_st : PySem.W.codeIn K cd_st "Channels.status" = true)
    (k_st : PySem.W.keepIn K (.ref f_st) = true)
    (a_nextt : PySem.W.findIn K (.ref D) "_next_turn" = some (some (.ref f_nextt)))
    (i_nextt : PySem.W.isFn K (.ref f_nextt) = true)
    (l_nextt : K.lookup f_nextt = some ⟨oc_nextt, od_nextt, .func (PySem.W.fnOf "_next_turn" "Channels._next_turn" (defArgs (sSd 19)) (defBody (sSd 19)) (defScope (sSd 19)) .none kV_nextt dc_nextt pm_nextt an_nextt cd_nextt ct_nextt), sl_nextt⟩)
    (c_nextt : PySem.W.codeIn K cd_nextt "Channels._next_turn" = true)
    (k_nextt : PySem.W.keepIn K (.ref f_nextt) = true)
    (a_next : PySem.W.findIn K (.ref D) "_next_frame" = some (some (.ref f_next)))
    (i_next : PySem.W.isFn K (.ref f_next) = true)
    (l_next : K.lookup f_next = some ⟨oc_next, od_next, .func (PySem.W.fnOf "_next_frame" "Channels._next_frame" (defArgs (sSd 18)) (defBody (sSd 18)) (defScope (sSd 18)) .none kV_next dc_next pm_next an_next cd_next ct_next), sl_next⟩)
    (c_next : PySem.W.codeIn K cd_next "Channels._next_frame" = true)
    (k_next : PySem.W.keepIn K (.ref f_next) = true)
    (a_take : PySem.W.findIn K (.ref D) "take" = some (some (.ref f_take)))
    (i_take : PySem.W.isFn K (.ref f_take) = true)
    (l_take : K.lookup f_take = some ⟨oc_take, od_take, .func (PySem.W.fnOf "take" "Channels.take" (defArgs (sSd 11)) (defBody (sSd 11)) (defScope (sSd 11)) .none kV_take dc_take pm_take an_take cd_take ct_take), sl_take⟩)
    (c_take : PySem.W.codeIn K cd_take "Channels.take" = true)
    (k_take : PySem.W.keepIn K (.ref f_take) = true)
    (a_ff : PySem.W.findIn K (.ref D) "_first_frame" = some (some (.ref f_ff)))
    (i_ff : PySem.W.isFn K (.ref f_ff) = true)
    (l_ff : K.lookup f_ff = some ⟨oc_ff, od_ff, .func (PySem.W.fnOf "_first_frame" "Channels._first_frame" (defArgs (sSd 20)) (defBody (sSd 20)) (defScope (sSd 20)) .none kV_ff dc_ff pm_ff an_ff cd_ff ct_ff), sl_ff⟩)
    (c_ff : PySem.W.codeIn K cd_ff "Channels._first_frame" = true)
    (k_ff : PySem.W.keepIn K (.ref f_ff) = true)
    (a_tf : PySem.W.findIn K (.ref D) "_take_frame" = some (some (.ref f_tf)))
    (i_tf : PySem.W.isFn K (.ref f_tf) = true)
    (l_tf : K.lookup f_tf = some ⟨oc_tf, od_tf, .func (PySem.W.fnOf "_take_frame" "Channels._take_frame" (defArgs (sSd 21)) (defBody (sSd 21)) (defScope (sSd 21)) .none kV_tf dc_tf pm_tf an_tf cd_tf ct_tf), sl_tf⟩)
    (c_tf : PySem.W.codeIn K cd_tf "Channels._take_frame" = true)
    (k_tf : PySem.W.keepIn K (.ref f_tf) = true)
    (a_recv : PySem.W.findIn K (.ref D) "receive" = some (some (.ref f_recv)))
    (i_recv : PySem.W.isFn K (.ref f_recv) = true)
    (l_recv : K.lookup f_recv = some ⟨oc_recv, od_recv, .func (PySem.W.fnOf "receive" "Channels.receive" (defArgs (sSd 12)) (defBody (sSd 12)) (defScope (sSd 12)) .none kV_recv dc_recv pm_recv an_recv cd_recv ct_recv), sl_recv⟩)
    (c_recv : PySem.W.codeIn K cd_recv "Channels.receive" = true)
    (k_recv : PySem.W.keepIn K (.ref f_recv) = true)
    (a_law : PySem.W.nsIn K mainGlobals "law" = some (some (.ref f_law)))
    (l_law : K.lookup f_law = some ⟨oc_law, od_law, .func (PySem.W.fnOf "law" "law" (defArgs (top 31)) (defBody (top 31)) (defScope (top 31)) .none kV_law dc_law pm_law an_law cd_law ct_law), sl_law⟩)
    (c_law : PySem.W.codeIn K cd_law "law" = true)
    (k_law : PySem.W.keepIn K (.ref f_law) = true)
    (pgC : PySem.W.plainGet K C Str.empty = true)
    (hdC : PySem.W.hasDictIn K C = true)
    (poC : PySem.W.plainOver K C = true)
    (saC : PySem.W.findIn K (.ref C) "__setattr__" = some (some (.builtin "object.__setattr__")))
    (mkC : PySem.W.makesIn K C = true)
    (kcC : PySem.W.keepIn K (.ref C) = true)
    (pgD : PySem.W.plainGet K D Str.empty = true)
    (hdD : PySem.W.hasDictIn K D = true)
    (poD : PySem.W.plainOver K D = true)
    (saD : PySem.W.findIn K (.ref D) "__setattr__" = some (some (.builtin "object.__setattr__")))
    (mkD : PySem.W.makesIn K D = true)
    (kcD : PySem.W.keepIn K (.ref D) = true)
    (nC0 : PySem.W.findIn K (.ref C) "number" = some none)
    (nC1 : PySem.W.findIn K (.ref C) "announced" = some none)
    (nC2 : PySem.W.findIn K (.ref C) "queue" = some none)
    (nC3 : PySem.W.findIn K (.ref C) "credit" = some none)
    (nC4 : PySem.W.findIn K (.ref C) "finished" = some none)
    (nC5 : PySem.W.findIn K (.ref C) "end_sent" = some none)
    (nC6 : PySem.W.findIn K (.ref C) "arrived_octets" = some none)
    (nC7 : PySem.W.findIn K (.ref C) "due" = some none)
    (nC8 : PySem.W.findIn K (.ref C) "end_came" = some none)
    (nC9 : PySem.W.findIn K (.ref C) "reset_by" = some none)
    (nC10 : PySem.W.findIn K (.ref C) "reset_told" = some none)
    (nD0 : PySem.W.findIn K (.ref D) "first_side" = some none)
    (nD1 : PySem.W.findIn K (.ref D) "window" = some none)
    (nD2 : PySem.W.findIn K (.ref D) "most" = some none)
    (nD3 : PySem.W.findIn K (.ref D) "failure" = some none)
    (nD4 : PySem.W.findIn K (.ref D) "_channels" = some none)
    (nD5 : PySem.W.findIn K (.ref D) "_numbers" = some none)
    (nD6 : PySem.W.findIn K (.ref D) "_turns" = some none)
    (nD7 : PySem.W.findIn K (.ref D) "_opened" = some none)
    (nD8 : PySem.W.findIn K (.ref D) "_came" = some none)
    (nD9 : PySem.W.findIn K (.ref D) "_accepted" = some none)
    (nD10 : PySem.W.findIn K (.ref D) "_outgoing" = some none)
    (nD11 : PySem.W.findIn K (.ref D) "_incoming" = some none)
    (z_len : PySem.W.nsIn K mainGlobals "len" = some none)
    (z_min : PySem.W.nsIn K mainGlobals "min" = some none)
    (z_max : PySem.W.nsIn K mainGlobals "max" = some none)
    (z_int : PySem.W.nsIn K mainGlobals "int" = some none)
    (z_bool : PySem.W.nsIn K mainGlobals "bool" = some none)
    (z_list : PySem.W.nsIn K mainGlobals "list" = some none)
    (z_isinstance : PySem.W.nsIn K mainGlobals "isinstance" = some none)
    (z_iter : PySem.W.nsIn K mainGlobals "iter" = some none)
    (z_sorted : PySem.W.nsIn K mainGlobals "sorted" = some none)
    (z_range : PySem.W.nsIn K mainGlobals "range" = some none)
    (lW : K.lookup W = some oW)
    (w1 : oW.cls = .type "tuple")
    (w2 : oW.dict = none)
    (w3 : oW.data = .seq isW nW)
    (w4 : isW.size ≤ sizeLine)
    (w5 : Vals (frWords.map V.str) isW.toList)
    (r1 : PySem.W.readsIn K D (.type "type") = true)
    (r2 : PySem.W.specialIn K (.ref D) "__getattribute__" = some (some (.builtin "type.__getattribute__")))
    (r3 : PySem.W.findCls K (.ref D) (.type "type") "MOST_CHANNELS" = some (.val uM))
    (r4 : RelV (.int 100) uM)
    : ∃ fd : FuncData, (∀ (s : Shared) (v : Value), BindsTo s fd ⟨[v], []⟩ [("_law_script", v)]) ∧ ∀ base : Heap, K.In base → base.Ns mainGlobals mg → FnOk l.prog w K mg base CX0 8 fa fd ["_law_script"] (spLaw K) := by
  have e := hfa.symm.trans (PySem.W.mg_of X G a_law)
  cases e
  have nc : ∀ f, f ∈ chNames → NoAttr K C f := fun f hf => by
    simp only [chNames, List.mem_cons, List.not_mem_nil, or_false] at hf
    rcases hf with rfl | rfl | rfl | rfl | rfl | rfl | rfl | rfl | rfl | rfl | rfl
    · exact nC0
    · exact nC1
    · exact nC2
    · exact nC3
    · exact nC4
    · exact nC5
    · exact nC6
    · exact nC7
    · exact nC8
    · exact nC9
    · exact nC10
  have nd : ∀ f, f ∈ sdNames → NoAttr K D f := fun f hf => by
    simp only [sdNames, List.mem_cons, List.not_mem_nil, or_false] at hf
    rcases hf with rfl | rfl | rfl | rfl | rfl | rfl | rfl | rfl | rfl | rfl | rfl | rfl
    · exact nD0
    · exact nD1
    · exact nD2
    · exact nD3
    · exact nD4
    · exact nD5
    · exact nD6
    · exact nD7
    · exact nD8
    · exact nD9
    · exact nD10
    · exact nD11
  have T : Txt K mg C D := ⟨⟨pgC, hdC, poC, saC⟩, ⟨pgD, hdD, poD, saD⟩, nc, nd, PySem.W.mg_of X G aC, PySem.W.mg_of X G aD, PySem.W.mg_none_of X G z_len, PySem.W.mg_none_of X G z_min, PySem.W.mg_none_of X G z_max, PySem.W.mg_none_of X G z_int, PySem.W.mg_none_of X G z_bool, PySem.W.mg_none_of X G z_list, PySem.W.mg_none_of X G z_isinstance, PySem.W.mg_none_of X G z_iter, PySem.W.mg_none_of X G z_sorted, PySem.W.mg_none_of X G z_range,
    ⟨W, PySem.W.mg_of X G aW, ⟨oW, lW, w1, w2⟩, fun H => .inr ⟨oW, isW, nW, lW, w1, w3, w4, w5⟩⟩, ⟨_, uM, ⟨r1, r2⟩, ⟨r3, r4⟩⟩⟩
  have Ftwo := fun_mk (st := top 12) l_two c_two k_two
  have Fwrite := fun_mk (st := top 13) l_write c_write k_write
  have Ffirst := fun_mk (st := top 14) l_first c_first k_first
  have Fcell := fun_mk (st := top 18) l_cell c_cell k_cell
  have Fisi := fun_mk (st := top 19) l_isi c_isi k_isi
  have Fstart := fun_mk (st := top 20) l_start c_start k_start
  have Fdigit := fun_mk (st := top 21) l_digit c_digit k_digit
  have Fbook := fun_mk (st := top 22) l_book c_book k_book
  have Fchan := fun_mk (st := top 23) l_chan c_chan k_chan
  have Flw := fun_mk (st := top 24) l_lw c_lw k_lw
  have Flr := fun_mk (st := top 25) l_lr c_lr k_lr
  have Fmv := fun_mk (st := top 27) l_mv c_mv k_mv
  have Fstep := fun_mk (st := top 26) l_step c_step k_step
  have Fhold := fun_mk (st := top 28) l_hold c_hold k_hold
  have Fsettle := fun_mk (st := top 29) l_settle c_settle k_settle
  have Fsettled := fun_mk (st := top 30) l_settled c_settled k_settled
  have Fcinit := fun_mk (st := sCh 0) l_cinit c_cinit k_cinit
  have Fhas := fun_mk (st := sCh 1) l_has c_has k_has
  have Fowes := fun_mk (st := sCh 2) l_owes c_owes k_owes
  have Fnextf := fun_mk (st := sCh 3) l_nextf c_nextf k_nextf
  have Fdrop := fun_mk (st := sCh 4) l_drop c_drop k_drop
  have Fprob := fun_mk (st := sCh 5) l_prob c_prob k_prob
  have Ftakef := fun_mk (st := sCh 6) l_takef c_takef k_takef
  have Fsinit := fun_mk (st := sSd 1) l_sinit c_sinit k_sinit
  have Flen := fun_mk (st := sSd 2) l_len c_len k_len
  have Fiter := fun_mk (st := sSd 3) l_iter c_iter k_iter
  have Fknown := fun_mk (st := sSd 14) l_known c_known k_known
  have Ftheirs := fun_mk (st := sSd 15) l_theirs c_theirs k_theirs
  have Froom := fun_mk (st := sSd 17) l_room c_room k_room
  have Fadd := fun_mk (st := sSd 16) l_add c_add k_add
  have Fopen := fun_mk (st := sSd 4) l_open c_open k_open
  have Fwr := fun_mk (st := sSd 6) l_wr c_wr k_wr
  have Frd := fun_mk (st := sSd 7) l_rd c_rd k_rd
  have Ffin := fun_mk (st := sSd 8) l_fin c_fin k_fin
  have Frs := fun_mk (st := sSd 9) l_rs c_rs k_rs
  have Fst := fun_mk (st := sSd 10) l_st c_st k_st
  have Fnextt := fun_mk (st := sSd 19) l_nextt c_nextt k_nextt
  have Fnext := fun_mk (st := sSd 18) l_next c_next k_next
  have Ftake := fun_mk (st := sSd 11) l_take c_take k_take
  have Fff := fun_mk (st := sSd 20) l_ff c_ff k_ff
  have Ftf := fun_mk (st := sSd 21) l_tf c_tf k_tf
  have Frecv := fun_mk (st := sSd 12) l_recv c_recv k_recv
  have Flaw := fun_mk (st := top 31) l_law c_law k_law
  have b_two := Ftwo.binds (ps := ["number"]) fun _ _ _ _ _ _ us hl => match us, hl with | [_], _ => rfl
  have b_write := Fwrite.binds (ps := ["frame"]) fun _ _ _ _ _ _ us hl => match us, hl with | [_], _ => rfl
  have b_first := Ffirst.binds (ps := ["octets"]) fun _ _ _ _ _ _ us hl => match us, hl with | [_], _ => rfl
  have b_cell := Fcell.binds (ps := ["_law_script", "_law_k"]) fun _ _ _ _ _ _ us hl => match us, hl with | [_, _], _ => rfl
  have b_isi := Fisi.binds (ps := ["_law_told"]) fun _ _ _ _ _ _ us hl => match us, hl with | [_], _ => rfl
  have b_start := Fstart.binds (ps := ["_law_cell_here", "_law_k"]) fun _ _ _ _ _ _ us hl => match us, hl with | [_, _], _ => rfl
  have b_digit := Fdigit.binds (ps := ["_law_state", "_law_many"]) fun _ _ _ _ _ _ us hl => match us, hl with | [_, _], _ => rfl
  have b_book := Fbook.binds (ps := ["_law_turn"]) fun _ _ _ _ _ _ us hl => match us, hl with | [_], _ => rfl
  have b_chan := Fchan.binds (ps := ["_law_side", "_law_state"]) fun _ _ _ _ _ _ us hl => match us, hl with | [_, _], _ => rfl
  have b_lw := Flw.binds (ps := ["_law_side", "_law_book_here", "_law_number", "_law_octets"]) fun _ _ _ _ _ _ us hl => match us, hl with | [_, _, _, _], _ => rfl
  have b_lr := Flr.binds (ps := ["_law_side", "_law_book_here", "_law_number", "_law_count"]) fun _ _ _ _ _ _ us hl => match us, hl with | [_, _, _, _], _ => rfl
  have b_mv := Fmv.binds (ps := ["_law_sides", "_law_books", "_law_turn", "_law_count"]) fun _ _ _ _ _ _ us hl => match us, hl with | [_, _, _, _], _ => rfl
  have b_step := Fstep.binds (ps := ["_law_sides", "_law_books", "_law_state"]) fun _ _ _ _ _ _ us hl => match us, hl with | [_, _, _], _ => rfl
  have b_hold := Fhold.binds (ps := ["_law_side", "_law_book_here", "_law_far", "_law_window"]) fun _ _ _ _ _ _ us hl => match us, hl with | [_, _, _, _], _ => rfl
  have b_settle := Fsettle.binds (ps := ["_law_sides", "_law_books"]) fun _ _ _ _ _ _ us hl => match us, hl with | [_, _], _ => rfl
  have b_settled := Fsettled.binds (ps := ["_law_sides", "_law_books"]) fun _ _ _ _ _ _ us hl => match us, hl with | [_, _], _ => rfl
  have b_has := Fhas.binds (ps := ["self"]) fun _ _ _ _ _ _ us hl => match us, hl with | [_], _ => rfl
  have b_owes := Fowes.binds (ps := ["self", "window"]) fun _ _ _ _ _ _ us hl => match us, hl with | [_, _], _ => rfl
  have b_nextf := Fnextf.binds (ps := ["self", "most"]) fun _ _ _ _ _ _ us hl => match us, hl with | [_, _], _ => rfl
  have b_drop := Fdrop.binds (ps := ["self", "place", "code"]) fun _ _ _ _ _ _ us hl => match us, hl with | [_, _, _], _ => rfl
  have b_prob := Fprob.binds (ps := ["self", "frame"]) fun _ _ _ _ _ _ us hl => match us, hl with | [_, _], _ => rfl
  have b_takef := Ftakef.binds (ps := ["self", "frame"]) fun _ _ _ _ _ _ us hl => match us, hl with | [_, _], _ => rfl
  have b_len := Flen.binds (ps := ["self"]) fun _ _ _ _ _ _ us hl => match us, hl with | [_], _ => rfl
  have b_iter := Fiter.binds (ps := ["self"]) fun _ _ _ _ _ _ us hl => match us, hl with | [_], _ => rfl
  have b_known := Fknown.binds (ps := ["self", "channel"]) fun _ _ _ _ _ _ us hl => match us, hl with | [_, _], _ => rfl
  have b_theirs := Ftheirs.binds (ps := ["self", "place"]) fun _ _ _ _ _ _ us hl => match us, hl with | [_, _], _ => rfl
  have b_room := Froom.binds (ps := ["self", "known"]) fun _ _ _ _ _ _ us hl => match us, hl with | [_, _], _ => rfl
  have b_add := Fadd.binds (ps := ["self", "number", "announced"]) fun _ _ _ _ _ _ us hl => match us, hl with | [_, _, _], _ => rfl
  have b_open := Fopen.binds (ps := ["self"]) fun _ _ _ _ _ _ us hl => match us, hl with | [_], _ => rfl
  have b_wr := Fwr.binds (ps := ["self", "channel", "octets"]) fun _ _ _ _ _ _ us hl => match us, hl with | [_, _, _], _ => rfl
  have b_rd := Frd.binds (ps := ["self", "channel", "count"]) fun _ _ _ _ _ _ us hl => match us, hl with | [_, _, _], _ => rfl
  have b_fin := Ffin.binds (ps := ["self", "channel"]) fun _ _ _ _ _ _ us hl => match us, hl with | [_, _], _ => rfl
  have b_rs := Frs.binds (ps := ["self", "channel", "code"]) fun _ _ _ _ _ _ us hl => match us, hl with | [_, _, _], _ => rfl
  have b_st := Fst.binds (ps := ["self", "channel"]) fun _ _ _ _ _ _ us hl => match us, hl with | [_, _], _ => rfl
  have b_nextt := Fnextt.binds (ps := ["self"]) fun _ _ _ _ _ _ us hl => match us, hl with | [_], _ => rfl
  have b_next := Fnext.binds (ps := ["self"]) fun _ _ _ _ _ _ us hl => match us, hl with | [_], _ => rfl
  have b_take := Ftake.binds (ps := ["self", "count"]) fun _ _ _ _ _ _ us hl => match us, hl with | [_, _], _ => rfl
  have b_ff := Fff.binds (ps := ["self"]) fun _ _ _ _ _ _ us hl => match us, hl with | [_], _ => rfl
  have b_tf := Ftf.binds (ps := ["self", "frame"]) fun _ _ _ _ _ _ us hl => match us, hl with | [_, _], _ => rfl
  have b_recv := Frecv.binds (ps := ["self", "octets"]) fun _ _ _ _ _ _ us hl => match us, hl with | [_, _], _ => rfl
  refine ⟨PySem.W.fnOf "law" "law" (defArgs (top 31)) (defBody (top 31)) (defScope (top 31)) .none kV_law dc_law pm_law an_law cd_law ct_law, fun s v => .of_eq rfl, fun base _ _ => ?_⟩
  have m_two : Ft l.prog w K mg base "two_octets" 1 ["number"] spTwo := ⟨_, _, PySem.W.mg_of X G a_two, k_two, b_two, ok_two Ftwo⟩
  have m_write : Ft l.prog w K mg base "write_frame" 2 ["frame"] spWrite := ⟨_, _, PySem.W.mg_of X G a_write, k_write, b_write, ok_write Fwrite T m_two⟩
  have m_first : Ft l.prog w K mg base "first_frame" 1 ["octets"] spFirst := ⟨_, _, PySem.W.mg_of X G a_first, k_first, b_first, ok_first Ffirst T⟩
  have m_cell : Ft l.prog w K mg base "_law_cell" 1 ["_law_script", "_law_k"] (spCell K) := ⟨_, _, PySem.W.mg_of X G a_cell, k_cell, b_cell, ok_cell Fcell T⟩
  have m_isi : Ft l.prog w K mg base "_law_is_integer" 1 ["_law_told"] spIsI := ⟨_, _, PySem.W.mg_of X G a_isi, k_isi, b_isi, ok_isi Fisi T⟩
  have m_start : Ft l.prog w K mg base "_law_start" 1 ["_law_cell_here", "_law_k"] spStart := ⟨_, _, PySem.W.mg_of X G a_start, k_start, b_start, ok_start Fstart T⟩
  have m_digit : Ft l.prog w K mg base "_law_digit" 1 ["_law_state", "_law_many"] spDigit := ⟨_, _, PySem.W.mg_of X G a_digit, k_digit, b_digit, ok_digit Fdigit T⟩
  have m_book : Ft l.prog w K mg base "_law_book" 1 ["_law_turn"] spBook := ⟨_, _, PySem.W.mg_of X G a_book, k_book, b_book, ok_book Fbook T⟩
  have m_cinit : MkP l.prog w K mg base C 1 ["self", "number", "announced"] 1 ["announced"] (spCInit C) := ⟨_, _, fun us ws => us ++ ws, ⟨mkC, a_cinit, i_cinit, kcC⟩, ⟨fun s us ws _ hu hw => match us, hu, ws, hw with | [_, _], _, [_], _ => .of_eq rfl, fun r1 r2 => r1.append r2⟩, ok_cinit Fcinit T⟩
  have m_has : Mt l.prog w K mg base C "has_something" 1 ["self"] (spHas C) := ⟨_, _, ⟨a_has, i_has, k_has⟩, b_has, ok_has Fhas T⟩
  have m_owes : Mt l.prog w K mg base C "owes" 1 ["self", "window"] (spOwes C) := ⟨_, _, ⟨a_owes, i_owes, k_owes⟩, b_owes, ok_owes Fowes T⟩
  have m_nextf : Mt l.prog w K mg base C "next_frame" 1 ["self", "most"] (spNextF C) := ⟨_, _, ⟨a_nextf, i_nextf, k_nextf⟩, b_nextf, ok_nextf Fnextf T⟩
  have m_drop : Mt l.prog w K mg base C "drop_all" 1 ["self", "place", "code"] (spDrop C) := ⟨_, _, ⟨a_drop, i_drop, k_drop⟩, b_drop, ok_drop Fdrop T⟩
  have m_prob : Mt l.prog w K mg base C "problem_of" 1 ["self", "frame"] (spProb C) := ⟨_, _, ⟨a_prob, i_prob, k_prob⟩, b_prob, ok_prob Fprob T⟩
  have m_takef : Mt l.prog w K mg base C "take_frame" 2 ["self", "frame"] (spTakeF C) := ⟨_, _, ⟨a_takef, i_takef, k_takef⟩, b_takef, ok_takef Ftakef T m_drop⟩
  have m_sinit : MkP l.prog w K mg base D 1 ["self", "first", "window", "most"] 0 ["first", "window", "most"] (spSInit C D) := ⟨_, _, fun us ws => us ++ ws, ⟨mkD, a_sinit, i_sinit, kcD⟩, ⟨fun s us ws _ hu hw => match us, hu, ws, hw with | [_], _, [_, _, _], _ => .of_eq rfl, fun r1 r2 => r1.append r2⟩, ok_sinit Fsinit T⟩
  have m_len : LnB l.prog w K mg base C D := ⟨_, _, a_len, i_len, ok_len Flen T, b_len⟩
  have m_iter : ItB l.prog w K mg base D := ⟨_, _, a_iter, i_iter, ok_iter Fiter T, b_iter⟩
  have m_known : Mt l.prog w K mg base D "_known" 1 ["self", "channel"] (spKnown D) := ⟨_, _, ⟨a_known, i_known, k_known⟩, b_known, ok_known Fknown T⟩
  have m_theirs : Mt l.prog w K mg base D "_theirs" 1 ["self", "place"] (spTheirs C D) := ⟨_, _, ⟨a_theirs, i_theirs, k_theirs⟩, b_theirs, ok_theirs Ftheirs T⟩
  have m_room : Mt l.prog w K mg base D "_room" 1 ["self", "known"] (spRoom C D) := ⟨_, _, ⟨a_room, i_room, k_room⟩, b_room, ok_room Froom T⟩
  have m_add : Mt l.prog w K mg base D "_add" 3 ["self", "number", "announced"] (spAdd C D) := ⟨_, _, ⟨a_add, i_add, k_add⟩, b_add, ok_add Fadd T m_cinit⟩
  have m_open : Mt l.prog w K mg base D "open_channel" 4 ["self"] (spOpen C D) := ⟨_, _, ⟨a_open, i_open, k_open⟩, b_open, ok_open Fopen T m_add⟩
  have m_wr : Mt l.prog w K mg base D "write" 2 ["self", "channel", "octets"] (spWr C D) := ⟨_, _, ⟨a_wr, i_wr, k_wr⟩, b_wr, ok_wr Fwr T m_known m_room⟩
  have m_rd : Mt l.prog w K mg base D "read" 2 ["self", "channel", "count"] (spRd C D) := ⟨_, _, ⟨a_rd, i_rd, k_rd⟩, b_rd, ok_rd Frd T m_known⟩
  have m_fin : Mt l.prog w K mg base D "finish" 2 ["self", "channel"] (spFin C D) := ⟨_, _, ⟨a_fin, i_fin, k_fin⟩, b_fin, ok_fin Ffin T m_known⟩
  have m_rs : Mt l.prog w K mg base D "reset" 2 ["self", "channel", "code"] (spRs C D) := ⟨_, _, ⟨a_rs, i_rs, k_rs⟩, b_rs, ok_rs Frs T m_known m_drop⟩
  have m_st : Mt l.prog w K mg base D "status" 2 ["self", "channel"] (spSt C D) := ⟨_, _, ⟨a_st, i_st, k_st⟩, b_st, ok_st Fst T m_known m_room⟩
  have m_nextt : Mt l.prog w K mg base D "_next_turn" 2 ["self"] (spNextT C D) := ⟨_, _, ⟨a_nextt, i_nextt, k_nextt⟩, b_nextt, ok_nextt Fnextt T m_has m_nextf⟩
  have m_next : Mt l.prog w K mg base D "_next_frame" 3 ["self"] (spNext C D) := ⟨_, _, ⟨a_next, i_next, k_next⟩, b_next, ok_next Fnext T m_owes m_nextt⟩
  have m_take : Mt l.prog w K mg base D "take" 4 ["self", "count"] (spTake C D) := ⟨_, _, ⟨a_take, i_take, k_take⟩, b_take, ok_take Ftake T m_next m_write⟩
  have m_ff : Mt l.prog w K mg base D "_first_frame" 2 ["self"] (spFF C D) := ⟨_, _, ⟨a_ff, i_ff, k_ff⟩, b_ff, ok_ff Fff T m_first⟩
  have m_tf : Mt l.prog w K mg base D "_take_frame" 4 ["self", "frame"] (spTF C D) := ⟨_, _, ⟨a_tf, i_tf, k_tf⟩, b_tf, ok_tf Ftf T m_theirs m_add m_prob m_takef⟩
  have m_recv : Mt l.prog w K mg base D "receive" 5 ["self", "octets"] (spRecv C D) := ⟨_, _, ⟨a_recv, i_recv, k_recv⟩, b_recv, ok_recv Frecv T m_ff m_tf⟩
  have m_chan : Ft l.prog w K mg base "_law_channel" 2 ["_law_side", "_law_state"] (spChan C D) := ⟨_, _, PySem.W.mg_of X G a_chan, k_chan, b_chan, ok_chan Fchan T m_iter m_digit⟩
  have m_lw : Ft l.prog w K mg base "_law_write" 3 ["_law_side", "_law_book_here", "_law_number", "_law_octets"] (spLW C D) := ⟨_, _, PySem.W.mg_of X G a_lw, k_lw, b_lw, ok_lw Flw T m_st m_wr m_isi⟩
  have m_lr : Ft l.prog w K mg base "_law_read" 3 ["_law_side", "_law_book_here", "_law_number", "_law_count"] (spLR C D) := ⟨_, _, PySem.W.mg_of X G a_lr, k_lr, b_lr, ok_lr Flr T m_rd⟩
  have m_mv : Ft l.prog w K mg base "_law_move" 6 ["_law_sides", "_law_books", "_law_turn", "_law_count"] (spMv C D) := ⟨_, _, PySem.W.mg_of X G a_mv, k_mv, b_mv, ok_mv Fmv T m_recv⟩
  have m_step : Ft l.prog w K mg base "_law_step" 7 ["_law_sides", "_law_books", "_law_state"] (spStep C D) := ⟨_, _, PySem.W.mg_of X G a_step, k_step, b_step, ok_step Fstep T ⟨m_digit, m_isi, m_chan, m_lw, m_lr, m_mv, m_len, m_open, m_fin, m_rs, m_st, m_take⟩⟩
  have m_hold : Ft l.prog w K mg base "_law_holds" 3 ["_law_side", "_law_book_here", "_law_far", "_law_window"] (spHold C D) := ⟨_, _, PySem.W.mg_of X G a_hold, k_hold, b_hold, ok_hold Fhold T m_iter m_st⟩
  have m_settle : Ft l.prog w K mg base "_law_settle" 7 ["_law_sides", "_law_books"] (spSettle C D) := ⟨_, _, PySem.W.mg_of X G a_settle, k_settle, b_settle, ok_settle Fsettle T m_iter m_take m_mv m_lr⟩
  have m_settled : Ft l.prog w K mg base "_law_settled" 3 ["_law_sides", "_law_books"] (spSettled C D) := ⟨_, _, PySem.W.mg_of X G a_settled, k_settled, b_settled, ok_settled Fsettled T m_iter m_st⟩
  exact ok_law Flaw T ⟨m_cell, m_start, m_digit, m_book, m_step, m_hold, m_settle, m_settled, m_sinit⟩
theorem walk {l : PySem.W.OpenLaw} {q : Program} {loose : List Str} {XP : (Str → Option Value) → Heap → Prop} {YP : World → Heap → Prop} {d : DefRec} {K : Params → PySem.W.Frag} (hn : l.most = some 63) (hdf : d.params.defaults = [])
    (hY : ∀ (w : World) (h : Heap), YP w h → (K w.params).In h)
    (F : ∀ (w : World) (mg : Str → Option Value) (fa : Addr) (h : Heap), (K w.params).In h → h.Ns mainGlobals mg → mg d.name = some (.ref fa) →
      ∃ fd : FuncData, (∀ (s : Shared) (u : Value), BindsTo s fd ⟨[u], []⟩ [("_law_script", u)]) ∧ ∀ base : Heap, (K w.params).In base → base.Ns mainGlobals mg → FnOk l.prog w (K w.params) mg base CX0 8 fa fd ["_law_script"] (spLaw (K w.params))) :
    PySem.W.WalkO q loose XP YP l.row.toRowW d [] (fun f vs => PySem.call f vs) :=
  L2.walk_of (n := 63) (k := 8) (x := "_law_script") (CX := fun _ => CX0) (sp := fun w => spLaw (K w.params)) hn (by decide) hdf ⟨rfl, by decide, by decide⟩ hY F (fun _ _ a ns hl _ hS => ⟨a, ns, rfl, hS, hl, fun _ => rfl⟩) fun _ _ _ _ _ z => z
end Thl

open PySem PySem.W PyProof.Rows
set_option maxRecDepth 100000 in
set_option maxHeartbeats 0 in
theorem PySem.Challenge.cw_throughline_k55_whole_channels_over_any_holds : PySem.Challenge.rw_throughline_k55_whole_channels_over_any.Holds := by
  w_on; o_law; k_head; (case hw => w_witness2)
  k_fill
  refine Thl.walk (l := PySem.Challenge.rw_throughline_k55_whole_channels_over_any) rfl rfl (fun w h Y => PySem.W.kIn_of Y) ?F
  case F =>
    intro w mg fa h KX G hmg
    refine' Thl.all_mk KX G hmg ?aC ?aD ?aW ?a_two ?l_two ?c_two ?k_two ?a_write ?l_write ?c_write ?k_write ?a_first ?l_first ?c_first ?k_first ?a_cell ?l_cell ?c_cell ?k_cell ?a_isi ?l_isi ?c_isi ?k_isi ?a_start ?l_start ?c_start ?k_start ?a_digit ?l_digit ?c_digit ?k_digit ?a_book ?l_book ?c_book ?k_book ?a_chan ?l_chan ?c_chan ?k_chan ?a_lw ?l_lw ?c_lw ?k_lw ?a_lr ?l_lr ?c_lr ?k_lr ?a_mv ?l_mv ?c_mv ?k_mv ?a_step ?l_step ?c_step ?k_step ?a_hold ?l_hold ?c_hold ?k_hold ?a_settle ?l_settle ?c_settle ?k_settle ?a_settled ?l_settled ?c_settled ?k_settled ?a_cinit ?i_cinit ?l_cinit ?c_cinit ?k_cinit ?a_has ?i_has ?l_has ?c_has ?k_has ?a_owes ?i_owes ?l_owes ?c_owes ?k_owes ?a_nextf ?i_nextf ?l_nextf ?c_nextf ?k_nextf ?a_drop ?i_drop ?l_drop ?c_drop ?k_drop ?a_prob ?i_prob ?l_prob ?c_prob ?k_prob ?a_takef ?i_takef ?l_takef ?c_takef ?k_takef ?a_sinit ?i_sinit ?l_sinit ?c_sinit ?k_sinit ?a_len ?i_len ?l_len ?c_len ?k_len ?a_iter ?i_iter ?l_iter ?c_iter ?k_iter ?a_known ?i_known ?l_known ?c_known ?k_known ?a_theirs ?i_theirs ?l_theirs ?c_theirs ?k_theirs ?a_room ?i_room ?l_room ?c_room ?k_room ?a_add ?i_add ?l_add ?c_add ?k_add ?a_open ?i_open ?l_open ?c_open ?k_open ?a_wr ?i_wr ?l_wr ?c_wr ?k_wr ?a_rd ?i_rd ?l_rd ?c_rd ?k_rd ?a_fin ?i_fin ?l_fin ?c_fin ?k_fin ?a_rs ?i_rs ?l_rs ?c_rs ?k_rs ?a_st ?i_st ?l_st ?c_st ?k_st ?a_nextt ?i_nextt ?l_nextt ?c_nextt ?k_nextt ?a_next ?i_next ?l_next ?c_next ?k_next ?a_take ?i_take ?l_take ?c_take ?k_take ?a_ff ?i_ff ?l_ff ?c_ff ?k_ff ?a_tf ?i_tf ?l_tf ?c_tf ?k_tf ?a_recv ?i_recv ?l_recv ?c_recv ?k_recv ?a_law ?l_law ?c_law ?k_law ?pgC ?hdC ?poC ?saC ?mkC ?kcC ?pgD ?hdD ?poD ?saD ?mkD ?kcD ?nC0 ?nC1 ?nC2 ?nC3 ?nC4 ?nC5 ?nC6 ?nC7 ?nC8 ?nC9 ?nC10 ?nD0 ?nD1 ?nD2 ?nD3 ?nD4 ?nD5 ?nD6 ?nD7 ?nD8 ?nD9 ?nD10 ?nD11 ?z_len ?z_min ?z_max ?z_int ?z_bool ?z_list ?z_isinstance ?z_iter ?z_sorted ?z_range ?lW ?w1 ?w2 ?w3 ?w4 ?w5 ?r1 ?r2 ?r3 ?r4
    (case aC => k_is)
    (case aD => k_is)
    (case aW => k_is)
    (case a_two => k_is)
    (case l_two => k_is)
    (case c_two => k_is)
    (case k_two => k_is)
    (case a_write => k_is)
    (case l_write => k_is)
    (case c_write => k_is)
    (case k_write => k_is)
    (case a_first => k_is)
    (case l_first => k_is)
    (case c_first => k_is)
    (case k_first => k_is)
    (case a_cell => k_is)
    (case l_cell => k_is)
    (case c_cell => k_is)
    (case k_cell => k_is)
    (case a_isi => k_is)
    (case l_isi => k_is)
    (case c_isi => k_is)
    (case k_isi => k_is)
    (case a_start => k_is)
    (case l_start => k_is)
    (case c_start => k_is)
    (case k_start => k_is)
    (case a_digit => k_is)
    (case l_digit => k_is)
    (case c_digit => k_is)
    (case k_digit => k_is)
    (case a_book => k_is)
    (case l_book => k_is)
    (case c_book => k_is)
    (case k_book => k_is)
    (case a_chan => k_is)
    (case l_chan => k_is)
    (case c_chan => k_is)
    (case k_chan => k_is)
    (case a_lw => k_is)
    (case l_lw => k_is)
    (case c_lw => k_is)
    (case k_lw => k_is)
    (case a_lr => k_is)
    (case l_lr => k_is)
    (case c_lr => k_is)
    (case k_lr => k_is)
    (case a_mv => k_is)
    (case l_mv => k_is)
    (case c_mv => k_is)
    (case k_mv => k_is)
    (case a_step => k_is)
    (case l_step => k_is)
    (case c_step => k_is)
    (case k_step => k_is)
    (case a_hold => k_is)
    (case l_hold => k_is)
    (case c_hold => k_is)
    (case k_hold => k_is)
    (case a_settle => k_is)
    (case l_settle => k_is)
    (case c_settle => k_is)
    (case k_settle => k_is)
    (case a_settled => k_is)
    (case l_settled => k_is)
    (case c_settled => k_is)
    (case k_settled => k_is)
    (case a_cinit => k_is)
    (case i_cinit => k_is)
    (case l_cinit => k_is)
    (case c_cinit => k_is)
    (case k_cinit => k_is)
    (case a_has => k_is)
    (case i_has => k_is)
    (case l_has => k_is)
    (case c_has => k_is)
    (case k_has => k_is)
    (case a_owes => k_is)
    (case i_owes => k_is)
    (case l_owes => k_is)
    (case c_owes => k_is)
    (case k_owes => k_is)
    (case a_nextf => k_is)
    (case i_nextf => k_is)
    (case l_nextf => k_is)
    (case c_nextf => k_is)
    (case k_nextf => k_is)
    (case a_drop => k_is)
    (case i_drop => k_is)
    (case l_drop => k_is)
    (case c_drop => k_is)
    (case k_drop => k_is)
    (case a_prob => k_is)
    (case i_prob => k_is)
    (case l_prob => k_is)
    (case c_prob => k_is)
    (case k_prob => k_is)
    (case a_takef => k_is)
    (case i_takef => k_is)
    (case l_takef => k_is)
    (case c_takef => k_is)
    (case k_takef => k_is)
    (case a_sinit => k_is)
    (case i_sinit => k_is)
    (case l_sinit => k_is)
    (case c_sinit => k_is)
    (case k_sinit => k_is)
    (case a_len => k_is)
    (case i_len => k_is)
    (case l_len => k_is)
    (case c_len => k_is)
    (case k_len => k_is)
    (case a_iter => k_is)
    (case i_iter => k_is)
    (case l_iter => k_is)
    (case c_iter => k_is)
    (case k_iter => k_is)
    (case a_known => k_is)
    (case i_known => k_is)
    (case l_known => k_is)
    (case c_known => k_is)
    (case k_known => k_is)
    (case a_theirs => k_is)
    (case i_theirs => k_is)
    (case l_theirs => k_is)
    (case c_theirs => k_is)
    (case k_theirs => k_is)
    (case a_room => k_is)
    (case i_room => k_is)
    (case l_room => k_is)
    (case c_room => k_is)
    (case k_room => k_is)
    (case a_add => k_is)
    (case i_add => k_is)
    (case l_add => k_is)
    (case c_add => k_is)
    (case k_add => k_is)
    (case a_open => k_is)
    (case i_open => k_is)
    (case l_open => k_is)
    (case c_open => k_is)
    (case k_open => k_is)
    (case a_wr => k_is)
    (case i_wr => k_is)
    (case l_wr => k_is)
    (case c_wr => k_is)
    (case k_wr => k_is)
    (case a_rd => k_is)
    (case i_rd => k_is)
    (case l_rd => k_is)
    (case c_rd => k_is)
    (case k_rd => k_is)
    (case a_fin => k_is)
    (case i_fin => k_is)
    (case l_fin => k_is)
    (case c_fin => k_is)
    (case k_fin => k_is)
    (case a_rs => k_is)
    (case i_rs => k_is)
    (case l_rs => k_is)
    (case c_rs => k_is)
    (case k_rs => k_is)
    (case a_st => k_is)
    (case i_st => k_is)
    (case l_st => k_is)
    (case c_st => k_is)
    (case k_st => k_is)
    (case a_nextt => k_is)
    (case i_nextt => k_is)
    (case l_nextt => k_is)
    (case c_nextt => k_is)
    (case k_nextt => k_is)
    (case a_next => k_is)
    (case i_next => k_is)
    (case l_next => k_is)
    (case c_next => k_is)
    (case k_next => k_is)
    (case a_take => k_is)
    (case i_take => k_is)
    (case l_take => k_is)
    (case c_take => k_is)
    (case k_take => k_is)
    (case a_ff => k_is)
    (case i_ff => k_is)
    (case l_ff => k_is)
    (case c_ff => k_is)
    (case k_ff => k_is)
    (case a_tf => k_is)
    (case i_tf => k_is)
    (case l_tf => k_is)
    (case c_tf => k_is)
    (case k_tf => k_is)
    (case a_recv => k_is)
    (case i_recv => k_is)
    (case l_recv => k_is)
    (case c_recv => k_is)
    (case k_recv => k_is)
    (case a_law => k_is)
    (case l_law => k_is)
    (case c_law => k_is)
    (case k_law => k_is)
    (case pgC => k_is)
    (case hdC => k_is)
    (case poC => k_is)
    (case saC => k_is)
    (case mkC => k_is)
    (case kcC => k_is)
    (case pgD => k_is)
    (case hdD => k_is)
    (case poD => k_is)
    (case saD => k_is)
    (case mkD => k_is)
    (case kcD => k_is)
    (case nC0 => k_is)
    (case nC1 => k_is)
    (case nC2 => k_is)
    (case nC3 => k_is)
    (case nC4 => k_is)
    (case nC5 => k_is)
    (case nC6 => k_is)
    (case nC7 => k_is)
    (case nC8 => k_is)
    (case nC9 => k_is)
    (case nC10 => k_is)
    (case nD0 => k_is)
    (case nD1 => k_is)
    (case nD2 => k_is)
    (case nD3 => k_is)
    (case nD4 => k_is)
    (case nD5 => k_is)
    (case nD6 => k_is)
    (case nD7 => k_is)
    (case nD8 => k_is)
    (case nD9 => k_is)
    (case nD10 => k_is)
    (case nD11 => k_is)
    (case z_len => k_is)
    (case z_min => k_is)
    (case z_max => k_is)
    (case z_int => k_is)
    (case z_bool => k_is)
    (case z_list => k_is)
    (case z_isinstance => k_is)
    (case z_iter => k_is)
    (case z_sorted => k_is)
    (case z_range => k_is)
    (case lW => k_is)
    (case w1 => exact rfl)
    (case w2 => exact rfl)
    (case w3 => exact rfl)
    (case w4 => decide)
    (case w5 => exact .cons ⟨_, rfl⟩ (.cons ⟨_, rfl⟩ (.cons ⟨_, rfl⟩ (.cons ⟨_, rfl⟩ (.cons ⟨_, rfl⟩ .nil)))))
    (case r1 => k_is)
    (case r2 => k_is)
    (case r3 => k_is)
    (case r4 => exact ⟨_, rfl⟩)
