import PyProof.Rows.All
import Wide.All
import OpenK.AllK
import Wide.FinOn
import HandS.IntHex
import HandS.ForMost
import HandS.Exc
import HandS.IsInst
import HandS.Walk
import HandS.Codes
import HandS.Text
import HandS.NoneIn
import HandS.Zip
import HandS.DictEq
import HandS.Conv
import HandS.SortInts
import HandS.DictComp
import PySem.Builtin.Int.W1All
import PySem.Challenge.RW_gatesenough_k92_whole_known_numbers_of_t
set_option Elab.async false
set_option linter.all false
set_option maxRecDepth 100000
set_option maxHeartbeats 4000000
/-! EvBin -/
/-! EvBin: the number that a text of signs 0, 1 tells, read with base two. -/
namespace EvBin
open PySem PySem.Spec PyProof.Rows L2 L2.Hx PySem.NumText PySem.Calls

def Bit (c : Nat) : Prop := c = 48 ∨ c = 49
def worth (l : List Nat) : Nat := l.foldl (fun a c => a * 2 + (c - 48)) 0
theorem Bit.hex {c : Nat} (h : Bit c) : IsHex c := by
  unfold Bit at h; unfold IsHex; omega
variable {cs : List Nat}
theorem allHex (h : ∀ c ∈ cs, Bit c) : ∀ c ∈ cs, IsHex c := fun c k => (h c k).hex
theorem digit_bit {c : Nat} (h : Bit c) : digit? c = some (c - 48) := by
  rcases h with rfl | rfl <;> rfl
theorem step_bit {ds : Array Nat} {b : Bool} {c : Nat} (h : Bit c) :
    PySem.NumText.step 2 (ds, b) c = some (ds.push (c - 48), true) := by
  rcases h with rfl | rfl <;> rfl
theorem foldl_bit : ∀ (l : List Nat) (ds : Array Nat), (∀ c ∈ l, Bit c) →
    l.foldlM (PySem.NumText.step 2) (ds, true) = some (l.foldl (fun acc c => acc.push (c - 48)) ds, true)
  | [], _, _ => rfl
  | c :: l, ds, h => by
    rw [List.foldlM_cons, step_bit (h c (by simp))]
    exact foldl_bit l (ds.push (c - 48)) fun d k => h d (by simp [k])
theorem digits_bit (h : ∀ c ∈ cs, Bit c) (hne : cs ≠ []) : digits? 2 cs = some (cs.foldl (fun acc c => acc.push (c - 48)) #[]) := by
  cases cs with
  | nil => exact absurd rfl hne
  | cons c l =>
    unfold digits?
    rw [List.foldlM_cons, step_bit (h c (by simp))]
    show (l.foldlM (PySem.NumText.step 2) ((#[] : Array Nat).push (c - 48), true)).bind _ = _
    rw [foldl_bit l _ fun d k => h d (by simp [k])]
    rfl
theorem push_bit : ∀ (l : List Nat) (ds : Array Nat),
    (l.foldl (fun acc c => acc.push (c - 48)) ds).foldl (fun acc d => acc * 2 + d) 0 = l.foldl (fun a c => a * 2 + (c - 48)) (ds.foldl (fun acc d => acc * 2 + d) 0)
  | [], _ => rfl
  | c :: l, ds => by
    rw [List.foldl_cons, push_bit l, List.foldl_cons]
    congr 1
    simp
theorem pref_bit (h : ∀ c ∈ cs, Bit c) : ∀ p, PySem.NumText.prefix? cs = some p → p ≠ 2 := by
  intro p hp
  match cs, h, hp with
  | [], _, hp => cases (show (none : Option Nat) = some p from hp)
  | [a], _, hp =>
    unfold PySem.NumText.prefix? at hp
    split at hp
    · rename_i e; cases e
    · cases hp
  | a :: c :: r, h, hp =>
    have hc : c = 48 ∨ c = 49 := h c (by simp)
    unfold PySem.NumText.prefix? at hp
    split at hp
    · rename_i e
      injection e with e1 e2
      injection e2 with e3 e4
      subst e3
      rcases hc with rfl | rfl <;> cases hp
    · cases hp
theorem based_bit (h : ∀ c ∈ cs, Bit c) : based 2 cs = (2, false, cs) := by
  have hp := pref_bit h
  unfold based
  cases e : PySem.NumText.prefix? cs with
  | none => rfl
  | some p =>
    have hne : ((2 : Nat) == 0 || (2 : Nat) == p) = false := by
      have := hp p e
      simp only [Bool.or_eq_false_iff, beq_eq_false_iff_ne]
      omega
    show (if ((2 : Nat) == 0 || (2 : Nat) == p) = true then _ else (2, false, cs)) = (2, false, cs)
    rw [hne]; rfl
theorem read_bit (h : ∀ c ∈ cs, Bit c) (hne : cs ≠ []) : (int_private% "readNumeral") 0 2 cs = (int_private% "Numeral.value") ((worth cs : Nat) : Int) := by
  have hr : ∀ c ∈ cs.reverse, Bit c := fun c k => h c (List.mem_reverse.mp k)
  refine (readNumeral_eq 0 2 cs).trans ?_
  rw [dropB (allHex h), signH (allHex h)]
  show judge 0 false (based 2 cs).1 (based 2 cs).2.1 (digits? (based 2 cs).1 (((based 2 cs).2.2.reverse.dropWhile blank).reverse)) = _
  rw [based_bit h]
  show judge 0 false 2 false (digits? 2 ((cs.reverse.dropWhile blank).reverse)) = _
  rw [dropB (allHex hr), List.reverse_reverse, digits_bit h hne]
  show (int_private% "Numeral.value") (((cs.foldl (fun acc c => acc.push (c - 48)) (#[] : Array Nat)).foldl (fun acc d => acc * 2 + d) 0 : Nat) : Int) = _
  rw [push_bit]
  rfl
set_option maxHeartbeats 8000000 in
theorem gives_bit {x : PySem.Str} {u t : Tok} (hl : x.length ≤ 640) (h : ∀ c ∈ x.cps.toList, Bit c) (hne : x.cps.toList ≠ []) :
    Gives (Builtin.«int.__new__» ⟨[.type "int", .str x u, .int 2 t], []⟩) (.int ((worth x.cps.toList : Nat) : Int)) := .of_wp fun M A E s Q hQ => by
  obtain ⟨hp, g, d, tk, os⟩ := s
  have f1 := F.conv_sub_int
  have f2 := F.madeHere_int
  have f6 : typeOf (.str x u) = pure (.type "str") := rfl
  obtain ⟨e1, e2⟩ := seen_hex (x := x) (allHex h)
  have k1 : (numSeenOf x).length ≤ 640 := by rw [e2, Array.length_toList]; exact hl
  have k2 : (int_private% "readNumeral") 0 2 (numSeenOf x) = (int_private% "Numeral.value") ((worth x.cps.toList : Nat) : Int) := by rw [e2]; exact read_bit h hne
  have k3 : ((numSeenOf x).length == (numTextOf x).length) = true := by rw [e1, e2]; exact beq_self_eq_true _
  have hk := Hid.mk (And.intro k1 (And.intro k2 k3))
  clear k1 k2 k3 e1 e2 hl hne h
  repeat (any_goals (first
    | assumption
    | ((with_reducible show wpAny _ _ ((int_private% "intFromText") _ _ _) _ _ _); refine wp_textB hk.out.1 hk.out.2.1 hk.out.2.2 ?_)
    | wp_step))
  all_goals first | exact ⟨_, rfl, hQ⟩ | skip
theorem call_bit {prog : Program} {w : World} {A : Around} {E : Value → Shared → Prop} {s : Shared} {Q : Value → Shared → Prop} {x : PySem.Str} {u t : Tok}
    (hl : x.length ≤ 640) (h : ∀ c ∈ x.cps.toList, Bit c) (hne : x.cps.toList ≠ []) (hQ : Q (.int ((worth x.cps.toList : Nat) : Int) s.toks) { s with toks := s.toks + 1 }) :
    wpAny (model prog w) A (PySem.call (.type "int") [.str x u, .int 2 t]) Q E s :=
  callType_new F.called_int F.newNe_int (typeCall_int_2 _ _) (newCall_int_2 _ _) (fun obj => F.initArgs_range_2 obj _ _) F.entry_int_new
    (gives_bit hl h hne).meets (show (Made.int ((worth x.cps.toList : Nat) : Int)).post _ s from ⟨rfl, hQ⟩)
theorem call_int_bit {X : Cx} : CallR X (.type "int") (fun xs H Q => ∃ l : List Nat, xs = [.str ⟨l.toArray⟩, .int 2] ∧ l ≠ [] ∧ l.length ≤ 640 ∧ (∀ c ∈ l, Bit c) ∧ Q (.int ((worth l : Nat) : Int)) H) := by
  intro pins s σ H xs us Q I r h
  obtain ⟨l, rfl, hne, hl, hx, q⟩ := h
  obtain ⟨u, w', rfl, ⟨t1, rfl⟩, ⟨t2, rfl⟩⟩ := vals2 r
  have e : (⟨l.toArray⟩ : Str).cps.toList = l := by simp
  refine call_bit (by simpa [Str.length] using hl) (by rw [e]; exact hx) (by rw [e]; exact hne) ?_
  rw [e]
  exact ⟨.int ((worth l : Nat) : Int), H, I.tok _, ⟨_, rfl⟩, q⟩
end EvBin
/-! Ev1 -/
/-! Ev1: data without a heap, how the abstract heap bears it, slots, the evaluator's results. -/
namespace Ev
open PySem PySem.Spec PyProof.Rows L2

abbrev Ky := Sum Int (List Nat)
inductive D where
  | non | bl (b : Bool) | int (i : Int) | str (l : List Nat)
  | lst (xs : List D) | tup (xs : List D)
  | dct (ks : List Ky) (xs : List D)
  | dcT (ks : List (List Ky)) (xs : List D)
  | ins (C : String) (fs : List String) (xs : List D)
  | fn (f : String) | cls (c : String) | ty (t : String)
  | stt | hnd (i : Nat)
  | dks (ks : List Ky)

def isIns : D → Bool
  | .ins _ _ _ => true
  | _ => false
abbrev tx (l : List Nat) : Str := ⟨l.toArray⟩
abbrev nm (s : String) : Str := Str.ofString s
def ky : Ky → Key
  | .inl i => .inl i
  | .inr l => .inr (tx l)

/-- what stays through a law: the written part, the module's names, the drawing state's two lists -/
structure RC where
  K : PySem.W.Frag
  mg : Str → Option Value
  sa : Option (Addr × Addr)
  cs : List String
  hs : List Addr := []
def RC.bad (R : RC) (b : Addr) : Prop := (∃ p, R.sa = some p ∧ (b = p.1 ∨ b = p.2)) ∨ b ∈ R.hs

def tys : List String := ["NoneType", "bool", "int", "str", "list", "tuple", "dict"]
/-- what the written part says of a class whose instances are data -/
structure InsC (K : PySem.W.Frag) (c : Addr) : Prop where
  cl : Cls K c
  ha : PySem.W.findIn K (.ref c) "__class__" = some (some (.builtin "object.__class__"))
  hn : PySem.W.specialIn K (.builtin "object.__class__") "__get__" = some (some (.builtin "getset_descriptor.__get__"))
  tk : PySem.W.takesIn K (.builtin "object.__class__") = some true
  ob : PySem.W.mroIn K c (.type "object") = some true
  kt : ∀ T ∈ tys, PySem.W.kitOne K (.ref c) (.type T) = some false
/-- the class called C stands at c, its instances are data -/
def RC.cls (R : RC) (C : String) (c : Addr) : Prop := R.mg (nm C) = some (.ref c) ∧ C ∈ R.cs
mutual
def Rep (R : RC) (F : Hp) : D → V → Prop
  | .non, v => v = .non
  | .bl b, v => v = .bl b
  | .int i, v => v = .int i
  | .str l, v => v = .str (tx l)
  | .lst ds, v => ∃ a vs, v = .ref a ∧ F a = some (.lst vs) ∧ Reps R F ds vs
  | .tup ds, v => ∃ a vs, v = .ref a ∧ SqT R.K F a vs ∧ Reps R F ds vs
  | .dct ks ds, v => ∃ a vs, v = .ref a ∧ F a = some (.dK ((ks.map ky).zip vs)) ∧ ks.length = vs.length ∧ Reps R F ds vs
  | .dcT ks ds, v => ∃ a vs, v = .ref a ∧ F a = some (.dT ((ks.map (·.map ky)).zip vs)) ∧ ks.length = vs.length ∧ Reps R F ds vs
  | .ins C fs ds, v => ∃ a dx c vs, v = .ref a ∧ (R.cls C c ∧ InsC R.K c) ∧ F a = some (.ins c dx ((fs.map nm).zip vs)) ∧ fs.length = vs.length ∧ Reps R F ds vs
  | .fn f, v => ∃ a, v = .ref a ∧ R.mg (nm f) = some (.ref a)
  | .cls f, v => ∃ a, v = .ref a ∧ R.mg (nm f) = some (.ref a)
  | .ty t, v => v = .ty t
  | .stt, v => ∃ p, R.sa = some p ∧ v = .ref p.1
  | .hnd i, v => ∃ a, R.hs[i]? = some a ∧ v = .ref a
  | .dks ks, v => ∃ a vs, v = .ref a ∧ F a = some (.dK ((ks.map ky).zip vs)) ∧ ks.length = vs.length
def Reps (R : RC) (F : Hp) : List D → List V → Prop
  | [], vs => vs = []
  | d :: ds, vs => ∃ x xs, vs = x :: xs ∧ Rep R F d x ∧ Reps R F ds xs
end

theorem SqT.mono {K : PySem.W.Frag} {F F' : Hp} {a : Addr} {xs : List V} (e : Same F F') (h : SqT K F a xs) : SqT K F' a xs := by
  rcases h with (h | ⟨o, h⟩) | h
  · exact .inl (.inl (e _ _ h))
  · exact .inl (.inr ⟨o, e _ _ h⟩)
  · exact .inr h

mutual
theorem Rep.mono {R : RC} {F F' : Hp} (e : Same F F') : ∀ (d : D) (v : V), Rep R F d v → Rep R F' d v
  | .non, v, h => by simpa [Rep] using h
  | .bl b, v, h => by simpa [Rep] using h
  | .int i, v, h => by simpa [Rep] using h
  | .str l, v, h => by simpa [Rep] using h
  | .lst ds, v, h => by
    simp only [Rep] at h ⊢
    obtain ⟨a, vs, h1, h2, h3⟩ := h
    exact ⟨a, vs, h1, e _ _ h2, Reps.mono e ds vs h3⟩
  | .tup ds, v, h => by
    simp only [Rep] at h ⊢
    obtain ⟨a, vs, h1, h2, h3⟩ := h
    exact ⟨a, vs, h1, SqT.mono e h2, Reps.mono e ds vs h3⟩
  | .dct ks ds, v, h => by
    simp only [Rep] at h ⊢
    obtain ⟨a, vs, h1, h2, h3, h4⟩ := h
    exact ⟨a, vs, h1, e _ _ h2, h3, Reps.mono e ds vs h4⟩
  | .dcT ks ds, v, h => by
    simp only [Rep] at h ⊢
    obtain ⟨a, vs, h1, h2, h3, h4⟩ := h
    exact ⟨a, vs, h1, e _ _ h2, h3, Reps.mono e ds vs h4⟩
  | .ins C fs ds, v, h => by
    simp only [Rep] at h ⊢
    obtain ⟨a, dx, c, vs, h1, h2, h3, h4, h5⟩ := h
    exact ⟨a, dx, c, vs, h1, h2, e _ _ h3, h4, Reps.mono e ds vs h5⟩
  | .fn f, v, h => by simpa [Rep] using h
  | .cls f, v, h => by simpa [Rep] using h
  | .ty t, v, h => by simpa [Rep] using h
  | .stt, v, h => by simpa [Rep] using h
  | .hnd i, v, h => by simpa [Rep] using h
  | .dks ks, v, h => by
    simp only [Rep] at h ⊢
    obtain ⟨a, vs, h1, h2, h3⟩ := h
    exact ⟨a, vs, h1, e _ _ h2, h3⟩
theorem Reps.mono {R : RC} {F F' : Hp} (e : Same F F') : ∀ (ds : List D) (vs : List V), Reps R F ds vs → Reps R F' ds vs
  | [], vs, h => by simpa [Reps] using h
  | d :: ds, vs, h => by
    simp only [Reps] at h ⊢
    obtain ⟨x, xs, h1, h2, h3⟩ := h
    exact ⟨x, xs, h1, Rep.mono e d x h2, Reps.mono e ds xs h3⟩
end

theorem Reps.length {R : RC} {F : Hp} : ∀ {ds : List D} {vs : List V}, Reps R F ds vs → ds.length = vs.length
  | [], vs, h => by simp only [Reps] at h; simp [h]
  | d :: ds, vs, h => by
    simp only [Reps] at h
    obtain ⟨x, xs, rfl, _, h3⟩ := h
    simp [Reps.length h3]
theorem Reps.get {R : RC} {F : Hp} : ∀ {ds : List D} {vs : List V} {i : Nat} {d : D}, Reps R F ds vs → ds[i]? = some d → ∃ v, vs[i]? = some v ∧ Rep R F d v
  | [], _, i, _, _, e => by simp at e
  | _ :: ds, vs, 0, d, h, e => by
    simp only [Reps] at h
    obtain ⟨x, xs, rfl, h2, _⟩ := h
    simp at e; subst e
    exact ⟨x, rfl, h2⟩
  | _ :: ds, vs, i + 1, d, h, e => by
    simp only [Reps] at h
    obtain ⟨x, xs, rfl, _, h3⟩ := h
    obtain ⟨v, h4, h5⟩ := Reps.get (i := i) h3 (by simpa using e)
    exact ⟨v, by simpa using h4, h5⟩
theorem Reps.get' {R : RC} {F : Hp} {ds : List D} {vs : List V} {i : Nat} {v : V} (h : Reps R F ds vs) (e : vs[i]? = some v) : ∃ d, ds[i]? = some d ∧ Rep R F d v := by
  have hl := h.length
  have hi : i < ds.length := by rw [hl]; exact (List.getElem?_eq_some_iff.mp e).1
  obtain ⟨v', e', r⟩ := h.get (List.getElem?_eq_getElem hi)
  rw [e] at e'; cases e'
  exact ⟨_, List.getElem?_eq_getElem hi, r⟩
theorem Reps.append {R : RC} {F : Hp} : ∀ {ds es : List D} {vs us : List V}, Reps R F ds vs → Reps R F es us → Reps R F (ds ++ es) (vs ++ us)
  | [], es, vs, us, h, k => by simp only [Reps] at h; subst h; simpa using k
  | d :: ds, es, vs, us, h, k => by
    simp only [Reps] at h
    obtain ⟨x, xs, rfl, h2, h3⟩ := h
    simp only [List.cons_append, Reps]
    exact ⟨x, _, rfl, h2, Reps.append h3 k⟩
theorem Reps.one {R : RC} {F : Hp} {d : D} {v : V} (h : Rep R F d v) : Reps R F [d] [v] := by
  simp only [Reps]; exact ⟨v, [], rfl, h, rfl⟩
theorem Reps.nil {R : RC} {F : Hp} : Reps R F [] [] := by simp [Reps]
theorem Reps.cons {R : RC} {F : Hp} {d : D} {v : V} {ds : List D} {vs : List V} (h : Rep R F d v) (k : Reps R F ds vs) : Reps R F (d :: ds) (v :: vs) := by
  simp only [Reps]; exact ⟨v, vs, rfl, h, k⟩
theorem Reps.take {R : RC} {F : Hp} : ∀ {ds : List D} {vs : List V} (n : Nat), Reps R F ds vs → Reps R F (ds.take n) (vs.take n)
  | _, _, 0, _ => by simp [Reps]
  | [], vs, n + 1, h => by simp only [Reps] at h; subst h; simp [Reps]
  | d :: ds, vs, n + 1, h => by
    simp only [Reps] at h
    obtain ⟨x, xs, rfl, h2, h3⟩ := h
    simp only [List.take_succ_cons]
    exact Reps.cons h2 (Reps.take n h3)
theorem Reps.drop {R : RC} {F : Hp} : ∀ {ds : List D} {vs : List V} (n : Nat), Reps R F ds vs → Reps R F (ds.drop n) (vs.drop n)
  | _, _, 0, h => by simpa using h
  | [], vs, n + 1, h => by simp only [Reps] at h; subst h; simp [Reps]
  | d :: ds, vs, n + 1, h => by
    simp only [Reps] at h
    obtain ⟨x, xs, rfl, h2, h3⟩ := h
    simpa using Reps.drop n h3
theorem Reps.eraseIdx {R : RC} {F : Hp} : ∀ {ds : List D} {vs : List V} (n : Nat), Reps R F ds vs → Reps R F (ds.eraseIdx n) (vs.eraseIdx n)
  | [], vs, n, h => by simp only [Reps] at h; subst h; simp [Reps]
  | d :: ds, vs, 0, h => by
    simp only [Reps] at h
    obtain ⟨x, xs, rfl, h2, h3⟩ := h
    simpa using h3
  | d :: ds, vs, n + 1, h => by
    simp only [Reps] at h
    obtain ⟨x, xs, rfl, h2, h3⟩ := h
    simp only [List.eraseIdx_cons_succ]
    exact Reps.cons h2 (Reps.eraseIdx n h3)
theorem Reps.set {R : RC} {F : Hp} {d : D} {v : V} (r : Rep R F d v) : ∀ {ds : List D} {vs : List V} (n : Nat), Reps R F ds vs → Reps R F (ds.set n d) (vs.set n v)
  | [], vs, n, h => by simp only [Reps] at h; subst h; simp [Reps]
  | e :: ds, vs, 0, h => by
    simp only [Reps] at h
    obtain ⟨x, xs, rfl, h2, h3⟩ := h
    simp only [List.set_cons_zero]
    exact Reps.cons r h3
  | e :: ds, vs, n + 1, h => by
    simp only [Reps] at h
    obtain ⟨x, xs, rfl, h2, h3⟩ := h
    simp only [List.set_cons_succ]
    exact Reps.cons h2 (Reps.set r n h3)

/-! ### slots -/
/-- a slot: nothing known; a value that stays (false); a list or dict that only this slot holds (true) -/
abbrev Slot := Option (Bool × D)
abbrev Env := List Slot
/-- the drawing state; what the handles hold -/
structure PSt where
  cells : List Int
  a : Int
  b : Int
  c : Int
  hd : List D := []

/-- a list or a dict at a that is not frozen, its items frozen -/
def OwnAt (R : RC) (F H : Hp) : D → Addr → Prop
  | .lst ds, a => ∃ vs, H a = some (.lst vs) ∧ Reps R F ds vs
  | .dct ks ds, a => ∃ vs, H a = some (.dK ((ks.map ky).zip vs)) ∧ ks.length = vs.length ∧ Reps R F ds vs
  | .dks ks, a => ∃ vs, H a = some (.dK ((ks.map ky).zip vs)) ∧ ks.length = vs.length
  | .dcT ks ds, a => ∃ vs, H a = some (.dT ((ks.map (·.map ky)).zip vs)) ∧ ks.length = vs.length ∧ Reps R F ds vs
  | .ins C fs ds, a => ∃ vs, (∃ c dx, (R.cls C c ∧ InsC R.K c) ∧ H a = some (.ins c dx ((fs.map nm).zip vs))) ∧ fs.length = vs.length ∧ Reps R F ds vs
  | _, _ => False
abbrev SS := L2.St
def SlotOk (R : RC) (F H : Hp) (s : Slot) (x : Option V) : Prop :=
  match s with
  | none => True
  | some (false, d) => ∃ v, x = some v ∧ Rep R F d v
  | some (true, d) => ∃ a, x = some (.ref a) ∧ F a = none ∧ ¬ R.bad a ∧ OwnAt R F H d a
structure StOk (R : RC) (F H : Hp) (st : PSt) : Prop where
  sa : ∀ p, R.sa = some p → p.1 ≠ p.2 ∧ F p.1 = none ∧ F p.2 = none ∧
    H p.1 = some (.lst [.ref p.2, .int st.a, .int st.b, .int st.c]) ∧ H p.2 = some (.lst (st.cells.map V.int)) ∧ st.cells.length ≤ 63
  len : st.hd.length = R.hs.length
  nd : R.hs.Nodup
  ap : ∀ p, R.sa = some p → p.1 ∉ R.hs ∧ p.2 ∉ R.hs
  hd : ∀ (i : Nat) (a : Addr) (d : D), R.hs[i]? = some a → st.hd[i]? = some d → F a = none ∧ OwnAt R F H d a
/-- the slots' owners stand apart -/
def Apart (σ : SS) (ρ : Env) : Prop := ∀ (i j : Nat) (d e : D) (a : Addr), i ≠ j → ρ[i]? = some (some (true, d)) → ρ[j]? = some (some (true, e)) → σ[i]? = some (some (.ref a)) → σ[j]? = some (some (.ref a)) → False
structure Good (R : RC) (F H : Hp) (σ : SS) (ρ : Env) (st : PSt) : Prop where
  sub : Same F H
  st : StOk R F H st
  len : ρ.length = σ.length
  slot : ∀ (i : Nat) (s : Slot) (x : Option V), ρ[i]? = some s → σ[i]? = some x → SlotOk R F H s x
  apart : Apart σ ρ
/-- what a computation may do to the heap: nothing that stood is changed, but the drawing state; what stood unfrozen stays unfrozen -/
structure Ext (R : RC) (F H F' H' : Hp) : Prop where
  fz : Same F F'
  kp : ∀ b o, H b = some o → R.bad b ∨ H' b = some o
  un : ∀ b, (∃ o, H b = some o) → F b = none → F' b = none
theorem Ext.refl (R : RC) (F H : Hp) : Ext R F H F H := ⟨Same.refl _, fun _ _ h => .inr h, fun _ _ h => h⟩
theorem Ext.trans {R : RC} {F H F1 H1 F2 H2 : Hp} (a : Ext R F H F1 H1) (b : Ext R F1 H1 F2 H2) (hb : ∀ c, R.bad c → F1 c = none ∧ ∃ o, H1 c = some o) : Ext R F H F2 H2 where
  fz := a.fz.trans b.fz
  kp := fun c o h => by
    rcases a.kp c o h with h1 | h1
    · exact .inl h1
    · exact b.kp c o h1
  un := fun c ⟨o, h⟩ hf => by
    rcases a.kp c o h with h1 | h1
    · obtain ⟨x, y⟩ := hb c h1
      exact b.un c y x
    · exact b.un c ⟨o, h1⟩ (a.un c ⟨o, h⟩ hf)
theorem OwnAt.mono {R : RC} {F H F' H' : Hp} {d : D} {a : Addr} (h : OwnAt R F H d a) (e : Same F F') (k : ∀ o, H a = some o → H' a = some o) : OwnAt R F' H' d a := by
  cases d with
  | lst ds => obtain ⟨vs, h1, h2⟩ := h; exact ⟨vs, k _ h1, Reps.mono e _ _ h2⟩
  | dct ks ds => obtain ⟨vs, h1, h2, h3⟩ := h; exact ⟨vs, k _ h1, h2, Reps.mono e _ _ h3⟩
  | dcT ks ds => obtain ⟨vs, h1, h2, h3⟩ := h; exact ⟨vs, k _ h1, h2, Reps.mono e _ _ h3⟩
  | dks ks => obtain ⟨vs, h1, h2⟩ := h; exact ⟨vs, k _ h1, h2⟩
  | ins C fs ds => obtain ⟨vs, ⟨c, dx, h0, h1⟩, h2, h3⟩ := h; exact ⟨vs, ⟨c, dx, h0, k _ h1⟩, h2, Reps.mono e _ _ h3⟩
  | _ => exact h.elim
theorem OwnAt.there {R : RC} {F H : Hp} {d : D} {a : Addr} (h : OwnAt R F H d a) : ∃ o, H a = some o := by
  cases d with
  | lst ds => obtain ⟨vs, h1, _⟩ := h; exact ⟨_, h1⟩
  | dct ks ds => obtain ⟨vs, h1, _⟩ := h; exact ⟨_, h1⟩
  | dcT ks ds => obtain ⟨vs, h1, _⟩ := h; exact ⟨_, h1⟩
  | dks ks => obtain ⟨vs, h1, _⟩ := h; exact ⟨_, h1⟩
  | ins C fs ds => obtain ⟨vs, ⟨c, dx, h0, h1⟩, _⟩ := h; exact ⟨_, h1⟩
  | _ => exact h.elim
theorem StOk.hd' {R : RC} {F H : Hp} {st : PSt} (h : StOk R F H st) {c : Addr} (hc : c ∈ R.hs) : ∃ d, F c = none ∧ OwnAt R F H d c := by
  obtain ⟨i, hi, e⟩ := List.getElem_of_mem hc
  have hi' : i < st.hd.length := by rw [h.len]; exact hi
  exact ⟨_, h.hd i c _ (by rw [List.getElem?_eq_getElem hi, e]) (List.getElem?_eq_getElem hi')⟩
theorem StOk.bad {R : RC} {F H : Hp} {st : PSt} (h : StOk R F H st) : ∀ c, R.bad c → F c = none ∧ ∃ o, H c = some o := by
  rintro c (⟨p, hp, e⟩ | hc)
  · obtain ⟨_, h1, h2, h3, h4, _⟩ := h.sa p hp
    rcases e with rfl | rfl
    · exact ⟨h1, _, h3⟩
    · exact ⟨h2, _, h4⟩
  · obtain ⟨d, h1, h2⟩ := h.hd' hc
    exact ⟨h1, h2.there⟩
/-- where no object of it is touched -/
theorem StOk.keep {R : RC} {F H F' H' : Hp} {st : PSt} (h : StOk R F H st) (e : Same F F') (k : ∀ b, R.bad b → F' b = F b ∧ H' b = H b) : StOk R F' H' st where
  sa := fun p hp => by
    obtain ⟨h1, h2, h3, h4, h5, h6⟩ := h.sa p hp
    obtain ⟨k1, k2⟩ := k p.1 (.inl ⟨p, hp, .inl rfl⟩)
    obtain ⟨k3, k4⟩ := k p.2 (.inl ⟨p, hp, .inr rfl⟩)
    rw [k1, k2, k3, k4]
    exact ⟨h1, h2, h3, h4, h5, h6⟩
  len := h.len
  nd := h.nd
  ap := h.ap
  hd := fun i a d h1 h2 => by
    obtain ⟨h3, h4⟩ := h.hd i a d h1 h2
    obtain ⟨k1, k2⟩ := k a (.inr (List.mem_of_getElem? h1))
    exact ⟨by rw [k1]; exact h3, h4.mono e fun o q => by rw [k2]; exact q⟩
theorem Good.trans {R : RC} {F H F1 H1 F2 H2 : Hp} {σ : SS} {ρ : Env} {st : PSt} (g : Good R F1 H1 σ ρ st) (a : Ext R F H F1 H1) (b : Ext R F1 H1 F2 H2) : Ext R F H F2 H2 := a.trans b g.st.bad
theorem SlotOk.ext {R : RC} {F H F' H' : Hp} {s : Slot} {x : Option V} (h : SlotOk R F H s x) (e : Ext R F H F' H') : SlotOk R F' H' s x := by
  rcases s with _ | ⟨b, d⟩
  · trivial
  · cases b with
    | false => obtain ⟨v, h1, h2⟩ := h; exact ⟨v, h1, Rep.mono e.fz _ _ h2⟩
    | true =>
      obtain ⟨a, h1, h2, h3, h4⟩ := h
      refine ⟨a, h1, e.un a h4.there h2, h3, h4.mono e.fz fun o q => ?_⟩
      rcases e.kp a o q with z | z
      · exact absurd z h3
      · exact z
/-- the state behind a computation that touches no slot -/
theorem Good.ext {R : RC} {F H F' H' : Hp} {σ : SS} {ρ : Env} {st st' : PSt} (g : Good R F H σ ρ st) (e : Ext R F H F' H') (hs : Same F' H') (hst : StOk R F' H' st') : Good R F' H' σ ρ st' :=
  ⟨hs, hst, g.len, fun i s x h1 h2 => (g.slot i s x h1 h2).ext e, g.apart⟩

/-! ### results -/
abbrev M (α : Type) := Env → PSt → Option (α × Env × PSt)
end Ev
/-! Ev2 -/
/-! Ev2: readings of expressions by computations over data. -/
namespace Ev
open PySem PySem.Spec PyProof.Rows L2

inductive Kind where | val | top | own
def RepT (R : RC) (F H : Hp) (d : D) (v : V) : Prop := Rep R F d v ∨ ∃ a, v = V.ref a ∧ ¬ R.bad a ∧ OwnAt R F H d a
def NoOwn (σ : SS) (ρ : Env) (a : Addr) : Prop := ∀ (i : Nat) (d : D), ρ[i]? = some (some (true, d)) → σ[i]? ≠ some (some (V.ref a))
/-- a body's run: the heaps at its entry -/
structure RN where
  R : RC
  F0 : Hp
  H0 : Hp
  rs : Addr → Prop
  slf : Addr
/-- the state within a body -/
structure Gd (N : RN) (F H : Hp) (σ : SS) (ρ : Env) (st : PSt) : Prop extends Good N.R F H σ ρ st where
  ent : Ext N.R N.F0 N.H0 F H
  new : ∀ (i : Nat) (d : D) (a : Addr), ρ[i]? = some (some (true, d)) → σ[i]? = some (some (V.ref a)) → N.H0 a = none
  rsv : ∀ a, N.rs a → F a = none ∧ (∃ o, H a = some o) ∧ (¬ N.R.bad a ∧ N.H0 a = none) ∧ NoOwn σ ρ a
  self : ∀ (i : Nat) (d : D) (a : Addr), ρ[i]? = some (some (true, d)) → σ[i]? = some (some (V.ref a)) → isIns d = true → a = N.slf
/-- from one state to a later one (no slot's own object changed) -/
structure Go (R : RC) (F H F' H' : Hp) : Prop where
  fz : Same F F'
  kp : ∀ b o, H b = some o → R.bad b ∨ H' b = some o
theorem Go.refl (R : RC) (F H : Hp) : Go R F H F H := ⟨Same.refl _, fun _ _ h => .inr h⟩
theorem Go.trans {R : RC} {F H F1 H1 F2 H2 : Hp} (a : Go R F H F1 H1) (b : Go R F1 H1 F2 H2) : Go R F H F2 H2 :=
  ⟨a.fz.trans b.fz, fun c o h => (a.kp c o h).elim .inl fun h1 => b.kp c o h1⟩
theorem Ext.go {R : RC} {F H F' H' : Hp} (e : Ext R F H F' H') : Go R F H F' H' := ⟨e.fz, e.kp⟩
def ResOk (N : RN) (k : Kind) (F H : Hp) (σ : SS) (ρ : Env) (d : D) (v : V) : Prop :=
  match k with
  | .val => Rep N.R F d v
  | .top => RepT N.R F H d v
  | .own => ∃ a, v = V.ref a ∧ N.H0 a = none ∧ F a = none ∧ ¬ N.R.bad a ∧ ¬ N.rs a ∧ NoOwn σ ρ a ∧ isIns d = false ∧ OwnAt N.R F H d a
def tE (N : RN) (k : Kind) (m : M D) : TE := fun σ H Q => ∃ F ρ st, Gd N F H σ ρ st ∧ ∃ d ρ' st', m ρ st = some (d, ρ', st') ∧
  ∀ F' H' v, Go N.R F H F' H' → Gd N F' H' σ ρ' st' → ResOk N k F' H' σ ρ' d v → Q v H'
def tT (N : RN) (m : M D) : TT := fun σ H Q => ∃ F ρ st, Gd N F H σ ρ st ∧ ∃ b ρ' st', m ρ st = some (.bl b, ρ', st') ∧
  ∀ F' H', Go N.R F H F' H' → Gd N F' H' σ ρ' st' → Q b H'
def ResOks (R : RC) (k : Kind) (F H : Hp) (ds : List D) (vs : List V) : Prop :=
  match k with
  | .val => Reps R F ds vs
  | _ => Paired (RepT R F H) ds vs
def tA (N : RN) (k : Kind) (m : M (List D)) : TA := fun σ H Q => ∃ F ρ st, Gd N F H σ ρ st ∧ ∃ ds ρ' st', m ρ st = some (ds, ρ', st') ∧
  ∀ F' H' vs, Go N.R F H F' H' → Gd N F' H' σ ρ' st' → ResOks N.R k F' H' ds vs → Q vs H'

theorem pe_of {X : Cx} {e : Expr} {t t' : TE} (h : PE X e t) (k : ∀ σ H Q, t' σ H Q → t σ H Q) : PE X e t' := ⟨fun pins s σ H Q I q => h.run pins s σ H Q I (k _ _ _ q)⟩
theorem pt_of {X : Cx} {e : Expr} {t t' : TT} (h : PT X e t) (k : ∀ σ H Q, t' σ H Q → t σ H Q) : PT X e t' := ⟨fun pins s σ H Q I q => h.run pins s σ H Q I (k _ _ _ q)⟩
theorem pw_of {X : Cx} {e : Expr} {t t' : TT} (h : PW X e t) (k : ∀ σ H Q, t' σ H Q → t σ H Q) : PW X e t' := ⟨fun wh pins s σ H Q I q => h.run wh pins s σ H Q I (k _ _ _ q)⟩
theorem pa_of {X : Cx} {es : List Expr} {t t' : TA} (h : PA X es t) (k : ∀ σ H Q, t' σ H Q → t σ H Q) : PA X es t' := ⟨fun p pins s σ H Q I q => h.run p pins s σ H Q I (k _ _ _ q)⟩

section
variable {R : RC} {F H F' H' : Hp} {σ : SS} {ρ : Env} {st : PSt}
theorem RepT.ext {d : D} {v : V} (h : RepT R F H d v) (e : Go R F H F' H') : RepT R F' H' d v := by
  rcases h with h | ⟨a, h1, h2, h3⟩
  · exact .inl (Rep.mono e.fz _ _ h)
  · refine .inr ⟨a, h1, h2, h3.mono e.fz fun o q => ?_⟩
    rcases e.kp a o q with z | z
    · exact absurd z h2
    · exact z
theorem RepT.exts {ds : List D} {vs : List V} (h : Paired (RepT R F H) ds vs) (e : Go R F H F' H') : Paired (RepT R F' H') ds vs := Paired.mapP h fun _ _ x => x.ext e
theorem repT_of {d : D} {v : V} (h : Rep R F d v) : RepT R F H d v := .inl h
theorem repTs_of : ∀ {ds : List D} {vs : List V}, Reps R F ds vs → Paired (RepT R F H) ds vs
  | [], vs, h => by simp only [Reps] at h; subst h; exact .nil
  | d :: ds, vs, h => by
    simp only [Reps] at h
    obtain ⟨x, xs, rfl, h2, h3⟩ := h
    exact .cons (.inl h2) (repTs_of h3)
/-- what no list or dict is: its reading is the frozen one -/
def flat : D → Bool
  | .lst _ => false
  | .dct _ _ => false
  | .dcT _ _ => false
  | .ins _ _ _ => false
  | .dks _ => false
  | _ => true
theorem RepT.rep {d : D} {v : V} (h : RepT R F H d v) (f : flat d = true) : Rep R F d v := by
  rcases h with h | ⟨a, h1, h2, h3⟩
  · exact h
  · cases d <;> first | exact h3.elim | cases f
theorem RepT.int {i : Int} {v : V} (h : RepT R F H (.int i) v) : v = .int i := by simpa [Rep] using h.rep rfl
theorem RepT.bl {b : Bool} {v : V} (h : RepT R F H (.bl b) v) : v = .bl b := by simpa [Rep] using h.rep rfl
theorem RepT.str {l : List Nat} {v : V} (h : RepT R F H (.str l) v) : v = .str (tx l) := by simpa [Rep] using h.rep rfl
theorem RepT.non {v : V} (h : RepT R F H .non v) : v = .non := by simpa [Rep] using h.rep rfl
theorem RepT.lst {ds : List D} {v : V} (g : Same F H) (h : RepT R F H (.lst ds) v) : ∃ a vs, v = .ref a ∧ H a = some (.lst vs) ∧ Reps R F ds vs := by
  rcases h with h | ⟨a, h1, _, vs, h3, h4⟩
  · simp only [Rep] at h
    obtain ⟨a, vs, h1, h2, h3⟩ := h
    exact ⟨a, vs, h1, g _ _ h2, h3⟩
  · exact ⟨a, vs, h1, h3, h4⟩
theorem RepT.tup {ds : List D} {v : V} (g : Same F H) (h : RepT R F H (.tup ds) v) : ∃ a vs, v = .ref a ∧ SqT R.K H a vs ∧ Reps R F ds vs := by
  have h := h.rep rfl
  simp only [Rep] at h
  obtain ⟨a, vs, h1, h2, h3⟩ := h
  exact ⟨a, vs, h1, SqT.mono g h2, h3⟩
theorem RepT.dct {ks : List Ky} {ds : List D} {v : V} (g : Same F H) (h : RepT R F H (.dct ks ds) v) : ∃ a vs, v = .ref a ∧ H a = some (.dK ((ks.map ky).zip vs)) ∧ ks.length = vs.length ∧ Reps R F ds vs := by
  rcases h with h | ⟨a, h1, _, vs, h3, h4⟩
  · simp only [Rep] at h
    obtain ⟨a, vs, h1, h2, h3⟩ := h
    exact ⟨a, vs, h1, g _ _ h2, h3⟩
  · exact ⟨a, vs, h1, h3, h4⟩
theorem RepT.ins {C : String} {fs : List String} {ds : List D} {v : V} (g : Same F H) (h : RepT R F H (.ins C fs ds) v) : ∃ a dx c vs, v = .ref a ∧ (R.cls C c ∧ InsC R.K c) ∧ H a = some (.ins c dx ((fs.map nm).zip vs)) ∧ fs.length = vs.length ∧ Reps R F ds vs := by
  rcases h with h | ⟨a, h1, _, vs, ⟨c, dx, h2, h3⟩, h4, h5⟩
  · simp only [Rep] at h
    obtain ⟨a, dx, c, vs, h1, h2, h3, h4⟩ := h
    exact ⟨a, dx, c, vs, h1, h2, g _ _ h3, h4⟩
  · exact ⟨a, dx, c, vs, h1, h2, h3, h4, h5⟩
theorem Good.self (g : Good R F H σ ρ st) : Ext R F H F H := Ext.refl R F H

/-- a new object at a free place, frozen at once -/
theorem ext_new {a : Addr} {o : HO} (g : Good R F H σ ρ st) (ha : H a = none) : Ext R F H (upd F a o) (upd H a o) ∧ Good R (upd F a o) (upd H a o) σ ρ st := by
  have hF : F a = none := g.sub.free ha
  have nb : ¬ R.bad a := fun z => by
    obtain ⟨_, o', h⟩ := g.st.bad a z
    rw [ha] at h; cases h
  have e : Ext R F H (upd F a o) (upd H a o) := ⟨fun b u h => by rw [upd_ne (ne_of_none h hF)]; exact h, fun b u h => .inr (by rw [upd_ne (ne_of_none h ha)]; exact h), fun b ⟨u, h⟩ hb => by rw [upd_ne (ne_of_none h ha)]; exact hb⟩
  refine ⟨e, g.ext e (fun b u h => ?_) ?_⟩
  · by_cases q : b = a
    · subst q; rw [upd_same] at h ⊢; exact h
    · rw [upd_ne q] at h ⊢; exact g.sub _ _ h
  · refine g.st.keep e.fz fun b hb => ?_
    have n : b ≠ a := fun z => nb (z ▸ hb)
    rw [upd_ne n, upd_ne n]
    exact ⟨rfl, rfl⟩
/-- .. not frozen -/
theorem ext_new_own {a : Addr} {o : HO} (g : Good R F H σ ρ st) (ha : H a = none) : Ext R F H F (upd H a o) ∧ Good R F (upd H a o) σ ρ st := by
  have nb : ¬ R.bad a := fun z => by
    obtain ⟨_, o', h⟩ := g.st.bad a z
    rw [ha] at h; cases h
  have e : Ext R F H F (upd H a o) := ⟨Same.refl _, fun b u h => .inr (by rw [upd_ne (ne_of_none h ha)]; exact h), fun b _ hb => hb⟩
  refine ⟨e, g.ext e (fun b u h => by rw [upd_ne (ne_of_none (g.sub _ _ h) ha)]; exact g.sub _ _ h) ?_⟩
  refine g.st.keep e.fz fun b hb => ?_
  have n : b ≠ a := fun z => nb (z ▸ hb)
  rw [upd_ne n]
  exact ⟨rfl, rfl⟩
/-- an unfrozen object that no slot owns is frozen -/
theorem ext_freeze {a : Addr} {o : HO} (g : Good R F H σ ρ st) (ha : H a = some o) (hF : F a = none) (nb : ¬ R.bad a) (no : NoOwn σ ρ a) :
    Same F (upd F a o) ∧ Good R (upd F a o) H σ ρ st := by
  have e : Same F (upd F a o) := fun b u h => by rw [upd_ne (ne_of_none h hF)]; exact h
  refine ⟨e, ⟨fun b u h => ?_, ?_, g.len, fun i s x h1 h2 => ?_, g.apart⟩⟩
  · by_cases q : b = a
    · subst q; rw [upd_same] at h; cases h; exact ha
    · rw [upd_ne q] at h; exact g.sub _ _ h
  · refine g.st.keep e fun b hb => ?_
    have n : b ≠ a := fun z => nb (z ▸ hb)
    rw [upd_ne n]
    exact ⟨rfl, rfl⟩
  · have k := g.slot i s x h1 h2
    rcases s with _ | ⟨b, d⟩
    · trivial
    · cases b with
      | false => obtain ⟨v, z1, z2⟩ := k; exact ⟨v, z1, Rep.mono e _ _ z2⟩
      | true =>
        obtain ⟨c, z1, z2, z3, z4⟩ := k
        have : c ≠ a := fun z => no i d h1 (by rw [h2, z1, z])
        exact ⟨c, z1, by rw [upd_ne this]; exact z2, z3, z4.mono e fun _ q => q⟩
end

section
variable {N : RN} {F H F' H' : Hp} {σ : SS} {ρ : Env} {st st' : PSt}
/-- what is not in the heap was not there at the entry -/
theorem Gd.new0 (g : Gd N F H σ ρ st) {a : Addr} (ha : H a = none) : N.H0 a = none := by
  cases q : N.H0 a with
  | none => rfl
  | some o =>
    rcases g.ent.kp a o q with z | z
    · obtain ⟨_, o', h⟩ := g.st.bad a z
      rw [ha] at h; cases h
    · rw [ha] at z; cases z
/-- behind a computation that touches no slot -/
theorem Gd.rsx (g : Gd N F H σ ρ st) (e : Ext N.R F H F' H') : ∀ a, N.rs a → F' a = none ∧ (∃ o, H' a = some o) ∧ (¬ N.R.bad a ∧ N.H0 a = none) ∧ NoOwn σ ρ a := fun a h => by
  obtain ⟨h1, ⟨o, h2⟩, h3, h4⟩ := g.rsv a h
  refine ⟨e.un a ⟨o, h2⟩ h1, ⟨o, ?_⟩, h3, h4⟩
  rcases e.kp a o h2 with z | z
  · exact absurd z h3.1
  · exact z
theorem Gd.nors (g : Gd N F H σ ρ st) {a : Addr} (ha : H a = none) : ¬ N.rs a := fun h => by
  obtain ⟨_, ⟨o, h2⟩, _⟩ := g.rsv a h
  rw [ha] at h2; cases h2
theorem Gd.ext (g : Gd N F H σ ρ st) (e : Ext N.R F H F' H') (hs : Same F' H') (hst : StOk N.R F' H' st') : Gd N F' H' σ ρ st' :=
  ⟨g.toGood.ext e hs hst, Good.trans g.toGood g.ent e, g.new, g.rsx e, g.self⟩
theorem Gd.laid (g : Gd N F H σ ρ st) {a : Addr} {o : HO} (ha : H a = none) : Go N.R F H (upd F a o) (upd H a o) ∧ Gd N (upd F a o) (upd H a o) σ ρ st := by
  obtain ⟨e, g'⟩ := ext_new (o := o) g.toGood ha
  exact ⟨e.go, g', Good.trans g.toGood g.ent e, g.new, g.rsx e, g.self⟩
theorem Gd.laidOwn (g : Gd N F H σ ρ st) {a : Addr} {o : HO} (ha : H a = none) : Go N.R F H F (upd H a o) ∧ Gd N F (upd H a o) σ ρ st := by
  obtain ⟨e, g'⟩ := ext_new_own (o := o) g.toGood ha
  exact ⟨e.go, g', Good.trans g.toGood g.ent e, g.new, g.rsx e, g.self⟩
theorem Gd.freeze (g : Gd N F H σ ρ st) {a : Addr} {o : HO} (ha : H a = some o) (hF : F a = none) (h0 : N.H0 a = none) (nb : ¬ N.R.bad a) (nr : ¬ N.rs a) (no : NoOwn σ ρ a) : Go N.R F H (upd F a o) H ∧ Gd N (upd F a o) H σ ρ st := by
  obtain ⟨e, g'⟩ := ext_freeze g.toGood ha hF nb no
  refine ⟨⟨e, fun _ _ h => .inr h⟩, g', ⟨g.ent.fz.trans e, g.ent.kp, fun b hb hf => ?_⟩, g.new, fun b hb => ?_, g.self⟩
  rotate_left
  · obtain ⟨h1, h2, h3, h4⟩ := g.rsv b hb
    exact ⟨by rw [upd_ne (by rintro rfl; exact nr hb)]; exact h1, h2, h3, h4⟩
  rw [upd_ne (by rintro rfl; obtain ⟨u, hu⟩ := hb; rw [h0] at hu; cases hu)]
  exact g.ent.un b hb hf
end

section
variable {N : RN} {X : Cx} {e a b : Expr} {m ma mb : M D} {pos : Pos}
theorem OwnAt.frozen {R : RC} {F H : Hp} {d : D} {a : Addr} (h : OwnAt R F H d a) : ∃ o, H a = some o ∧ ∀ F', Same F F' → F' a = some o → Rep R F' d (V.ref a) := by
  cases d with
  | lst ds =>
    obtain ⟨vs, h1, h2⟩ := h
    exact ⟨_, h1, fun F' e q => by simp only [Rep]; exact ⟨a, vs, rfl, q, Reps.mono e _ _ h2⟩⟩
  | dct ks ds =>
    obtain ⟨vs, h1, h2, h3⟩ := h
    exact ⟨_, h1, fun F' e q => by simp only [Rep]; exact ⟨a, vs, rfl, q, h2, Reps.mono e _ _ h3⟩⟩
  | dcT ks ds =>
    obtain ⟨vs, h1, h2, h3⟩ := h
    exact ⟨_, h1, fun F' e q => by simp only [Rep]; exact ⟨a, vs, rfl, q, h2, Reps.mono e _ _ h3⟩⟩
  | dks ks =>
    obtain ⟨vs, h1, h2⟩ := h
    exact ⟨_, h1, fun F' e q => by simp only [Rep]; exact ⟨a, vs, rfl, q, h2⟩⟩
  | ins C fs ds =>
    obtain ⟨vs, ⟨c, dx, h0, h1⟩, h2, h3⟩ := h
    exact ⟨_, h1, fun F' e q => by simp only [Rep]; exact ⟨a, dx, c, vs, rfl, h0, q, h2, Reps.mono e _ _ h3⟩⟩
  | _ => exact h.elim
/-- a place that was free is no slot's own -/
theorem Good.noown {R : RC} {F H : Hp} {σ : SS} {ρ : Env} {st : PSt} (g : Good R F H σ ρ st) {a : Addr} (ha : H a = none) : (¬ R.bad a) ∧ NoOwn σ ρ a := by
  refine ⟨fun z => ?_, fun i d h1 h2 => ?_⟩
  · obtain ⟨_, o', h⟩ := g.st.bad a z
    rw [ha] at h; cases h
  · obtain ⟨c, z1, _, _, z4⟩ := g.slot i _ _ h1 h2
    cases z1
    obtain ⟨o, q⟩ := z4.there
    rw [ha] at q; cases q
/-- a new list or dict is frozen -/
theorem e_frz (h : PE X e (tE N .own m)) : PE X e (tE N .val m) := pe_of h fun σ H Q ⟨F, ρ, st, g, d, ρ', st', em, q⟩ => by
  refine ⟨F, ρ, st, g, d, ρ', st', em, fun F' H' v x g' r => ?_⟩
  obtain ⟨a, rfl, h0, hF, nb, nr, no, ni, ho⟩ := r
  obtain ⟨o, h1, h2⟩ := ho.frozen
  obtain ⟨e2, g2⟩ := g'.freeze h1 hF h0 nb nr no
  exact q _ _ _ (x.trans e2) g2 (h2 _ e2.fz upd_same)
theorem e_owntop (h : PE X e (tE N .own m)) : PE X e (tE N .top m) := pe_of h fun σ H Q ⟨F, ρ, st, g, d, ρ', st', em, q⟩ =>
  ⟨F, ρ, st, g, d, ρ', st', em, fun F' H' v x g' r => by obtain ⟨a, rfl, h0, hF, nb, nr, no, ni, ho⟩ := r; exact q _ _ _ x g' (.inr ⟨a, rfl, nb, ho⟩)⟩
theorem e_top (h : PE X e (tE N .val m)) : PE X e (tE N .top m) := pe_of h fun σ H Q ⟨F, ρ, st, g, d, ρ', st', em, q⟩ =>
  ⟨F, ρ, st, g, d, ρ', st', em, fun F' H' v x g' r => q _ _ _ x g' (.inl r)⟩
end
end Ev
/-! Ev3 -/
/-! Ev3: the evaluator: a small language over data, its terms as the program's texts have them. -/
namespace Ev

inductive Bo where | add | sub | mul | mod | fdiv | pow | band | bor
inductive Co where | eq | ne | lt | le | gt | ge | inn | nin
inductive Bi where | len | abs | max2 | min2 | int1 | str1 | int2 | tuple | sum | all | any | max1 | min1 | join | count | index | ends
inductive Bf where | list | sorted | split
inductive Sk where | seq | rng | enm | zp | zps | rev
inductive Tg where | nm (i : Nat) | tp (is : List Nat)
inductive E where
  | var (i : Nat) | mv (i : Nat)
  | int (i : Int) | bl (b : Bool) | non | str (l : List Nat)
  | glb (d : D)
  | bin (o : Bo) (a b : E) | neg (a : E) | inv (a : E)
  | cmp (o : Co) (a b : E) | isN (a : E) | ntN (a : E)
  | chain (o o' : Co) (a b c : E)
  | and (a b : E) | or (a b : E) | not (a : E)
  | ite (c a b : E)
  | tup (es : List E) | lst (es : List E)
  | call (f : String) (es : List E)
  | lend (f : String) (es : List E)
  | meth (C m f : String) (o : E) (es : List E)
  | fld (o : E) (f : String)
  | bi (b : Bi) (es : List E)
  | bf (b : Bf) (es : List E)
  | isi (a : E) (ts : List String)
  | idx (a b : E)
  | sl (a : E) (lo hi : Option E)
  | sget (i k : Nat) | snz (i : Nat) | spop (i : Nat)
  | lzip (a b : E)
  | hin (neg : Bool) (a h : E) | hlen (h : E) | hkeys (h : E) | hne (h : E)
  | lc (own : List Nat) (tg : Tg) (k : Sk) (src : List E) (c : Option E) (el : E)
inductive S where
  | set (i : Nat) (e : E) | own (i : Nat) (e : E)
  | tset (is : List Nat) (e : E)
  | par (oi oj : Bool) (i j : Nat) (a b : E)
  | app (i : Nat) (e : E) | ext (i : Nat) (e : E)
  | appPop (i j : Nat) (e : E)
  | put (i : Nat) (k v : E)
  | sput (i k : Nat) (e : E)
  | hput (h k v : E) | hupd (a b : E)
  | fst (i : Nat) (f : String) (e : E)
  | ite (c : E) (a b : List S)
  | whl (c : E) (b : List S)
  | for (tg : Tg) (k : Sk) (src : List E) (b : List S)
  | ret (e : E) | ex (e : E) | pass | never
inductive Out where | nx | rt (d : D)

abbrev lim : Nat := 16777216
/-! ### operations on data -/
def binD : Bo → D → D → Option D
  | .add, .int i, .int j => some (.int (i + j))
  | .add, .str a, .str b => if a.length + b.length ≤ lim then some (.str (a ++ b)) else none
  | .add, .lst a, .lst b => if a.length + b.length ≤ lim then some (.lst (a ++ b)) else none
  | .sub, .int i, .int j => some (.int (i - j))
  | .mul, .int i, .int j => if (-(2 ^ 64) < i ∧ i < 2 ^ 64) ∨ (-(2 ^ 64) < j ∧ j < 2 ^ 64) then some (.int (i * j)) else none
  | .mul, .str a, .int j => if 0 ≤ j ∧ j ≤ 1000 ∧ a.length ≤ 1000 then some (.str (List.replicate j.toNat a).flatten) else none
  | .mod, .int i, .int j => if 0 < j then some (.int (i % j)) else none
  | .fdiv, .int i, .int j => if 0 < j ∧ j < 1073741824 then some (.int (i / j)) else none
  | .pow, .int i, .int j => if 0 ≤ j ∧ j ≤ 1000000 ∧ i.natAbs < 2 ^ 64 then some (.int (i ^ j.toNat)) else none
  | .band, .int i, .int j => some (.int (PySem.Builtin.bitAnd i j))
  | .bor, .int i, .int j => some (.int (PySem.Builtin.bitOr i j))
  | _, _, _ => none
def isNonD : D → Bool
  | .non => true | _ => false
def flatD : D → Bool
  | .non => true | .bl _ => true | .int _ => true | .str _ => true | _ => false
def eqF : D → D → Bool
  | .non, .non => true
  | .bl a, .bl b => a == b
  | .bl a, .int b => (if a then 1 else 0) == b
  | .int a, .bl b => a == (if b then 1 else 0)
  | .int a, .int b => a == b
  | .str a, .str b => a == b
  | _, _ => false
/-- the scalars whose == is plain -/
def scalD : D → D → Bool
  | .bl _, .int _ => false | .int _, .bl _ => false
  | a, b => flatD a && flatD b
mutual
def toPy : D → Option PySem.PyData
  | .non => some .none | .bl b => some (.bool b) | .int i => some (.int i) | .str l => some (.str (tx l))
  | .lst xs => (toPys xs).map .list | .tup xs => (toPys xs).map .tuple
  | _ => none
def toPys : List D → Option (List PySem.PyData)
  | [] => some []
  | d :: ds => match toPy d, toPys ds with | some a, some r => some (a :: r) | _, _ => none
end
def eqD (a b : D) : Option Bool :=
  if scalD a b then some (eqF a b) else
  match toPy a, toPy b with
  | some x, some y => if PySem.SeqAt.shaped x && PySem.SeqAt.shaped y then some (PySem.PyData.eqv x y) else none
  | _, _ => none
def subStr (a b : List Nat) : Bool := !(PySem.Builtin.Str.occurrences (tx b) (tx a) 0 (tx b).length 1).isEmpty
def inStrD : List Nat → List Nat → Bool
  | [c], z => decide (c ∈ z)
  | y, z => subStr y z
def inD (x : D) : D → Option Bool
  | .str z => match x with | .str y => some (inStrD y z) | _ => none
  | .lst ys => if flatD x && ys.all flatD then some (ys.any fun y => eqF y x) else none
  | .tup ys => if flatD x && ys.all flatD then some (ys.any fun y => eqF y x) else none
  | .dct ks _ => match x with | .int i => some (ks.any (fun c => decide (c = .inl i))) | .str l => some (ks.any (fun c => decide (c = .inr l))) | _ => none
  | _ => none
def cmpD : Co → D → D → Option Bool
  | .eq, a, b => eqD a b
  | .ne, a, b => (eqD a b).map (! ·)
  | .lt, .int i, .int j => some (decide (i < j))
  | .le, .int i, .int j => some (decide (i ≤ j))
  | .gt, .int i, .int j => some (decide (j < i))
  | .ge, .int i, .int j => some (decide (j ≤ i))
  | .lt, .str a, .str b => some (decide (a < b))
  | .inn, a, b => inD a b
  | .nin, a, b => (inD a b).map (! ·)
  | _, _, _ => none
def intsD : List D → Option (List Int)
  | [] => some []
  | .int i :: r => (intsD r).map (i :: ·)
  | _ => none
def blsD : List D → Option (List Bool)
  | [] => some []
  | .bl i :: r => (blsD r).map (i :: ·)
  | _ => none
def strsD : List D → Option (List (List Nat))
  | [] => some []
  | .str i :: r => (strsD r).map (i :: ·)
  | _ => none
def isBits (l : List Nat) : Bool := l.all fun c => c == 48 || c == 49
def tyName : D → Option String
  | .non => some "NoneType" | .bl _ => some "bool" | .int _ => some "int" | .str _ => some "str" | .lst _ => some "list" | .tup _ => some "tuple" | .dct _ _ => some "dict" | .dcT _ _ => some "dict"
  | .ins C _ _ => some C
  | _ => none
def isa (a t : String) : Bool := a == t || (a == "bool" && t == "int")
abbrev joinD := TL.joinL
def biD : Bi → List D → Option D
  | .len, [.lst xs] => some (.int xs.length)
  | .len, [.tup xs] => some (.int xs.length)
  | .len, [.str l] => if l.length ≤ lim then some (.int l.length) else none
  | .len, [.dct ks _] => some (.int ks.length)
  | .abs, [.int i] => some (.int (if i < 0 then -i else i))
  | .max2, [.int i, .int j] => some (.int (if j > i then j else i))
  | .min2, [.int i, .int j] => some (.int (if j < i then j else i))
  | .int1, [.int i] => some (.int i)
  | .int1, [.bl b] => some (.int (if b then 1 else 0))
  | .str1, [.int i] => if i.natAbs < 1000000000 then some (.str ((toString i).toList.map Char.toNat)) else none
  | .int2, [.str l, .int i] => if isBits l && !l.isEmpty && decide (l.length ≤ 640) && decide (i = 2) then some (.int (EvBin.worth l : Nat)) else none
  | .sum, [.lst xs] => (intsD xs).map fun is => .int is.sum
  | .all, [.lst xs] => (blsD xs).map fun bs => .bl (bs.all id)
  | .any, [.lst xs] => (blsD xs).map fun bs => .bl (bs.any id)
  | .count, [.lst xs, y] => if flatD y && xs.all flatD then some (.int (xs.countP fun z => eqF z y)) else none
  | .count, [.str l, .str m] => some (.int (PySem.Txt.count (tx l) (tx m)))
  | .join, [.str sep, .lst xs] => match strsD xs with
      | some ls => if (ls.map List.length).sum + ls.length * sep.length ≤ lim then some (.str (joinD sep ls)) else none
      | none => none
  | _, _ => none
def insI (x : Int) : List Int → List Int
  | [] => [x]
  | y :: ys => if x ≤ y then x :: y :: ys else y :: insI x ys
def sortI : List Int → List Int
  | [] => []
  | x :: xs => insI x (sortI xs)
def bfD : Bf → List D → Option D
  | .sorted, [.lst xs] => (intsD xs).map fun is => .lst ((sortI is).map .int)
  | .list, [.lst xs] => some (.lst xs)
  | .list, [.tup xs] => some (.lst xs)
  | _, _ => none
abbrev ixN := L2.ixN
def idxD : D → D → Option D
  | .lst xs, .int i => (ixN xs.length i).bind fun j => xs[j]?
  | .tup xs, .int i => (ixN xs.length i).bind fun j => xs[j]?
  | .str l, .int i => if l.length ≤ lim then (ixN l.length i).bind fun j => (l[j]?).map fun c => .str [c] else none
  | .dct ks xs, .int i => (ks.findIdx? (fun c => decide (c = .inl i))).bind fun j => xs[j]?
  | .dct ks xs, .str l => (ks.findIdx? (fun c => decide (c = .inr l))).bind fun j => xs[j]?
  | _, _ => none
abbrev sIx := HT.sIx
def cutL {α : Type} (xs : List α) (lo hi : Option Int) : List α := (xs.drop (sIx xs.length 0 lo)).take (sIx xs.length xs.length hi - sIx xs.length 0 lo)
def slD : D → Option Int → Option Int → Option D
  | .str l, lo, hi => if l.length ≤ lim then some (.str (cutL l lo hi)) else none
  | .lst xs, lo, hi => some (.lst (cutL xs lo hi))
  | _, _, _ => none
def srcD : Sk → List D → Option (List D)
  | .seq, [.lst xs] => some xs
  | .seq, [.tup xs] => some xs
  | .seq, [.str l] => some (l.map fun c => .str [c])
  | .rng, [.int n] => if -(2 ^ 62) ≤ n ∧ n < 2 ^ 62 then some ((List.range n.toNat).map fun (i : Nat) => D.int i) else none
  | .rng, [.int a, .int b] => if -(2 ^ 62) ≤ a ∧ a < 2 ^ 62 ∧ -(2 ^ 62) ≤ b ∧ b < 2 ^ 62 then some ((List.range (b - a).toNat).map fun (i : Nat) => D.int (a + i)) else none
  | .enm, [.lst xs] => some (xs.zipIdx.map fun p => .tup [.int p.2, p.1])
  | .zp, [.lst xs, .lst ys] => some ((xs.zip ys).map fun p => .tup [p.1, p.2])
  | .zp, [.tup xs, .tup ys] => some ((xs.zip ys).map fun p => .tup [p.1, p.2])
  | _, _ => none
def setAll : List Nat → List D → Env → Option Env
  | [], [], ρ => some ρ
  | i :: is, d :: ds, ρ => setAll is ds (ρ.set i (some (false, d)))
  | _, _, _ => none
def bindD : Tg → D → Env → Option Env
  | .nm i, d, ρ => some (ρ.set i (some (false, d)))
  | .tp is, .tup ds, ρ => if ds.length = is.length then setAll is ds ρ else none
  | _, _, _ => none
/-- the drawing state: read, written -/
def isStt (ρ : Env) (i : Nat) : Bool := match ρ[i]? with | some (some (false, .stt)) => true | _ => false
def stGet (st : PSt) : Nat → Option Int
  | 1 => some st.a | 2 => some st.b | 3 => some st.c | _ => none
def stPut (st : PSt) (v : Int) : Nat → Option PSt
  | 1 => some { st with a := v } | 2 => some { st with b := v } | 3 => some { st with c := v } | _ => none
/-- what a handle holds -/
def hget (st : PSt) : D → Option (Nat × List Ky)
  | .hnd i => match st.hd[i]? with | some (.dct ks _) => some (i, ks) | some (.dks ks) => some (i, ks) | _ => none
  | _ => none
/-- a content with k put to v, with another's items put -/
def addK (ks : List Ky) (k : Ky) : List Ky := if ks.any (fun c => decide (c = k)) then ks else ks ++ [k]
def keyD : D → Option Ky
  | .int i => some (.inl i) | .str l => some (.inr l) | _ => none
def kyD : Ky → D
  | .inl i => .int i | .inr l => .str l
def hset (st : PSt) (i : Nat) (d : D) : PSt := { st with hd := st.hd.set i d }
def mergeD : List (Ky × D) → List (Ky × D) → List (Ky × D)
  | acc, [] => acc
  | acc, (k, v) :: r => mergeD (if acc.any (fun c => decide (c.1 = k)) then acc.map (fun c => if c.1 = k then (c.1, v) else c) else acc ++ [(k, v)]) r
def hputD (c : D) (k : Ky) (v : D) : Option D := match c with
  | .dct ks xs => if ks.length < lim then (if ks.any (fun c => decide (c = k)) then some (.dct ks (List.zipWith (fun c x => if c = k then v else x) ks xs)) else some (.dct (ks ++ [k]) (xs ++ [v]))) else none
  | .dks ks => if ks.length < lim then some (.dks (addK ks k)) else none
  | _ => none
def hupdD (c e : D) : Option D := match c, e with
  | .dct ks xs, .dct ks2 xs2 => if ks.length + ks2.length ≤ lim then
      let r := mergeD (ks.zip xs) (ks2.zip xs2)
      some (.dct (r.map (·.1)) (r.map (·.2))) else none
  | .dks ks, .dks ks2 => if ks.length + ks2.length ≤ lim then some (.dks (ks2.foldl addK ks)) else none
  | _, _ => none
/-- slots of a comprehension's own names forgotten; put back -/
def wipeE (ρ : Env) : List Nat → Env
  | [] => ρ
  | i :: is => (wipeE ρ is).set i none
def backE (ρ ρ' : Env) : List Nat → Env
  | [] => ρ'
  | i :: is => (backE ρ ρ' is).set i ((ρ[i]?).getD none)
def lcLoop (f : D → Env → PSt → Option (Option D × Env × PSt)) : List D → Env → PSt → Option (List D × Env × PSt)
  | [], ρ, st => some ([], ρ, st)
  | d :: ds, ρ, st => match f d ρ st with
    | none => none
    | some (r, ρ1, st1) => match lcLoop f ds ρ1 st1 with
      | none => none
      | some (rs, ρ2, st2) => some ((match r with | some y => y :: rs | none => rs), ρ2, st2)
abbrev Cl := String → List D → PSt → Option (D × PSt)
section
variable (cl : Cl)
mutual
def evE : E → Env → PSt → Option (D × Env × PSt)
  | .var i, ρ, st => match ρ[i]? with | some (some (_, d)) => some (d, ρ, st) | _ => none
  | .mv i, ρ, st => match ρ[i]? with | some (some (_, d)) => some (d, ρ.set i (some (false, d)), st) | _ => none
  | .int i, ρ, st => some (.int i, ρ, st)
  | .bl b, ρ, st => some (.bl b, ρ, st)
  | .non, ρ, st => some (.non, ρ, st)
  | .str l, ρ, st => some (.str l, ρ, st)
  | .glb d, ρ, st => some (d, ρ, st)
  | .bin o a b, ρ, st => match evE a ρ st with
    | none => none
    | some (x, ρ1, st1) => match evE b ρ1 st1 with
      | none => none
      | some (y, ρ2, st2) => match binD o x y with | none => none | some z => some (z, ρ2, st2)
  | .neg a, ρ, st => match evE a ρ st with | some (.int i, ρ1, st1) => some (.int (-i), ρ1, st1) | _ => none
  | .inv a, ρ, st => match evE a ρ st with | some (.int i, ρ1, st1) => some (.int (PySem.Builtin.bitNot i), ρ1, st1) | _ => none
  | .cmp o a b, ρ, st => match evE a ρ st with
    | none => none
    | some (x, ρ1, st1) => match evE b ρ1 st1 with
      | none => none
      | some (y, ρ2, st2) => match cmpD o x y with | none => none | some z => some (.bl z, ρ2, st2)
  | .isN a, ρ, st => match evE a ρ st with | some (x, ρ1, st1) => some (.bl (isNonD x), ρ1, st1) | none => none
  | .ntN a, ρ, st => match evE a ρ st with | some (x, ρ1, st1) => some (.bl (!isNonD x), ρ1, st1) | none => none
  | .chain o o' a b c, ρ, st => match evE a ρ st with
    | none => none
    | some (x, ρ1, st1) => match evE b ρ1 st1 with
      | none => none
      | some (y, ρ2, st2) => match cmpD o x y with
        | none => none
        | some false => some (.bl false, ρ2, st2)
        | some true => match evE c ρ2 st2 with
          | none => none
          | some (z, ρ3, st3) => match cmpD o' y z with | none => none | some k => some (.bl k, ρ3, st3)
  | .and a b, ρ, st => match evE a ρ st with
    | some (.bl true, ρ1, st1) => evE b ρ1 st1
    | some (.bl false, ρ1, st1) => some (.bl false, ρ1, st1)
    | _ => none
  | .or a b, ρ, st => match evE a ρ st with
    | some (.bl false, ρ1, st1) => evE b ρ1 st1
    | some (.bl true, ρ1, st1) => some (.bl true, ρ1, st1)
    | _ => none
  | .not a, ρ, st => match evE a ρ st with | some (.bl b, ρ1, st1) => some (.bl (!b), ρ1, st1) | _ => none
  | .ite c a b, ρ, st => match evE c ρ st with
    | some (.bl true, ρ1, st1) => evE a ρ1 st1
    | some (.bl false, ρ1, st1) => evE b ρ1 st1
    | _ => none
  | .tup es, ρ, st => match evEs es ρ st with | some (ds, ρ1, st1) => some (.tup ds, ρ1, st1) | none => none
  | .lst es, ρ, st => match evEs es ρ st with | some (ds, ρ1, st1) => some (.lst ds, ρ1, st1) | none => none
  | .call f es, ρ, st => match evEs es ρ st with
    | none => none
    | some (ds, ρ1, st1) => match cl f ds st1 with | none => none | some (d, st2) => some (d, ρ1, st2)
  | .lend f es, ρ, st => match evEs es ρ st with
    | none => none
    | some (ds, ρ1, st1) => match cl f ds st1 with | none => none | some (d, st2) => if flatD d && st2.hd.isEmpty then some (d, ρ1, st2) else none
  | .meth C m f o es, ρ, st => match evE o ρ st with
    | some (.ins C' fs xs, ρ1, st1) => if C' = C ∧ m ∉ fs then match evEs es ρ1 st1 with
      | none => none
      | some (ds, ρ2, st2) => match cl f (.ins C' fs xs :: ds) st2 with | none => none | some (d, st3) => some (d, ρ2, st3)
      else none
    | _ => none
  | .fld o f, ρ, st => match evE o ρ st with
    | some (.ins C fs xs, ρ1, st1) => match (fs.idxOf? f).bind fun j => xs[j]? with | none => none | some d => some (d, ρ1, st1)
    | _ => none
  | .bi b es, ρ, st => match evEs es ρ st with
    | none => none
    | some (ds, ρ1, st1) => match biD b ds with | none => none | some d => some (d, ρ1, st1)
  | .bf b es, ρ, st => match evEs es ρ st with
    | none => none
    | some (ds, ρ1, st1) => match bfD b ds with | none => none | some d => some (d, ρ1, st1)
  | .isi a ts, ρ, st => match evE a ρ st with
    | none => none
    | some (d, ρ1, st1) => match tyName d with | none => none | some n => some (.bl (ts.any (isa n)), ρ1, st1)
  | .idx a b, ρ, st => match evE a ρ st with
    | none => none
    | some (x, ρ1, st1) => match evE b ρ1 st1 with
      | none => none
      | some (y, ρ2, st2) => match idxD x y with | none => none | some z => some (z, ρ2, st2)
  | .sl a lo hi, ρ, st => match evE a ρ st with
    | none => none
    | some (x, ρ1, st1) => match evO lo ρ1 st1 with
      | none => none
      | some (l, ρ2, st2) => match evO hi ρ2 st2 with
        | none => none
        | some (h, ρ3, st3) => match slD x l h with | none => none | some z => some (z, ρ3, st3)
  | .sget i k, ρ, st => if isStt ρ i then match stGet st k with | some v => some (.int v, ρ, st) | none => none else none
  | .snz i, ρ, st => if isStt ρ i then some (.bl (!st.cells.isEmpty), ρ, st) else none
  | .spop i, ρ, st => if isStt ρ i then match st.cells with | v :: r => some (.int v, ρ, { st with cells := r }) | [] => none else none
  | .hin neg a h, ρ, st => match evE a ρ st with
    | none => none
    | some (x, ρ1, st1) => match evE h ρ1 st1 with
      | none => none
      | some (y, ρ2, st2) => match hget st2 y, keyD x with
        | some (_, ks), some k => some (.bl (if neg then !(ks.any fun c => decide (c = k)) else ks.any fun c => decide (c = k)), ρ2, st2)
        | _, _ => none
  | .lzip a b, ρ, st => match evE a ρ st with
    | none => none
    | some (x, ρ1, st1) => match evE b ρ1 st1 with
      | none => none
      | some (y, ρ2, st2) => match x, y with
        | .lst xs, .lst ys => if xs.length ≤ 1000 then some (.lst ((xs.zip ys).map fun p => .tup [p.1, p.2]), ρ2, st2) else none
        | _, _ => none
  | .hlen h, ρ, st => match evE h ρ st with
    | none => none
    | some (y, ρ1, st1) => match hget st1 y with | some (_, ks) => some (.int ks.length, ρ1, st1) | none => none
  | .hkeys h, ρ, st => match evE h ρ st with
    | none => none
    | some (y, ρ1, st1) => match hget st1 y with | some (_, ks) => some (.lst (ks.map kyD), ρ1, st1) | none => none
  | .hne h, ρ, st => match evE h ρ st with
    | none => none
    | some (y, ρ1, st1) => match hget st1 y with | some (_, ks) => some (.bl (!ks.isEmpty), ρ1, st1) | none => none
  | .lc own tg k src c el, ρ, st => match evEs src ρ st with
    | none => none
    | some (ds, ρ1, st1) => match srcD k ds with
      | none => none
      | some xs => match lcLoop (fun x ρ st => match bindD tg x ρ with
          | none => none
          | some ρ1 => match evO' c ρ1 st with
            | some (.bl true, ρ2, st2) => match evE el ρ2 st2 with
              | none => none
              | some (y, ρ3, st3) => some (some y, wipeE ρ3 own, st3)
            | some (.bl false, ρ2, st2) => some (none, wipeE ρ2 own, st2)
            | _ => none) xs (wipeE ρ1 own) st1 with
        | none => none
        | some (ys, ρ2, st2) => if ys.length ≤ lim then some (.lst ys, backE ρ1 ρ2 own, st2) else none
def evEs : List E → Env → PSt → Option (List D × Env × PSt)
  | [], ρ, st => some ([], ρ, st)
  | e :: es, ρ, st => match evE e ρ st with
    | none => none
    | some (d, ρ1, st1) => match evEs es ρ1 st1 with | none => none | some (ds, ρ2, st2) => some (d :: ds, ρ2, st2)
def evO : Option E → Env → PSt → Option (Option Int × Env × PSt)
  | none, ρ, st => some (none, ρ, st)
  | some e, ρ, st => match evE e ρ st with | some (.int i, ρ1, st1) => some (some i, ρ1, st1) | _ => none
/-- a test that may lack -/
def evO' : Option E → Env → PSt → Option (D × Env × PSt)
  | none, ρ, st => some (.bl true, ρ, st)
  | some e, ρ, st => evE e ρ st
end
def forL (f : D → Env → PSt → Option (Out × Env × PSt)) : List D → Env → PSt → Option (Out × Env × PSt)
  | [], ρ, st => some (.nx, ρ, st)
  | d :: ds, ρ, st => match f d ρ st with
    | none => none
    | some (.nx, ρ1, st1) => forL f ds ρ1 st1
    | some (.rt v, ρ1, st1) => some (.rt v, ρ1, st1)
def whlL (c : Env → PSt → Option (D × Env × PSt)) (f : Env → PSt → Option (Out × Env × PSt)) : Nat → Env → PSt → Option (Out × Env × PSt)
  | 0, _, _ => none
  | n + 1, ρ, st => match c ρ st with
    | some (.bl true, ρ1, st1) => match f ρ1 st1 with
      | none => none
      | some (.nx, ρ2, st2) => whlL c f n ρ2 st2
      | some (.rt v, ρ2, st2) => some (.rt v, ρ2, st2)
    | some (.bl false, ρ1, st1) => some (.nx, ρ1, st1)
    | _ => none
def putK' (ks : List Ky) (xs : List D) (k : Ky) (v : D) : Option D := if ks.length < lim then (if ks.any (fun c => decide (c = k)) then some (.dct ks (List.zipWith (fun c x => if c = k then v else x) ks xs)) else some (.dct (ks ++ [k]) (xs ++ [v]))) else none
def putD : D → D → D → Option D
  | .lst xs, .int i, v => (ixN xs.length i).map fun j => .lst (xs.set j v)
  | .dct ks xs, .int i, v => putK' ks xs (.inl i) v
  | .dct ks xs, .str l, v => putK' ks xs (.inr l) v
  | _, _, _ => none
/-- a slot's own list -/
def ownL (ρ : Env) (i : Nat) : Option (List D) := match ρ[i]? with | some (some (true, .lst xs)) => some xs | _ => none
def ownD (ρ : Env) (i : Nat) : Option D := match ρ[i]? with | some (some (true, d)) => some d | _ => none
variable (wf : Nat)
mutual
def exS : S → Env → PSt → Option (Out × Env × PSt)
  | .set i e, ρ, st => match evE cl e ρ st with | none => none | some (d, ρ1, st1) => some (.nx, ρ1.set i (some (false, d)), st1)
  | .own i e, ρ, st => match evE cl e ρ st with | none => none | some (d, ρ1, st1) => some (.nx, ρ1.set i (some (true, d)), st1)
  | .tset is e, ρ, st => match evE cl e ρ st with
    | some (.tup ds, ρ1, st1) => if ds.length = is.length then match setAll is ds ρ1 with | none => none | some ρ2 => some (.nx, ρ2, st1) else none
    | some (.lst ds, ρ1, st1) => if ds.length = is.length then match setAll is ds ρ1 with | none => none | some ρ2 => some (.nx, ρ2, st1) else none
    | _ => none
  | .par oi oj i j a b, ρ, st => match evE cl a ρ st with
    | none => none
    | some (x, ρ1, st1) => match evE cl b ρ1 st1 with
      | none => none
      | some (y, ρ2, st2) => some (.nx, (ρ2.set i (some (oi, x))).set j (some (oj, y)), st2)
  | .app i e, ρ, st => match ownL ρ i with
    | none => none
    | some _ => match evE cl e ρ st with
      | none => none
      | some (d, ρ1, st1) => match ownL ρ1 i with
        | none => none
        | some xs => if xs.length < lim then some (.nx, ρ1.set i (some (true, .lst (xs ++ [d]))), st1) else none
  | .ext i e, ρ, st => match ownL ρ i with
    | none => none
    | some _ => match evE cl e ρ st with
      | some (.lst ys, ρ1, st1) => match ownL ρ1 i with
        | none => none
        | some xs => if xs.length + ys.length ≤ lim then some (.nx, ρ1.set i (some (true, .lst (xs ++ ys))), st1) else none
      | _ => none
  | .appPop i j e, ρ, st => match ownL ρ i, ownL ρ j with
    | some _, some _ => match evE cl e ρ st with
      | some (.int k, ρ1, st1) => match ownL ρ1 i, ownL ρ1 j with
        | some xs, some ys => if i ≠ j ∧ xs.length < lim ∧ 0 ≤ k ∧ k < 2 ^ 62 then match ys[k.toNat]? with
          | some y => some (.nx, (ρ1.set j (some (true, .lst (ys.eraseIdx k.toNat)))).set i (some (true, .lst (xs ++ [y]))), st1)
          | none => none
          else none
        | _, _ => none
      | _ => none
    | _, _ => none
  | .put i k v, ρ, st => match ownD ρ i with
    | none => none
    | some _ => match evE cl v ρ st with
      | none => none
      | some (y, ρ1, st1) => match evE cl k ρ1 st1 with
        | none => none
        | some (x, ρ2, st2) => match ownD ρ2 i with
          | none => none
          | some d => match putD d x y with | none => none | some d' => some (.nx, ρ2.set i (some (true, d')), st2)
  | .sput i k e, ρ, st => match evE cl e ρ st with
    | some (.int v, ρ1, st1) => if isStt ρ1 i then match stPut st1 v k with | some st2 => some (.nx, ρ1, st2) | none => none else none
    | _ => none
  | .hput h k v, ρ, st => match evE cl v ρ st with
    | none => none
    | some (y, ρ1, st1) => match evE cl h ρ1 st1 with
      | none => none
      | some (d, ρ2, st2) => match evE cl k ρ2 st2 with
        | none => none
        | some (x, ρ3, st3) => match d, keyD x with
          | .hnd i, some c => match (st3.hd[i]?).bind fun q => hputD q c y with | some d' => some (.nx, ρ3, hset st3 i d') | none => none
          | _, _ => none
  | .hupd a b, ρ, st => match evE cl a ρ st with
    | none => none
    | some (x, ρ1, st1) => if (hget st1 x).isNone then none else match evE cl b ρ1 st1 with
      | none => none
      | some (y, ρ2, st2) => match x, y with
        | .hnd i, .hnd j => if i ≠ j then match (st2.hd[i]?).bind fun q => (st2.hd[j]?).bind fun r => hupdD q r with | some d' => some (.nx, ρ2, hset st2 i d') | none => none else none
        | _, _ => none
  | .fst i f e, ρ, st => match ownD ρ i with
    | none => none
    | some _ => match evE cl e ρ st with
      | none => none
      | some (d, ρ1, st1) => match ownD ρ1 i with
        | some (.ins C fs xs) => if f ∉ fs ∧ fs.length < 100 then some (.nx, ρ1.set i (some (true, .ins C (fs ++ [f]) (xs ++ [d]))), st1) else none
        | _ => none
  | .ite c a b, ρ, st => match evE cl c ρ st with
    | some (.bl true, ρ1, st1) => exL a ρ1 st1
    | some (.bl false, ρ1, st1) => exL b ρ1 st1
    | _ => none
  | .whl c b, ρ, st => whlL (fun ρ st => evE cl c ρ st) (fun ρ st => exL b ρ st) wf ρ st
  | .for tg k src b, ρ, st => match evEs cl src ρ st with
    | none => none
    | some (ds, ρ1, st1) => match srcD k ds with
      | none => none
      | some xs => forL (fun x ρ st => match bindD tg x ρ with | none => none | some ρ1 => exL b ρ1 st) xs ρ1 st1
  | .ret e, ρ, st => match evE cl e ρ st with | none => none | some (d, ρ1, st1) => some (.rt d, ρ1, st1)
  | .ex e, ρ, st => match evE cl e ρ st with | none => none | some (_, ρ1, st1) => some (.nx, ρ1, st1)
  | .pass, ρ, st => some (.nx, ρ, st)
  | .never, _, _ => none
def exL : List S → Env → PSt → Option (Out × Env × PSt)
  | [], ρ, st => some (.nx, ρ, st)
  | s :: r, ρ, st => match exS s ρ st with
    | none => none
    | some (.nx, ρ1, st1) => exL r ρ1 st1
    | some (.rt d, ρ1, st1) => some (.rt d, ρ1, st1)
end
end
/-- a def of the text: the number of its parameters and slots, its body; cls: the class whose __init__ it is -/
structure Fn where
  ps : Nat
  ns : Nat
  body : List S
  cls : Option String := none
def start (f : Fn) (ds : List D) : Env := ds.map (fun d => some (false, d)) ++ List.replicate (f.ns - f.ps) none
def runFn (wf : Nat) (cl : Cl) (f : Fn) (ds : List D) (st : PSt) : Option (D × PSt) :=
  if ds.length = f.ps then match exL cl wf f.body (start f ds) st with
    | some (.rt d, _, st') => some (d, st')
    | some (.nx, _, st') => some (.non, st')
    | none => none
  else none
/-- an own class's making -/
def runIni (wf : Nat) (cl : Cl) (f : Fn) (C : String) (ds : List D) (st : PSt) : Option (D × PSt) :=
  if ds.length + 1 = f.ps then match exL cl wf f.body (some (true, .ins C [] []) :: start f ds) st with
    | some (.nx, ρ, st') => match ownD ρ 0 with
      | some (.ins C' fs xs) => if C' = C then some (.ins C fs xs, st') else none
      | _ => none
    | _ => none
  else none
/-- calls to a depth: P the given ones, G those of the text -/
def call (wf : Nat) (P : String → Option (List D → PSt → Option (D × PSt))) (G : String → Option Fn) : Nat → Cl
  | 0, _, _, _ => none
  | n + 1, f, ds, st => match P f with
    | some p => p ds st
    | none => match G f with
      | some fn => match fn.cls with
        | none => runFn wf (call wf P G n) fn ds st
        | some C => runIni wf (call wf P G n) fn C ds st
      | none => none
end Ev
/-! Ev4 -/
/-! Ev4: expressions are sound: names, constants, operators, comparisons, truth. -/
namespace Ev
open PySem PySem.Spec PyProof.Rows L2

structure XOk (R : RC) (X : Cx) : Prop where
  K : X.K = R.K
  mg : X.mg = R.mg
  nd : X.N.Nodup
  calm : X.calm = true
  units : X.A.units + 64 < cLine

theorem tx_len (l : List Nat) : (tx l).length = l.length := by simp [tx, Str.length]
theorem tx_list (l : List Nat) : (tx l).cps.toList = l := by simp [tx]
theorem tx_of (x : Str) : tx x.cps.toList = x := by cases x; simp [tx]
theorem tx_inj {a b : List Nat} (h : tx a = tx b) : a = b := by have := congrArg (fun x : Str => x.cps.toList) h; simpa [tx] using this
theorem tx_eq (a b : List Nat) : (tx a = tx b) = (a = b) := propext ⟨tx_inj, fun h => by rw [h]⟩
theorem tx_app (a b : List Nat) : tx a ++ tx b = tx (a ++ b) := by
  have h : ∀ x y : Str, (x ++ y).cps = x.cps ++ y.cps := fun x y => rfl
  have : (tx a ++ tx b).cps.toList = a ++ b := by rw [h]; simp [tx]
  rw [← tx_of (tx a ++ tx b), this]
theorem line_lim : sizeLine = lim := sizeLine_eq

section
variable {R : RC} {X : Cx} {cl : Cl}

/-! ### names, constants -/
section
variable {F H : Hp} {σ : SS} {ρ : Env} {st : PSt}
theorem Good.at (g : Good R F H σ ρ st) {i : Nat} {s : Slot} (h : ρ[i]? = some s) : ∃ x, σ[i]? = some x ∧ SlotOk R F H s x := by
  have hi : i < σ.length := by rw [← g.len]; exact (List.getElem?_eq_some_iff.mp h).1
  exact ⟨_, List.getElem?_eq_getElem hi, g.slot i _ _ h (List.getElem?_eq_getElem hi)⟩
/-- a slot is read -/
theorem Good.rd (g : Good R F H σ ρ st) {i : Nat} {b : Bool} {d : D} (h : ρ[i]? = some (some (b, d))) : ∃ v, σ[i]? = some (some v) ∧ RepT R F H d v := by
  obtain ⟨x, hx, k⟩ := g.at h
  cases b with
  | false => obtain ⟨v, rfl, r⟩ := k; exact ⟨v, hx, .inl r⟩
  | true => obtain ⟨a, rfl, hF, nb, o⟩ := k; exact ⟨_, hx, .inr ⟨a, rfl, nb, o⟩⟩
/-- a slot's own object is frozen -/
theorem Gd.mv {N : RN} (g : Gd N F H σ ρ st) {i : Nat} {b : Bool} {d : D} (h : ρ[i]? = some (some (b, d))) : ∃ v F', σ[i]? = some (some v) ∧ Go N.R F H F' H ∧ Gd N F' H σ (ρ.set i (some (false, d))) st ∧ Rep N.R F' d v := by
  obtain ⟨x, hx, k⟩ := g.at h
  have hi : i < ρ.length := (List.getElem?_eq_some_iff.mp h).1
  have get : ∀ (s : Slot) (j : Nat), (ρ.set i s)[j]? = if i = j then some s else ρ[j]? := fun s j => by
    by_cases q : i = j
    · subst q; rw [List.getElem?_set_self hi, if_pos rfl]
    · rw [List.getElem?_set_ne q, if_neg q]
  cases b with
  | false =>
    obtain ⟨v, rfl, r⟩ := k
    have e : ρ.set i (some (false, d)) = ρ := by
      apply List.ext_getElem?
      intro j
      rw [get]
      by_cases q : i = j
      · subst q; rw [if_pos rfl, h]
      · rw [if_neg q]
    rw [e]
    exact ⟨v, F, hx, Go.refl _ _ _, g, r⟩
  | true =>
    obtain ⟨a, rfl, hF, nb, ho⟩ := k
    obtain ⟨o, h1, h2⟩ := ho.frozen
    have h0 : N.H0 a = none := g.new i d a h hx
    have low : ∀ {j : Nat} {e : D}, (ρ.set i none)[j]? = some (some (true, e)) → i ≠ j ∧ ρ[j]? = some (some (true, e)) := fun {j e} z => by
      rw [get] at z
      by_cases q : i = j
      · rw [if_pos q] at z; cases z
      · rw [if_neg q] at z; exact ⟨q, z⟩
    have g0 : Gd N F H σ (ρ.set i none) st := by
      refine ⟨⟨g.sub, g.st, by simp [g.len], fun j s x e1 e2 => ?_, fun j k d e c n e1 e2 => g.apart j k d e c n (low e1).2 (low e2).2⟩, g.ent, fun j e c e1 e2 => g.new j e c (low e1).2 e2, fun c hc => by
        obtain ⟨h1, h2, h3, h4⟩ := g.rsv c hc
        exact ⟨h1, h2, h3, fun j e z1 z2 => h4 j e (low z1).2 z2⟩, fun j e c e1 e2 => g.self j e c (low e1).2 e2⟩
      rw [get] at e1
      by_cases q : i = j
      · rw [if_pos q] at e1; cases e1; trivial
      · rw [if_neg q] at e1; exact g.slot j s x e1 e2
    have nr : ¬ N.rs a := fun z => (g.rsv a z).2.2.2 i d h hx
    obtain ⟨e2, g2⟩ := g0.freeze h1 hF h0 nb nr (fun j e z1 z2 => g.apart i j d e a (low z1).1 h (low z1).2 hx z2)
    have r := h2 _ e2.fz upd_same
    have up : ∀ {j : Nat} {e : D}, (ρ.set i (some (false, d)))[j]? = some (some (true, e)) → (ρ.set i none)[j]? = some (some (true, e)) := fun {j e} z => by
      rw [get] at z ⊢
      by_cases q : i = j
      · rw [if_pos q] at z; cases z
      · rw [if_neg q] at z ⊢; exact z
    refine ⟨_, upd F a o, hx, e2, ⟨⟨g2.sub, g2.st, by simp [g.len], fun j s x e1 e3 => ?_, fun j k d' e c n e1 e3 => g2.apart j k d' e c n (up e1) (up e3)⟩, g2.ent, fun j e c e1 e3 => g2.new j e c (up e1) e3, fun c hc => by
      obtain ⟨h1, h2, h3, h4⟩ := g2.rsv c hc
      exact ⟨h1, h2, h3, fun j e z1 z2 => h4 j e (up z1) z2⟩, fun j e c e1 e3 => g2.self j e c (up e1) e3⟩, r⟩
    rw [get] at e1
    by_cases q : i = j
    · subst q
      rw [if_pos rfl] at e1; cases e1
      rw [hx] at e3; cases e3
      exact ⟨_, rfl, r⟩
    · rw [if_neg q] at e1
      exact g2.slot j s x (by rw [get, if_neg q]; exact e1) e3
end
end
end Ev
/-! Ev5 -/
/-! Ev5: expressions are sound: operators, comparisons, truth, calls of built-ins. -/
namespace Ev
open PySem PySem.Spec PyProof.Rows L2

section
variable {N : RN} {X : Cx} {cl : Cl} {x : Str} {pos : Pos} {a b c : Expr} {ea eb ec : E}

theorem e_var {i : Nat} (hN : X.N[i]? = some x) (hv : Vis X.env.scope x) (hd : (x == ("__debug__" : Str)) = false) (hcd : (x == ("__classdict__" : Str)) = false) : PE X (.Name x pos) (tE N .top (evE cl (.var i))) :=
  pe_of (pe_var hN hv hd hcd) fun σ H Q ⟨F, ρ, st, g, d, ρ', st', em, q⟩ => by
    unfold evE at em
    split at em
    · rename_i b d' h
      cases em
      obtain ⟨v, h1, h2⟩ := g.toGood.rd h
      exact ⟨v, h1, q _ _ _ (Go.refl _ _ _) g h2⟩
    · cases em
theorem e_mv {i : Nat} (hN : X.N[i]? = some x) (hv : Vis X.env.scope x) (hd : (x == ("__debug__" : Str)) = false) (hcd : (x == ("__classdict__" : Str)) = false) : PE X (.Name x pos) (tE N .val (evE cl (.mv i))) :=
  pe_of (pe_var hN hv hd hcd) fun σ H Q ⟨F, ρ, st, g, d, ρ', st', em, q⟩ => by
    unfold evE at em
    split at em
    · rename_i b d' h
      cases em
      obtain ⟨v, F', h1, h2, h3, h4⟩ := g.mv h
      exact ⟨v, h1, q _ _ _ h2 h3 h4⟩
    · cases em
theorem e_int {i : Int} {j} : PE X (.Constant (.int i) j pos) (tE N .val (evE cl (.int i))) := pe_of pe_int fun σ H Q ⟨F, ρ, st, g, d, ρ', st', em, q⟩ => by
  unfold evE at em; cases em; exact q _ _ _ (Go.refl _ _ _) g (show Rep N.R F (.int i) (.int i) by simp [Rep])
theorem e_bl {b : Bool} {j} : PE X (.Constant (.bool b) j pos) (tE N .val (evE cl (.bl b))) := pe_of pe_bl fun σ H Q ⟨F, ρ, st, g, d, ρ', st', em, q⟩ => by
  unfold evE at em; cases em; exact q _ _ _ (Go.refl _ _ _) g (show Rep N.R F (.bl b) (.bl b) by simp [Rep])
theorem e_non {j} : PE X (.Constant .none j pos) (tE N .val (evE cl .non)) := pe_of pe_non fun σ H Q ⟨F, ρ, st, g, d, ρ', st', em, q⟩ => by
  unfold evE at em; cases em; exact q _ _ _ (Go.refl _ _ _) g (show Rep N.R F .non .non by simp [Rep])
theorem e_str {s : Str} {l : List Nat} {j} (h : s.cps.toList = l) : PE X (.Constant (.str s) j pos) (tE N .val (evE cl (.str l))) := pe_of pe_str fun σ H Q ⟨F, ρ, st, g, d, ρ', st', em, q⟩ => by
  unfold evE at em; cases em; exact q _ _ _ (Go.refl _ _ _) g (show Rep N.R F (.str l) (.str s) by simp only [Rep]; rw [← h, tx_of])
/-- a name of the module that holds a constant -/
theorem e_glb {d : D} {v : V} {u : Value} (hg : Gl X x) (hm : X.mg x = some u) (r : RelV v u) (hr : ∀ F, Rep N.R F d v) (hd : (x == ("__debug__" : Str)) = false) : PE X (.Name x pos) (tE N .val (evE cl (.glb d))) := pe_of (pe_glob hg hm r hd) fun σ H Q ⟨F, ρ, st, g, d, ρ', st', em, q⟩ => by
  unfold evE at em; cases em; exact q _ _ _ (Go.refl _ _ _) g (hr F)

/-! ### two operands -/
/-- an operation by values is an operation on data -/
def OpOk (N : RN) (X : Cx) (f : Value → Value → Sem Value) (op : D → D → Option D) : Prop := ∃ r : R2, OpR X f r ∧
  ∀ F H σ ρ st p q z v u Q, Gd N F H σ ρ st → RepT N.R F H p v → RepT N.R F H q u → op p q = some z → (∀ F' H' w, Go N.R F H F' H' → Gd N F' H' σ ρ st → Rep N.R F' z w → Q w H') → r v u H Q
/-- the same where the answer needs nothing new -/
def r2of (N : RN) (op : D → D → Option D) : R2 := fun v u H Q => ∃ F σ ρ st p q z, Gd N F H σ ρ st ∧ RepT N.R F H p v ∧ RepT N.R F H q u ∧ op p q = some z ∧ (∀ F' H' w, Go N.R F H F' H' → Gd N F' H' σ ρ st → Rep N.R F' z w → Q w H')
theorem opOk_of {f : Value → Value → Sem Value} {op : D → D → Option D} (h : OpR X f (r2of N op)) : OpOk N X f op :=
  ⟨_, h, fun F H σ ρ st p q z v u Q g r1 r2 e k => ⟨F, σ, ρ, st, p, q, z, g, r1, r2, e, k⟩⟩
theorem OpOk.or {f : Value → Value → Sem Value} {op op1 op2 : D → D → Option D} (h1 : OpOk N X f op1) (h2 : OpOk N X f op2) (e : ∀ p q z, op p q = some z → op1 p q = some z ∨ op2 p q = some z) : OpOk N X f op := by
  obtain ⟨r1, o1, k1⟩ := h1
  obtain ⟨r2, o2, k2⟩ := h2
  refine ⟨_, o1.or o2, fun F H σ ρ st p q z v u Q g a b ez k => ?_⟩
  rcases e p q z ez with z1 | z1
  · exact .inl (k1 F H σ ρ st p q z v u Q g a b z1 k)
  · exact .inr (k2 F H σ ρ st p q z v u Q g a b z1 k)
theorem bin_run {ma mb : M D} {P : V → V → Hp → Prop} {F H : Hp} {σ : SS} {ρ ρ1 ρ2 : Env} {st st1 st2 : PSt} {p q : D} (g : Gd N F H σ ρ st) (h1 : ma ρ st = some (p, ρ1, st1)) (h2 : mb ρ1 st1 = some (q, ρ2, st2))
    (k : ∀ F2 H2 v u, Go N.R F H F2 H2 → Gd N F2 H2 σ ρ2 st2 → RepT N.R F2 H2 p v → RepT N.R F2 H2 q u → P v u H2) : tE N .top ma σ H (fun v H1 => tE N .top mb σ H1 fun u H2 => P v u H2) :=
  ⟨F, ρ, st, g, p, ρ1, st1, h1, fun F1 H1 v e1 g1 r1 => ⟨F1, ρ1, st1, g1, q, ρ2, st2, h2, fun F2 H2 u e2 g2 r2 => k F2 H2 v u (e1.trans e2) g2 (r1.ext e2) r2⟩⟩
theorem e_op2 {op : Operator} {f : D → D → Option D} (ho : OpOk N X (binaryOp op) f) (ha : PE X a (tE N .top (evE cl ea))) (hb : PE X b (tE N .top (evE cl eb))) :
    PE X (.BinOp a op b pos) (tE N .val (fun ρ st => match evE cl ea ρ st with | none => none | some (p, ρ1, st1) => match evE cl eb ρ1 st1 with | none => none | some (q, ρ2, st2) => match f p q with | none => none | some z => some (z, ρ2, st2))) := by
  obtain ⟨r, o, k⟩ := ho
  refine pe_of (pe_op o ha hb) fun σ H Q ⟨F, ρ, st, g, d, ρ', st', em, q⟩ => ?_
  dsimp only at em
  split at em
  · cases em
  rename_i p ρ1 st1 h1
  split at em
  · cases em
  rename_i p2 ρ2 st2 h2
  split at em
  · cases em
  rename_i z hz
  cases em
  exact bin_run g h1 h2 fun F2 H2 v u e g2 r1 r2 => k F2 H2 σ _ _ p p2 _ v u Q g2 r1 r2 hz fun F' H' w e' g' r' => q _ _ _ (e.trans e') g' r'
theorem e_cmp2 {op : CmpOp} {f : D → D → Option Bool} (ho : OpOk N X (compareOp op) fun p q => (f p q).map .bl) (ha : PE X a (tE N .top (evE cl ea))) (hb : PE X b (tE N .top (evE cl eb))) (hm : behindInMarks op b = false) :
    PE X (.Compare a [op] [b] pos) (tE N .val (fun ρ st => match evE cl ea ρ st with | none => none | some (p, ρ1, st1) => match evE cl eb ρ1 st1 with | none => none | some (q, ρ2, st2) => match f p q with | none => none | some z => some (.bl z, ρ2, st2))) := by
  obtain ⟨r, o, k⟩ := ho
  refine pe_of (pe_cmpR o ha hb hm) fun σ H Q ⟨F, ρ, st, g, d, ρ', st', em, q⟩ => ?_
  dsimp only at em
  split at em
  · cases em
  rename_i p ρ1 st1 h1
  split at em
  · cases em
  rename_i p2 ρ2 st2 h2
  split at em
  · cases em
  rename_i z hz
  cases em
  exact bin_run g h1 h2 fun F2 H2 v u e g2 r1 r2 => k F2 H2 σ _ _ p p2 (.bl z) v u Q g2 r1 r2 (by dsimp only; rw [hz]; rfl) fun F' H' w e' g' r' => q _ _ _ (e.trans e') g' r'
/-- .. as a test -/
theorem t_cmp2 {op : CmpOp} {f : D → D → Option Bool} (ho : OpOk N X (compareOp op) fun p q => (f p q).map .bl) (ha : PE X a (tE N .top (evE cl ea))) (hb : PE X b (tE N .top (evE cl eb))) (hm : behindInMarks op b = false) :
    PT X (.Compare a [op] [b] pos) (tT N (fun ρ st => match evE cl ea ρ st with | none => none | some (p, ρ1, st1) => match evE cl eb ρ1 st1 with | none => none | some (q, ρ2, st2) => match f p q with | none => none | some z => some (.bl z, ρ2, st2))) := by
  obtain ⟨r, o, k⟩ := ho
  refine pt_of (pt_cmpR o ha hb hm) fun σ H Q ⟨F, ρ, st, g, d, ρ', st', em, q⟩ => ?_
  dsimp only at em
  split at em
  · cases em
  rename_i p ρ1 st1 h1
  split at em
  · cases em
  rename_i p2 ρ2 st2 h2
  split at em
  · cases em
  rename_i z hz
  cases em
  exact bin_run g h1 h2 fun F2 H2 v u e g2 r1 r2 => k F2 H2 σ _ _ p p2 (.bl d) v u _ g2 r1 r2 (by dsimp only; rw [hz]; rfl) fun F' H' w e' g' r' => ⟨d, by simpa [Rep] using r', q _ _ (e.trans e') g'⟩

/-! ### truth -/
theorem t_val {m : M D} (h : PE X a (tE N .top m)) (he : ∀ whole, isTrue a X.env whole = (do let v ← whole; standAt a.pos; holding [v] (truthy v))) : PT X a (tT N m) :=
  pt_of (pt_val h he) fun σ H Q ⟨F, ρ, st, g, d, ρ', st', em, q⟩ => ⟨F, ρ, st, g, _, ρ', st', em, fun F' H' v e g' r => ⟨d, r.bl, q _ _ e g'⟩⟩
theorem t_not (h : PT X a (tT N (evE cl ea))) : PT X (.UnaryOp .Not a pos) (tT N (evE cl (.not ea))) :=
  pt_of (pt_not h) fun σ H Q ⟨F, ρ, st, g, d, ρ', st', em, q⟩ => by
    unfold evE at em
    split at em
    · rename_i k ρ1 st1 h1
      cases em
      exact ⟨F, ρ, st, g, k, _, _, h1, fun F' H' e g' => q _ _ e g'⟩
    · cases em
theorem w_one {op : BoolOp} {m : M D} (h : PT X a (tT N m)) : PW X (.BoolOp op [a] pos) (tT N m) := by
  cases op with
  | And => exact pw_and1 h
  | Or => exact pw_or1 h
theorem w_and {rest : List Expr} (ha : PT X a (tT N (evE cl ea))) (hb : PW X (.BoolOp .And (b :: rest) pos) (tT N (evE cl eb))) : PW X (.BoolOp .And (a :: b :: rest) pos) (tT N (evE cl (.and ea eb))) :=
  pw_of (pw_and ha hb) fun σ H Q ⟨F, ρ, st, g, d, ρ', st', em, q⟩ => by
    unfold evE at em
    split at em
    · rename_i ρ1 st1 h1
      exact ⟨F, ρ, st, g, true, _, _, h1, fun F' H' e g' => iteT ⟨F', ρ1, st1, g', d, ρ', st', em, fun F2 H2 e2 g2 => q _ _ (e.trans e2) g2⟩⟩
    · rename_i ρ1 st1 h1
      cases em
      exact ⟨F, ρ, st, g, false, _, _, h1, fun F' H' e g' => iteF (q _ _ e g')⟩
    · cases em
theorem w_or {rest : List Expr} (ha : PT X a (tT N (evE cl ea))) (hb : PW X (.BoolOp .Or (b :: rest) pos) (tT N (evE cl eb))) : PW X (.BoolOp .Or (a :: b :: rest) pos) (tT N (evE cl (.or ea eb))) :=
  pw_of (pw_or ha hb) fun σ H Q ⟨F, ρ, st, g, d, ρ', st', em, q⟩ => by
    unfold evE at em
    split at em
    · rename_i ρ1 st1 h1
      exact ⟨F, ρ, st, g, false, _, _, h1, fun F' H' e g' => iteF ⟨F', ρ1, st1, g', d, ρ', st', em, fun F2 H2 e2 g2 => q _ _ (e.trans e2) g2⟩⟩
    · rename_i ρ1 st1 h1
      cases em
      exact ⟨F, ρ, st, g, true, _, _, h1, fun F' H' e g' => iteT (q _ _ e g')⟩
    · cases em
/-- as values -/
theorem e_one {op : BoolOp} {k : Kind} {m : M D} (h : PE X a (tE N k m)) : PE X (.BoolOp op [a] pos) (tE N k m) := pe_one h
theorem e_and {rest : List Expr} (ha : PE X a (tE N .top (evE cl ea))) (hb : PE X (.BoolOp .And (b :: rest) pos) (tE N .val (evE cl eb))) : PE X (.BoolOp .And (a :: b :: rest) pos) (tE N .val (evE cl (.and ea eb))) :=
  pe_of (pe_and ha hb) fun σ H Q ⟨F, ρ, st, g, d, ρ', st', em, q⟩ => by
    unfold evE at em
    split at em
    · rename_i ρ1 st1 h1
      exact ⟨F, ρ, st, g, _, _, _, h1, fun F' H' v e g' r => ⟨true, r.bl, iteT ⟨F', ρ1, st1, g', d, ρ', st', em, fun F2 H2 u e2 g2 r2 => q _ _ _ (e.trans e2) g2 r2⟩⟩⟩
    · rename_i ρ1 st1 h1
      cases em
      exact ⟨F, ρ, st, g, _, _, _, h1, fun F' H' v e g' r => ⟨false, r.bl, iteF (q _ _ _ e g' (show Rep N.R F' (.bl false) (.bl false) by simp [Rep]))⟩⟩
    · cases em
theorem e_or {rest : List Expr} (ha : PE X a (tE N .top (evE cl ea))) (hb : PE X (.BoolOp .Or (b :: rest) pos) (tE N .val (evE cl eb))) : PE X (.BoolOp .Or (a :: b :: rest) pos) (tE N .val (evE cl (.or ea eb))) :=
  pe_of (pe_or ha hb) fun σ H Q ⟨F, ρ, st, g, d, ρ', st', em, q⟩ => by
    unfold evE at em
    split at em
    · rename_i ρ1 st1 h1
      exact ⟨F, ρ, st, g, _, _, _, h1, fun F' H' v e g' r => ⟨false, r.bl, iteF ⟨F', ρ1, st1, g', d, ρ', st', em, fun F2 H2 u e2 g2 r2 => q _ _ _ (e.trans e2) g2 r2⟩⟩⟩
    · rename_i ρ1 st1 h1
      cases em
      exact ⟨F, ρ, st, g, _, _, _, h1, fun F' H' v e g' r => ⟨true, r.bl, iteT (q _ _ _ e g' (show Rep N.R F' (.bl true) (.bl true) by simp [Rep]))⟩⟩
    · cases em
theorem e_not (h : PE X a (tE N .top (evE cl ea))) : PE X (.UnaryOp .Not a pos) (tE N .val (evE cl (.not ea))) :=
  pe_of (pe_not h) fun σ H Q ⟨F, ρ, st, g, d, ρ', st', em, q⟩ => by
    unfold evE at em
    split at em
    · rename_i k ρ1 st1 h1
      cases em
      exact ⟨F, ρ, st, g, _, _, _, h1, fun F' H' v e g' r => ⟨k, r.bl, q _ _ _ e g' (show Rep N.R F' (.bl (!k)) (.bl (!k)) by simp [Rep])⟩⟩
    · cases em
theorem e_ite {k : Kind} (hc : PT X c (tT N (evE cl ec))) (ha : PE X a (tE N k (evE cl ea))) (hb : PE X b (tE N k (evE cl eb))) : PE X (.IfExp c a b pos) (tE N k (evE cl (.ite ec ea eb))) :=
  pe_of (pe_ifExp hc ha hb) fun σ H Q ⟨F, ρ, st, g, d, ρ', st', em, q⟩ => by
    unfold evE at em
    split at em
    · rename_i ρ1 st1 h1
      exact ⟨F, ρ, st, g, true, _, _, h1, fun F' H' e g' => iteT ⟨F', ρ1, st1, g', d, ρ', st', em, fun F2 H2 u e2 g2 r2 => q _ _ _ (e.trans e2) g2 r2⟩⟩
    · rename_i ρ1 st1 h1
      exact ⟨F, ρ, st, g, false, _, _, h1, fun F' H' e g' => iteF ⟨F', ρ1, st1, g', d, ρ', st', em, fun F2 H2 u e2 g2 r2 => q _ _ _ (e.trans e2) g2 r2⟩⟩
    · cases em
theorem RepT.isNon {R : RC} {F H : Hp} {d : D} {v : V} (h : RepT R F H d v) : decide (v = V.non) = isNonD d := by
  rcases h with h | ⟨a, rfl, _, _⟩
  · cases d <;> simp only [Rep] at h
    case non => subst h; rfl
    case bl => subst h; rfl
    case int => subst h; rfl
    case str => subst h; rfl
    case ty => subst h; rfl
    case lst => obtain ⟨_, _, rfl, _⟩ := h; rfl
    case tup => obtain ⟨_, _, rfl, _⟩ := h; rfl
    case dct => obtain ⟨_, _, rfl, _⟩ := h; rfl
    case dcT => obtain ⟨_, _, rfl, _⟩ := h; rfl
    case ins => obtain ⟨_, _, _, _, rfl, _⟩ := h; rfl
    case fn => obtain ⟨_, rfl, _⟩ := h; rfl
    case cls => obtain ⟨_, rfl, _⟩ := h; rfl
    case stt => obtain ⟨_, _, rfl⟩ := h; rfl
    case hnd => obtain ⟨_, _, rfl⟩ := h; rfl
    case dks => obtain ⟨_, _, rfl, _⟩ := h; rfl
  · cases d <;> first | rfl | (rename_i z; exact z.elim)
theorem e_isN {j pos'} (ha : PE X a (tE N .top (evE cl ea))) : PE X (.Compare a [.Is] [.Constant .none j pos'] pos) (tE N .val (evE cl (.isN ea))) :=
  pe_of (pe_cmp (pc_isN ha) (nobehind _ (by decide) (by decide))) fun σ H Q ⟨F, ρ, st, g, d, ρ', st', em, q⟩ => by
    unfold evE at em
    split at em
    · rename_i z ρ1 st1 h1
      cases em
      refine ⟨F, ρ, st, g, _, _, _, h1, fun F' H' v e g' r => q _ _ _ e g' ?_⟩
      rw [r.isNon]
      show Rep N.R F' (.bl _) (.bl _)
      simp [Rep]
    · cases em
theorem e_ntN {j pos'} (ha : PE X a (tE N .top (evE cl ea))) : PE X (.Compare a [.IsNot] [.Constant .none j pos'] pos) (tE N .val (evE cl (.ntN ea))) :=
  pe_of (pe_cmp (pc_notN ha) (nobehind _ (by decide) (by decide))) fun σ H Q ⟨F, ρ, st, g, d, ρ', st', em, q⟩ => by
    unfold evE at em
    split at em
    · rename_i z ρ1 st1 h1
      cases em
      refine ⟨F, ρ, st, g, _, _, _, h1, fun F' H' v e g' r => q _ _ _ e g' ?_⟩
      rw [r.isNon]
      show Rep N.R F' (.bl _) (.bl _)
      simp [Rep]
    · cases em
theorem t_isN {j pos'} (ha : PE X a (tE N .top (evE cl ea))) : PT X (.Compare a [.Is] [.Constant .none j pos'] pos) (tT N (evE cl (.isN ea))) :=
  pt_of (pt_cmp (pc_isN ha) (nobehind _ (by decide) (by decide))) fun σ H Q ⟨F, ρ, st, g, d, ρ', st', em, q⟩ => by
    unfold evE at em
    split at em
    · rename_i z ρ1 st1 h1
      cases em
      refine ⟨F, ρ, st, g, _, _, _, h1, fun F' H' v e g' r => ⟨_, rfl, ?_⟩⟩
      rw [r.isNon]
      exact q _ _ e g'
    · cases em
theorem t_ntN {j pos'} (ha : PE X a (tE N .top (evE cl ea))) : PT X (.Compare a [.IsNot] [.Constant .none j pos'] pos) (tT N (evE cl (.ntN ea))) :=
  pt_of (pt_cmp (pc_notN ha) (nobehind _ (by decide) (by decide))) fun σ H Q ⟨F, ρ, st, g, d, ρ', st', em, q⟩ => by
    unfold evE at em
    split at em
    · rename_i z ρ1 st1 h1
      cases em
      refine ⟨F, ρ, st, g, _, _, _, h1, fun F' H' v e g' r => ⟨_, rfl, ?_⟩⟩
      rw [r.isNon]
      exact q _ _ e g'
    · cases em

/-! ### the operators -/
theorem opOk_bin1 {op : Operator} {f : D → D → Option D} {C : Int → Int → Prop} {h : Int → Int → Int} (o : OpR X (binaryOp op) (rI C fun i j => .int (h i j))) (e : ∀ p q z, f p q = some z → ∃ i j, p = .int i ∧ q = .int j ∧ C i j ∧ z = .int (h i j)) : OpOk N X (binaryOp op) f :=
  ⟨_, o, fun F H σ ρ st p q z v u Q g r1 r2 ez k => by
    obtain ⟨i, j, rfl, rfl, hc, rfl⟩ := e p q z ez
    exact ⟨i, j, r1.int, r2.int, hc, k _ _ _ (Go.refl _ _ _) g (by simp [Rep])⟩⟩
theorem opOk_bin0 {op : Operator} {f : D → D → Option D} {h : Int → Int → Int} (o : OpR X (binaryOp op) (rI0 fun i j => .int (h i j))) (e : ∀ p q z, f p q = some z → ∃ i j, p = .int i ∧ q = .int j ∧ z = .int (h i j)) : OpOk N X (binaryOp op) f :=
  ⟨_, o, fun F H σ ρ st p q z v u Q g r1 r2 ez k => by
    obtain ⟨i, j, rfl, rfl, rfl⟩ := e p q z ez
    exact ⟨i, j, r1.int, r2.int, k _ _ _ (Go.refl _ _ _) g (by simp [Rep])⟩⟩
def isI : D → Bool | .int _ => true | _ => false
def isS : D → Bool | .str _ => true | _ => false
def isL : D → Bool | .lst _ => true | _ => false
def gate2 (t : D → Bool) (f : D → D → Option D) (p q : D) : Option D := if t p then f p q else none
theorem ok_add : OpOk N X (binaryOp .Add) (binD .add) := by
  have h1 : OpOk N X (binaryOp .Add) (gate2 isI (binD .add)) := opOk_bin0 op_add fun p q z h => by
    unfold gate2 at h
    cases p <;> simp [isI] at h
    cases q <;> simp [binD] at h
    exact ⟨_, _, rfl, rfl, h.symm⟩
  have h2 : OpOk N X (binaryOp .Add) (gate2 isS (binD .add)) := ⟨_, op_add_str, fun F H σ ρ st p q z v u Q g r1 r2 ez k => by
    unfold gate2 at ez
    cases p <;> simp [isS] at ez
    cases q <;> simp [binD] at ez
    obtain ⟨hl, rfl⟩ := ez
    refine ⟨_, _, r1.str, r2.str, by rw [tx_len, tx_len, line_lim]; exact hl, ?_⟩
    rw [tx_app]
    exact k _ _ _ (Go.refl _ _ _) g (by simp [Rep])⟩
  have h3 : OpOk N X (binaryOp .Add) (gate2 isL (binD .add)) := ⟨_, op_cat, fun F H σ ρ st p q z v u Q g r1 r2 ez k => by
    unfold gate2 at ez
    cases p <;> simp [isL] at ez
    cases q <;> simp [binD] at ez
    obtain ⟨hl, rfl⟩ := ez
    obtain ⟨a1, vs, rfl, h1, h2⟩ := r1.lst g.sub
    obtain ⟨a2, us, rfl, h3, h4⟩ := r2.lst g.sub
    refine ⟨a1, a2, vs, us, rfl, rfl, h1, h3, by rw [← h2.length, ← h4.length, line_lim]; exact hl, fun p hp => ?_⟩
    obtain ⟨e, g'⟩ := g.laid (o := .lst (vs ++ us)) hp
    refine k _ _ _ e g' ?_
    simp only [Rep]
    exact ⟨p, _, rfl, upd_same, (Reps.mono e.fz _ _ h2).append (Reps.mono e.fz _ _ h4)⟩⟩
  refine h1.or (h2.or h3 (op := fun p q => if isI p then none else binD .add p q) ?_) fun p q z h => ?_
  · intro p q z h
    cases p <;> simp [isI, binD] at h <;> simp [gate2, isS, isL] <;> first | exact h | skip
  · cases p <;> simp [binD] at h <;> simp [gate2, isI] <;> first | exact h | skip
theorem ok_sub : OpOk N X (binaryOp .Sub) (binD .sub) := opOk_bin0 op_sub fun p q z h => by
  cases p <;> cases q <;> simp [binD] at h
  exact ⟨_, _, rfl, rfl, h.symm⟩
theorem ok_mod : OpOk N X (binaryOp .Mod) (binD .mod) := opOk_bin1 op_mod fun p q z h => by
  cases p <;> cases q <;> simp [binD] at h
  exact ⟨_, _, rfl, rfl, h.1, h.2.symm⟩
theorem ok_fdiv : OpOk N X (binaryOp .FloorDiv) (binD .fdiv) := opOk_bin1 op_fdiv fun p q z h => by
  cases p <;> cases q <;> simp [binD] at h
  exact ⟨_, _, rfl, rfl, h.1, h.2.symm⟩
theorem ok_pow : OpOk N X (binaryOp .Pow) (binD .pow) := opOk_bin1 op_pow fun p q z h => by
  cases p <;> cases q <;> simp [binD] at h
  exact ⟨_, _, rfl, rfl, h.1, h.2.symm⟩
theorem ok_band : OpOk N X (binaryOp .BitAnd) (binD .band) := opOk_bin0 op_and fun p q z h => by
  cases p <;> cases q <;> simp [binD] at h
  exact ⟨_, _, rfl, rfl, h.symm⟩
theorem ok_bor : OpOk N X (binaryOp .BitOr) (binD .bor) := opOk_bin0 op_or fun p q z h => by
  cases p <;> cases q <;> simp [binD] at h
  exact ⟨_, _, rfl, rfl, h.symm⟩
end
end Ev
/-! Ev6 -/
/-! Ev6: comparisons are sound. -/
namespace Ev
open PySem PySem.Spec PyProof.Rows L2

mutual
theorem dp_of {R : RC} {F : Hp} {H : Hp} (g : Same F H) : ∀ (d : D) (v : V) (p : PyData), Rep R F d v → toPy d = some p → Dp R.K H v p
  | .non, v, p, h, e => by simp only [Rep] at h; simp only [toPy] at e; cases e; subst h; exact .non
  | .bl b, v, p, h, e => by simp only [Rep] at h; simp only [toPy] at e; cases e; subst h; exact .bl _
  | .int b, v, p, h, e => by simp only [Rep] at h; simp only [toPy] at e; cases e; subst h; exact .int _
  | .str b, v, p, h, e => by simp only [Rep] at h; simp only [toPy] at e; cases e; subst h; exact .str _
  | .lst ds, v, p, h, e => by
    simp only [Rep] at h
    obtain ⟨a, vs, rfl, h2, h3⟩ := h
    simp only [toPy, Option.map_eq_some_iff] at e
    obtain ⟨ps, e1, rfl⟩ := e
    exact .lst (SqL.of (g _ _ h2)) (dps_of g ds vs ps h3 e1)
  | .tup ds, v, p, h, e => by
    simp only [Rep] at h
    obtain ⟨a, vs, rfl, h2, h3⟩ := h
    simp only [toPy, Option.map_eq_some_iff] at e
    obtain ⟨ps, e1, rfl⟩ := e
    exact .tup (SqT.mono g h2) (dps_of g ds vs ps h3 e1)
  | .dct _ _, v, p, h, e => by simp [toPy] at e
  | .dcT _ _, v, p, h, e => by simp [toPy] at e
  | .ins _ _ _, v, p, h, e => by simp [toPy] at e
  | .fn _, v, p, h, e => by simp [toPy] at e
  | .cls _, v, p, h, e => by simp [toPy] at e
  | .ty _, v, p, h, e => by simp [toPy] at e
  | .stt, v, p, h, e => by simp [toPy] at e
  | .hnd _, v, p, h, e => by simp [toPy] at e
  | .dks _, v, p, h, e => by simp [toPy] at e
theorem dps_of {R : RC} {F : Hp} {H : Hp} (g : Same F H) : ∀ (ds : List D) (vs : List V) (ps : List PyData), Reps R F ds vs → toPys ds = some ps → DpAll R.K H vs ps
  | [], vs, ps, h, e => by simp only [Reps] at h; simp only [toPys] at e; cases e; subst h; exact .nil
  | d :: ds, vs, ps, h, e => by
    simp only [Reps] at h
    obtain ⟨x, xs, rfl, h2, h3⟩ := h
    simp only [toPys] at e
    split at e
    · rename_i a r e1 e2
      cases e
      exact .cons (dp_of g d x a h2 e1) (dps_of g ds xs r h3 e2)
    · cases e
end
theorem dpT_of {R : RC} {F H : Hp} (g : Same F H) {d : D} {v : V} {p : PyData} (h : RepT R F H d v) (e : toPy d = some p) : Dp R.K H v p := by
  rcases h with h | ⟨a, rfl, _, h⟩
  · exact dp_of g d v p h e
  · cases d with
    | lst ds =>
      obtain ⟨vs, h1, h2⟩ := h
      simp only [toPy, Option.map_eq_some_iff] at e
      obtain ⟨ps, e1, rfl⟩ := e
      exact .lst (SqL.of h1) (dps_of g ds vs ps h2 e1)
    | dct _ _ => simp [toPy] at e
    | dcT _ _ => simp [toPy] at e
    | ins _ _ _ => simp [toPy] at e
    | dks _ => simp [toPy] at e
    | _ => exact h.elim

theorem flat_of {R : RC} {F H : Hp} {d : D} {v : V} (h : RepT R F H d v) (f : flatD d = true) : (d = .non ∧ v = .non) ∨ (∃ b, d = .bl b ∧ v = .bl b) ∨ (∃ i, d = .int i ∧ v = .int i) ∨ ∃ l, d = .str l ∧ v = .str (tx l) := by
  cases d <;> first | cases f | skip
  case non => exact .inl ⟨rfl, h.non⟩
  case bl b => exact .inr (.inl ⟨b, rfl, h.bl⟩)
  case int i => exact .inr (.inr (.inl ⟨i, rfl, h.int⟩))
  case str l => exact .inr (.inr (.inr ⟨l, rfl, h.str⟩))
theorem scal_of {R : RC} {F H : Hp} {p q : D} {v u : V} (h1 : RepT R F H p v) (h2 : RepT R F H q u) (s : scalD p q = true) : scal v u = true ∧ decide (v = u) = eqF p q := by
  have f : flatD p = true ∧ flatD q = true := by cases p <;> cases q <;> simp_all [scalD, flatD]
  rcases flat_of h1 f.1 with ⟨rfl, rfl⟩ | ⟨b, rfl, rfl⟩ | ⟨b, rfl, rfl⟩ | ⟨b, rfl, rfl⟩ <;> rcases flat_of h2 f.2 with ⟨rfl, rfl⟩ | ⟨c, rfl, rfl⟩ | ⟨c, rfl, rfl⟩ | ⟨c, rfl, rfl⟩ <;> first
    | (simp [scalD] at s; done)
    | (refine ⟨rfl, ?_⟩; simp [eqF, tx_eq]; done)
    | (refine ⟨rfl, ?_⟩; rw [Bool.eq_iff_iff]; simp [eqF, tx_eq]; done)

section
variable {N : RN} {X : Cx}
theorem eqOk_aux {op : CmpOp} {neg : Bool} (ok : XOk N.R X) (o1 : OpR X (compareOp op) fun x y H Q => scal x y = true ∧ Q (.bl (if neg then !decide (x = y) else decide (x = y))) H)
    (o2 : OpR X (compareOp op) fun x y H Q => ∃ d e, Dp X.K H x d ∧ Dp X.K H y e ∧ SeqAt.shaped d = true ∧ SeqAt.shaped e = true ∧ Q (.bl (if neg then !PyData.eqv d e else PyData.eqv d e)) H) :
    OpOk N X (compareOp op) fun p q => ((eqD p q).map fun b => if neg then !b else b).map .bl := by
  refine ⟨_, o1.or o2, fun F H σ ρ st p q z v u Q g r1 r2 ez k => ?_⟩
  simp only [Option.map_eq_some_iff] at ez
  obtain ⟨_, ⟨b, eb, rfl⟩, rfl⟩ := ez
  unfold eqD at eb
  by_cases hs : scalD p q = true
  · rw [if_pos hs] at eb
    cases eb
    obtain ⟨h1, h2⟩ := scal_of r1 r2 hs
    exact .inl ⟨h1, by rw [h2]; exact k _ _ _ (Go.refl _ _ _) g (by simp [Rep])⟩
  · rw [if_neg hs] at eb
    split at eb
    · rename_i x y e1 e2
      split at eb
      · rename_i hsh
        cases eb
        rw [Bool.and_eq_true] at hsh
        refine .inr ⟨x, y, ?_, ?_, hsh.1, hsh.2, k _ _ _ (Go.refl _ _ _) g (by simp [Rep])⟩
        · rw [ok.K]; exact dpT_of g.sub r1 e1
        · rw [ok.K]; exact dpT_of g.sub r2 e2
      · cases eb
    · cases eb
theorem ok_eq (ok : XOk N.R X) : OpOk N X (compareOp .Eq) fun p q => (cmpD .eq p q).map .bl := by
  have h := eqOk_aux (neg := false) ok op_eq (op_eqD ok.units)
  have e : (fun p q => (cmpD .eq p q).map D.bl) = fun p q => ((eqD p q).map fun b => if false = true then !b else b).map D.bl := by
    funext p q
    simp [cmpD]
  rw [e]; exact h
theorem ok_ne (ok : XOk N.R X) : OpOk N X (compareOp .NotEq) fun p q => (cmpD .ne p q).map .bl := by
  have h := eqOk_aux (neg := true) ok op_ne (op_neD ok.units)
  have e : (fun p q => (cmpD .ne p q).map D.bl) = fun p q => ((eqD p q).map fun b => if true = true then !b else b).map D.bl := by
    funext p q
    simp [cmpD]
  rw [e]; exact h
theorem opOk_cmpI {op : CmpOp} {f : D → D → Option Bool} {h : Int → Int → Bool} (o : OpR X (compareOp op) (rI0 fun i j => .bl (h i j))) (e : ∀ p q z, f p q = some z → ∃ i j, p = .int i ∧ q = .int j ∧ z = h i j) : OpOk N X (compareOp op) fun p q => (f p q).map .bl :=
  ⟨_, o, fun F H σ ρ st p q z v u Q g r1 r2 ez k => by
    simp only [Option.map_eq_some_iff] at ez
    obtain ⟨b, eb, rfl⟩ := ez
    obtain ⟨i, j, rfl, rfl, rfl⟩ := e p q b eb
    exact ⟨i, j, r1.int, r2.int, k _ _ _ (Go.refl _ _ _) g (by simp [Rep])⟩⟩
theorem ok_le : OpOk N X (compareOp .LtE) fun p q => (cmpD .le p q).map .bl := opOk_cmpI op_le fun p q z h => by
  cases p <;> cases q <;> simp [cmpD] at h; exact ⟨_, _, rfl, rfl, h.symm⟩
theorem ok_gt : OpOk N X (compareOp .Gt) fun p q => (cmpD .gt p q).map .bl := opOk_cmpI op_gt fun p q z h => by
  cases p <;> cases q <;> simp [cmpD] at h; exact ⟨_, _, rfl, rfl, h.symm⟩
theorem ok_ge : OpOk N X (compareOp .GtE) fun p q => (cmpD .ge p q).map .bl := opOk_cmpI op_ge fun p q z h => by
  cases p <;> cases q <;> simp [cmpD] at h; exact ⟨_, _, rfl, rfl, h.symm⟩
theorem ok_lt : OpOk N X (compareOp .Lt) fun p q => (cmpD .lt p q).map .bl := by
  have h1 : OpOk N X (compareOp .Lt) fun p q => ((gate2 isI (fun p q => (cmpD .lt p q).map .bl)) p q) := ⟨_, op_lt, fun F H σ ρ st p q z v u Q g r1 r2 ez k => by
    simp only [gate2, Option.ite_none_right_eq_some, Option.map_eq_some_iff] at ez
    obtain ⟨hp, b, eb, rfl⟩ := ez
    cases p <;> simp only [isI, reduceCtorEq, Bool.false_eq_true] at hp
    cases q <;> simp only [cmpD, Option.some.injEq, reduceCtorEq] at eb
    subst eb
    exact ⟨_, _, r1.int, r2.int, k _ _ _ (Go.refl _ _ _) g (by simp [Rep])⟩⟩
  have h2 : OpOk N X (compareOp .Lt) fun p q => ((gate2 isS (fun p q => (cmpD .lt p q).map .bl)) p q) := ⟨_, op_lt_str, fun F H σ ρ st p q z v u Q g r1 r2 ez k => by
    simp only [gate2, Option.ite_none_right_eq_some, Option.map_eq_some_iff] at ez
    obtain ⟨hp, b, eb, rfl⟩ := ez
    cases p <;> simp only [isS, reduceCtorEq, Bool.false_eq_true] at hp
    cases q <;> simp only [cmpD, Option.some.injEq, reduceCtorEq] at eb
    subst eb
    refine ⟨_, _, r1.str, r2.str, ?_⟩
    rw [tx_list, tx_list]
    exact k _ _ _ (Go.refl _ _ _) g (by simp [Rep])⟩
  refine h1.or h2 fun p q z h => ?_
  cases p <;> simp [cmpD] at h <;> simp [gate2, isI, isS] <;> exact h

/-! ### in -/
theorem eqV_of {R : RC} {F H : Hp} {p q : D} {v u : V} (h1 : RepT R F H p v) (h2 : RepT R F H q u) (f1 : flatD p = true) (f2 : flatD q = true) : eqV v u = eqF p q ∧ flatV v = true ∧ flatV u = true := by
  rcases flat_of h1 f1 with ⟨rfl, rfl⟩ | ⟨b, rfl, rfl⟩ | ⟨b, rfl, rfl⟩ | ⟨b, rfl, rfl⟩ <;> rcases flat_of h2 f2 with ⟨rfl, rfl⟩ | ⟨c, rfl, rfl⟩ | ⟨c, rfl, rfl⟩ | ⟨c, rfl, rfl⟩ <;> first
    | exact ⟨rfl, rfl, rfl⟩
    | (refine ⟨?_, rfl, rfl⟩; simp only [eqV, eqF]; rw [Bool.eq_iff_iff]; simp [tx_eq]; done)
theorem inV_of {R : RC} {F H : Hp} {p : D} {v : V} (h1 : RepT R F H p v) (f1 : flatD p = true) : ∀ {ys : List D} {us : List V}, Reps R F ys us → ys.all flatD = true → us.all flatV = true ∧ inV v us = ys.any fun y => eqF y p
  | [], us, h, f => by simp only [Reps] at h; subst h; exact ⟨rfl, rfl⟩
  | y :: ys, us, h, f => by
    simp only [Reps] at h
    obtain ⟨x, xs, rfl, h2, h3⟩ := h
    rw [List.all_cons, Bool.and_eq_true] at f
    obtain ⟨k1, k2⟩ := inV_of h1 f1 h3 f.2
    obtain ⟨e1, e2, e3⟩ := eqV_of (H := H) (.inl h2) h1 f.1 f1
    unfold inV at k2 ⊢
    rw [List.all_cons, List.any_cons, List.any_cons, e1, e2, k1, k2]
    exact ⟨rfl, rfl⟩
def isInL : D → Bool | .lst _ => true | .tup _ => true | _ => false
def gate2r (t : D → Bool) (f : D → D → Option D) (p q : D) : Option D := if t q then f p q else none
def isDc : D → Bool | .dct _ _ => true | _ => false
theorem ky_inj {a b : Ky} (h : ky a = ky b) : a = b := by
  cases a <;> cases b <;> simp [ky] at h
  · rw [h]
  · rw [h]
theorem key_in (ks : List Ky) (k : Ky) : ∀ (vs : List V), ks.length = vs.length → (valV ((ks.map ky).zip vs) (ky k)).isSome = ks.any (fun c => decide (c = k)) := by
  induction ks with
  | nil => intro vs hl; cases vs <;> rfl
  | cons c cs ih =>
    intro vs hl
    cases vs with
    | nil => cases hl
    | cons v vs =>
      simp only [List.map_cons, List.zip_cons_cons, List.any_cons]
      by_cases e : c = k
      · subst e
        rw [valV_pos (p := (ky c, v)) rfl]
        simp
      · have ne : ¬ ky c = ky k := fun z => e (ky_inj z)
        rw [valV_neg (p := (ky c, v)) ne, ih vs (by simpa using hl), decide_eq_false e, Bool.false_or]
theorem inOk_aux {op : CmpOp} {neg : Bool} (ok : XOk N.R X) (o1 : OpR X (compareOp op) (rIn X.K neg))
    (o2 : OpR X (compareOp op) fun x y H Q => ∃ i j, x = .str i ∧ y = .str j ∧ Q (.bl (if neg then !(!(Builtin.Str.occurrences j i 0 j.length 1).isEmpty) else !(Builtin.Str.occurrences j i 0 j.length 1).isEmpty)) H)
    (one : ∀ (c : Nat) (z : List Nat), (!(Builtin.Str.occurrences (tx z) (tx [c]) 0 (tx z).length 1).isEmpty) = decide (c ∈ z)) :
    OpOk N X (compareOp op) (fun p q => if isDc q then none else ((inD p q).map fun b => if neg then !b else b).map .bl) := by
  refine ⟨_, o1.or o2, fun F H σ ρ st p q z v u Q g r1 r2 ez k => ?_⟩
  simp only [Option.ite_none_left_eq_some, Option.map_eq_some_iff] at ez
  obtain ⟨hq, _, ⟨b, eb, rfl⟩, rfl⟩ := ez
  cases q <;> simp only [isDc, inD, reduceCtorEq, Option.ite_none_right_eq_some, Bool.and_eq_true, not_true] at hq eb
  case str s =>
    right
    cases p <;> simp only [reduceCtorEq, Option.some.injEq] at eb
    rename_i y
    refine ⟨_, _, r1.str, r2.str, ?_⟩
    have : (!(Builtin.Str.occurrences (tx s) (tx y) 0 (tx s).length 1).isEmpty) = inStrD y s := by
      rcases y with _ | ⟨c, _ | ⟨c2, r⟩⟩
      · rfl
      · exact one c s
      · rfl
    rw [this, eb]
    exact k _ _ _ (Go.refl _ _ _) g (by simp [Rep])
  case lst ys =>
    left
    obtain ⟨⟨f1, f2⟩, e⟩ := eb
    obtain rfl := Option.some.inj e
    obtain ⟨a, us, rfl, h1, h2⟩ := r2.lst g.sub
    obtain ⟨k1, k2⟩ := inV_of r1 f1 h2 f2
    refine ⟨a, us, rfl, .inl (SqL.of h1), ?_, k1, ?_⟩
    · rcases flat_of r1 f1 with ⟨_, rfl⟩ | ⟨_, _, rfl⟩ | ⟨_, _, rfl⟩ | ⟨_, _, rfl⟩ <;> rfl
    · rw [k2]
      exact k _ _ _ (Go.refl _ _ _) g (by simp [Rep])
  case tup ys =>
    left
    obtain ⟨⟨f1, f2⟩, e⟩ := eb
    obtain rfl := Option.some.inj e
    obtain ⟨a, us, rfl, h1, h2⟩ := r2.tup g.sub
    obtain ⟨k1, k2⟩ := inV_of r1 f1 h2 f2
    refine ⟨a, us, rfl, .inr (by rw [ok.K]; exact h1), ?_, k1, ?_⟩
    · rcases flat_of r1 f1 with ⟨_, rfl⟩ | ⟨_, _, rfl⟩ | ⟨_, _, rfl⟩ | ⟨_, _, rfl⟩ <;> rfl
    · rw [k2]
      exact k _ _ _ (Go.refl _ _ _) g (by simp [Rep])
end
end Ev
/-! Ev7 -/
/-! Ev7: expressions are sound: displays, indexes, slices, built-in calls. -/
namespace Ev
open PySem PySem.Spec PyProof.Rows L2

theorem relO_zip {R : RC} {F : Hp} : ∀ {ks : List Ky} {ds : List D} {vs : List V} (k : Ky) {j : Nat}, ks.length = vs.length → Reps R F ds vs → ks.findIdx? (fun c => decide (c = k)) = some j →
    ∃ v, valV ((ks.map ky).zip vs) (ky k) = some v ∧ vs[j]? = some v
  | [], _, _, _, _, _, _, e => by simp at e
  | c :: cs, ds, vs, k, j, hl, h, e => by
    cases vs with
    | nil => cases hl
    | cons v vs =>
      rw [List.findIdx?_cons] at e
      simp only [List.map_cons, List.zip_cons_cons]
      by_cases q : c = k
      · subst q
        simp at e; subst e
        exact ⟨v, valV_pos (p := (ky c, v)) rfl, rfl⟩
      · rw [if_neg (by simpa using q)] at e
        simp only [Option.map_eq_some_iff] at e
        obtain ⟨j', e', rfl⟩ := e
        cases ds with
        | nil => simp [Reps] at h
        | cons d ds =>
          simp only [Reps] at h
          obtain ⟨x, xs, e2, _, h3⟩ := h
          cases e2
          obtain ⟨v', h4, h5⟩ := relO_zip k (by simpa using hl) h3 e'
          refine ⟨v', ?_, by simpa using h5⟩
          rw [valV_neg (p := (ky c, v)) (fun z => q (ky_inj z))]
          exact h4

theorem pe_or {X : Cx} {e : Expr} {t u : TE} (h : PE X e t) (k : PE X e u) : PE X e (fun σ H Q => t σ H Q ∨ u σ H Q) := ⟨fun pins s σ H Q I q => q.elim (h.run pins s σ H Q I) (k.run pins s σ H Q I)⟩
theorem pt_or {X : Cx} {e : Expr} {t u : TT} (h : PT X e t) (k : PT X e u) : PT X e (fun σ H Q => t σ H Q ∨ u σ H Q) := ⟨fun pins s σ H Q I q => q.elim (h.run pins s σ H Q I) (k.run pins s σ H Q I)⟩

section
variable {N : RN} {X : Cx} {cl : Cl} {x : Str} {pos p : Pos} {a b c e : Expr} {es : List Expr} {ea eb ec ee : E} {ees : List E}

/-! ### one operand -/
theorem e_neg (h : PE X a (tE N .top (evE cl ea))) : PE X (.UnaryOp .USub a pos) (tE N .val (evE cl (.neg ea))) :=
  pe_of (pe_un un_neg h) fun σ H Q ⟨F, ρ, st, g, d, ρ', st', em, q⟩ => by
    unfold evE at em
    split at em
    · rename_i i ρ1 st1 h1
      cases em
      exact ⟨F, ρ, st, g, _, _, _, h1, fun F' H' v e g' r => ⟨i, r.int, q _ _ _ e g' (show Rep N.R F' (.int (-i)) (.int (-i)) by simp [Rep])⟩⟩
    · cases em
theorem e_inv (h : PE X a (tE N .top (evE cl ea))) : PE X (.UnaryOp .Invert a pos) (tE N .val (evE cl (.inv ea))) :=
  pe_of (pe_un un_inv h) fun σ H Q ⟨F, ρ, st, g, d, ρ', st', em, q⟩ => by
    unfold evE at em
    split at em
    · rename_i i ρ1 st1 h1
      cases em
      exact ⟨F, ρ, st, g, _, _, _, h1, fun F' H' v e g' r => ⟨i, r.int, q _ _ _ e g' (show Rep N.R F' (.int _) (.int _) by simp [Rep])⟩⟩
    · cases em

/-! ### arguments -/
theorem a_nil {k : Kind} : PA X [] (tA N k (evEs cl [])) := pa_of pa_nil fun σ H Q ⟨F, ρ, st, g, d, ρ', st', em, q⟩ => by
  unfold evEs at em; cases em
  exact q _ _ _ (Go.refl _ _ _) g (by
    cases k with
    | val => exact (Reps.nil : Reps N.R F [] [])
    | top => exact (.nil : Paired (RepT N.R F H) [] [])
    | own => exact (.nil : Paired (RepT N.R F H) [] []))
theorem a_val (ha : PE X e (tE N .val (evE cl ee))) (hr : PA X es (tA N .val (evEs cl ees))) (hs : starEach (e :: es) X.env = (false, eval e X.env) :: starEach es X.env) : PA X (e :: es) (tA N .val (evEs cl (ee :: ees))) :=
  pa_of (pa_cons ha hr hs) fun σ H Q ⟨F, ρ, st, g, d, ρ', st', em, q⟩ => by
    unfold evEs at em
    split at em
    · cases em
    rename_i p1 ρ1 st1 h1
    split at em
    · cases em
    rename_i ps ρ2 st2 h2
    cases em
    exact ⟨F, ρ, st, g, _, _, _, h1, fun F1 H1 v e1 g1 r1 => ⟨F1, ρ1, st1, g1, _, _, _, h2, fun F2 H2 vs e2 g2 r2 => q _ _ _ (e1.trans e2) g2 (Reps.cons (Rep.mono e2.fz _ _ r1) r2)⟩⟩
theorem a_top (ha : PE X e (tE N .top (evE cl ee))) (hr : PA X es (tA N .top (evEs cl ees))) (hs : starEach (e :: es) X.env = (false, eval e X.env) :: starEach es X.env) : PA X (e :: es) (tA N .top (evEs cl (ee :: ees))) :=
  pa_of (pa_cons ha hr hs) fun σ H Q ⟨F, ρ, st, g, d, ρ', st', em, q⟩ => by
    unfold evEs at em
    split at em
    · cases em
    rename_i p1 ρ1 st1 h1
    split at em
    · cases em
    rename_i ps ρ2 st2 h2
    cases em
    exact ⟨F, ρ, st, g, _, _, _, h1, fun F1 H1 v e1 g1 r1 => ⟨F1, ρ1, st1, g1, _, _, _, h2, fun F2 H2 vs e2 g2 r2 => q _ _ _ (e1.trans e2) g2 (.cons (RepT.ext r1 e2) r2)⟩⟩

/-! ### displays -/
theorem e_tup {k1 : Nat} (h : PA X es (tA N .val (evEs cl ees))) (hl : ees.length ≤ 1000) : PE X (.Tuple es k1 pos) (tE N .val (evE cl (.tup ees))) :=
  pe_of (pe_tup h) fun σ H Q ⟨F, ρ, st, g, d, ρ', st', em, q⟩ => by
    unfold evE at em
    split at em
    · rename_i ds ρ1 st1 h1
      cases em
      refine ⟨F, ρ, st, g, _, _, _, h1, fun F1 H1 vs e1 g1 r1 => ⟨?_, fun a ha => ?_⟩⟩
      · have l1 : vs.length = ds.length := (Reps.length r1).symm
        have l2 : ∀ (es : List E) (ds : List D) (ρ ρ' : Env) (st st' : PSt), evEs cl es ρ st = some (ds, ρ', st') → ds.length = es.length := by
          intro es
          induction es with
          | nil => intro ds ρ ρ' st st' h; unfold evEs at h; cases h; rfl
          | cons e es ih =>
            intro ds ρ ρ' st st' h
            unfold evEs at h
            split at h
            · cases h
            split at h
            · cases h
            cases h
            rename_i hh
            simp [ih _ _ _ _ _ hh]
        rw [l1, l2 _ _ _ _ _ _ h1, line_lim]
        exact Nat.le_trans hl (by decide)
      · obtain ⟨e2, g2⟩ := g1.laid (o := .tup vs) ha
        refine q _ _ _ (e1.trans e2) g2 ?_
        show Rep N.R _ (.tup ds) _
        simp only [Rep]
        exact ⟨a, vs, rfl, SqT.of upd_same, Reps.mono e2.fz _ _ r1⟩
    · cases em
theorem evEs_len : ∀ (es : List E) (ds : List D) (ρ ρ' : Env) (st st' : PSt), evEs cl es ρ st = some (ds, ρ', st') → ds.length = es.length := by
  intro es
  induction es with
  | nil => intro ds ρ ρ' st st' h; unfold evEs at h; cases h; rfl
  | cons e es ih =>
    intro ds ρ ρ' st st' h
    unfold evEs at h
    split at h
    · cases h
    split at h
    · cases h
    cases h
    rename_i hh
    simp [ih _ _ _ _ _ hh]
theorem Gd.own {F H : Hp} {σ : SS} {ρ : Env} {st : PSt} (g : Gd N F H σ ρ st) {a : Addr} {o : HO} {d : D} (ha : H a = none) (ho : ∀ H', H' a = some o → OwnAt N.R F H' d a) (ni : isIns d = false := by rfl) :
    Go N.R F H F (upd H a o) ∧ Gd N F (upd H a o) σ ρ st ∧ ResOk N .own F (upd H a o) σ ρ d (.ref a) := by
  obtain ⟨e2, g2⟩ := g.laidOwn (o := o) ha
  obtain ⟨nb, no⟩ := g.toGood.noown ha
  exact ⟨e2, g2, a, rfl, g.new0 ha, g.sub.free ha, nb, g.nors ha, no, ni, ho _ upd_same⟩
theorem e_lst (h : PA X es (tA N .val (evEs cl ees))) (hl : ees.length ≤ 1000) : PE X (.List es pos) (tE N .own (evE cl (.lst ees))) :=
  pe_of (pe_lst h) fun σ H Q ⟨F, ρ, st, g, d, ρ', st', em, q⟩ => by
    unfold evE at em
    split at em
    · rename_i ds ρ1 st1 h1
      cases em
      refine ⟨F, ρ, st, g, _, _, _, h1, fun F1 H1 vs e1 g1 r1 => ⟨?_, fun a ha => ?_⟩⟩
      · rw [← Reps.length r1, evEs_len _ _ _ _ _ _ h1, line_lim]
        exact Nat.le_trans hl (by decide)
      · obtain ⟨e2, g2, r2⟩ := g1.own (o := .lst vs) (d := .lst ds) ha fun H' z => ⟨vs, z, r1⟩
        exact q _ _ _ (e1.trans e2) g2 r2
    · cases em

/-! ### indexes -/
theorem atI_of {R : RC} {F : Hp} {ds : List D} {vs : List V} {i : Int} {d : D} (h : Reps R F ds vs) (e : ((ixN ds.length i).bind fun j => ds[j]?) = some d) : ∃ v, atI vs i = some v ∧ Rep R F d v := by
  simp only [Option.bind_eq_some_iff] at e
  obtain ⟨j, e1, e2⟩ := e
  obtain ⟨v, h1, h2⟩ := h.get e2
  refine ⟨v, ?_, h2⟩
  unfold atI
  rw [← h.length]
  show (ixN ds.length i).bind _ = _
  rw [e1]; exact h1
theorem e_idx (ok : XOk N.R X) (ha : PE X a (tE N .top (evE cl ea))) (hb : PE X b (tE N .top (evE cl eb))) (hs : PlainIx b) (hs2 : NoSl b) : PE X (.Subscript a b pos) (tE N .val (evE cl (.idx ea eb))) :=
  pe_of (pe_or (pe_ix ix_seq ha hb hs) (pe_dget (Nat.lt_of_le_of_lt (Nat.add_le_add_left (by decide : 1 ≤ 64) _) ok.units) ha hb hs2)) fun σ H Q ⟨F, ρ, st, g, d, ρ', st', em, q⟩ => by
    unfold evE at em
    split at em
    · cases em
    rename_i p1 ρ1 st1 h1
    split at em
    · cases em
    rename_i p2 ρ2 st2 h2
    split at em
    · cases em
    rename_i z hz
    cases em
    have run : ∀ P : V → V → Hp → Prop, (∀ F2 H2 v u, Go N.R F H F2 H2 → Gd N F2 H2 σ ρ' st' → RepT N.R F2 H2 p1 v → RepT N.R F2 H2 p2 u → P v u H2) → tE N .top (evE cl ea) σ H (fun v H1 => tE N .top (evE cl eb) σ H1 fun u H2 => P v u H2) := fun P k => bin_run g h1 h2 k
    cases p1 <;> simp only [idxD, reduceCtorEq] at hz
    case lst ds =>
      cases p2 <;> simp only [reduceCtorEq] at hz
      refine .inl (run _ fun F2 H2 v u e g2 r1 r2 => ?_)
      obtain ⟨c, vs, rfl, k1, k2⟩ := r1.lst g2.sub
      obtain ⟨w, k3, k4⟩ := atI_of k2 hz
      exact .inl ⟨c, vs, _, w, rfl, r2.int, SqL.of k1, k3, q _ _ _ e g2 k4⟩
    case tup ds =>
      cases p2 <;> simp only [reduceCtorEq] at hz
      refine .inl (run _ fun F2 H2 v u e g2 r1 r2 => ?_)
      obtain ⟨c, vs, rfl, k1, k2⟩ := r1.tup g2.sub
      obtain ⟨w, k3, k4⟩ := atI_of k2 hz
      exact .inr (.inl ⟨c, vs, _, w, rfl, r2.int, by rw [ok.K]; exact k1, k3, q _ _ _ e g2 k4⟩)
    case str l =>
      cases p2 <;> simp only [reduceCtorEq, Option.ite_none_right_eq_some, Option.bind_eq_some_iff, Option.map_eq_some_iff] at hz
      obtain ⟨hl, j, e1, s, e2, rfl⟩ := hz
      refine .inl (run _ fun F2 H2 v u e g2 r1 r2 => ?_)
      refine .inr (.inr ⟨tx l, _, s, r1.str, r2.int, by rw [tx_len, line_lim]; exact hl, ?_, q _ _ _ e g2 (show Rep N.R F2 (.str [s]) _ by simp [Rep, tx])⟩)
      unfold atI
      rw [tx_list]
      show (ixN l.length _).bind _ = _
      rw [e1]; exact e2
    case dct ks ds =>
      cases p2 <;> simp only [reduceCtorEq, Option.bind_eq_some_iff] at hz
      all_goals
        obtain ⟨j, e1, e2⟩ := hz
        refine .inr (run _ fun F2 H2 v u e g2 r1 r2 => ?_)
        obtain ⟨c, vs, rfl, k1, k2, k3⟩ := r1.dct g2.sub
        obtain ⟨w, k4, k5⟩ := relO_zip _ k2 k3 e1
        obtain ⟨w', k6, k7⟩ := k3.get e2
        rw [k5] at k6; cases k6
      · refine ⟨c, w, rfl, ?_, q _ _ _ e g2 k7⟩
        rw [r2.int, ← k4]
        exact DGet.k (k := ky (.inl _)) k1
      · refine ⟨c, w, rfl, ?_, q _ _ _ e g2 k7⟩
        rw [r2.str, ← k4]
        exact DGet.k (k := ky (.inr _)) k1

/-! ### slices of texts -/
theorem o_none : PO X none tNoPart := po_none
def rSl2 (K : PySem.W.Frag) : V → Option Int → Option Int → Hp → VK → Prop := fun x lo hi H Q => rSlS x lo hi H Q ∨ rSlL K x lo hi H Q
theorem sl_two {X : Cx} : SlR X (rSl2 X.K) := by
  intro pins s σ H x v vl vu lo hi sl Q I rx hs pl pu h
  rcases h with h | h
  · exact sl_str pins s σ H x v vl vu lo hi sl Q I rx hs pl pu h
  · exact sl_list pins s σ H x v vl vu lo hi sl Q I rx hs pl pu h
theorem e_slice {lo hi : Option Expr} {el eh : Option E} {p2 : Pos} {tl th : TO} (ha : PE X a (tE N .top (evE cl ea))) (hlo : PO X lo tl) (hhi : PO X hi th)
    (kl : ∀ σ H Q F ρ st l ρ' st', Gd N F H σ ρ st → evO cl el ρ st = some (l, ρ', st') → (∀ F' H', Go N.R F H F' H' → Gd N F' H' σ ρ' st' → Q l H') → tl σ H Q)
    (kh : ∀ σ H Q F ρ st l ρ' st', Gd N F H σ ρ st → evO cl eh ρ st = some (l, ρ', st') → (∀ F' H', Go N.R F H F' H' → Gd N F' H' σ ρ' st' → Q l H') → th σ H Q)
    : PE X (.Subscript a (.Slice lo hi none p2) pos) (tE N .val (evE cl (.sl ea el eh))) :=
  pe_of (pe_slice sl_two ha hlo hhi) fun σ H Q ⟨F, ρ, st, g, d, ρ', st', em, q⟩ => by
    unfold evE at em
    split at em
    · cases em
    rename_i p1 ρ1 st1 h1
    split at em
    · cases em
    rename_i l ρ2 st2 h2
    split at em
    · cases em
    rename_i h ρ3 st3 h3
    split at em
    · cases em
    rename_i z hz
    cases em
    refine ⟨F, ρ, st, g, _, _, _, h1, fun F1 H1 v e1 g1 r1 => kl _ _ _ F1 _ _ _ _ _ g1 h2 fun F2 H2 e2 g2 => kh _ _ _ F2 _ _ _ _ _ g2 h3 fun F3 H3 e3 g3 => ?_⟩
    cases p1 <;> simp only [slD, reduceCtorEq, Option.ite_none_right_eq_some, Option.some.injEq] at hz
    rotate_left
    · rename_i xs
      subst hz
      obtain ⟨b, vs, e4, h4, r4⟩ := RepT.lst g3.toGood.sub (RepT.ext r1 (e2.trans e3))
      refine .inr ⟨b, vs, e4, .inl (.inl h4), fun p hp => ?_⟩
      obtain ⟨e5, g5⟩ := g3.laid (o := .lst (cutV vs l h)) hp
      refine q _ _ _ (((e1.trans e2).trans e3).trans e5) g5 ?_
      show Rep N.R _ (.lst _) _
      simp only [Rep]
      refine ⟨p, _, rfl, upd_same, Reps.mono e5.fz _ _ ?_⟩
      unfold cutV cutL
      rw [← r4.length]
      exact Reps.take _ (Reps.drop _ r4)
    rename_i s
    obtain ⟨hl, rfl⟩ := hz
    refine .inl ⟨tx s, RepT.str r1, by rw [tx_len, line_lim]; exact hl, ?_⟩
    have : cutS (tx s) l h = tx (cutL s l h) := by
      unfold cutS cutL
      rw [tx_list, tx_len]
    rw [this]
    exact q _ _ _ ((e1.trans e2).trans e3) g3 (show Rep N.R F3 (.str _) _ by simp [Rep])
theorem k_none {σ : SS} {H : Hp} {Q : Option Int → Hp → Prop} {F : Hp} {ρ : Env} {st : PSt} {l : Option Int} {ρ' : Env} {st' : PSt} (g : Gd N F H σ ρ st) (h : evO cl none ρ st = some (l, ρ', st')) (k : ∀ F' H', Go N.R F H F' H' → Gd N F' H' σ ρ' st' → Q l H') : tNoPart σ H Q := by
  unfold evO at h; cases h; exact k _ _ (Go.refl _ _ _) g
theorem k_some {σ : SS} {H : Hp} {Q : Option Int → Hp → Prop} {F : Hp} {ρ : Env} {st : PSt} {l : Option Int} {ρ' : Env} {st' : PSt} (g : Gd N F H σ ρ st) (h : evO cl (some ee) ρ st = some (l, ρ', st')) (k : ∀ F' H', Go N.R F H F' H' → Gd N F' H' σ ρ' st' → Q l H') : tPart (tE N .top (evE cl ee)) σ H Q := by
  unfold evO at h
  split at h
  · rename_i i ρ1 st1 h1
    cases h
    exact ⟨F, ρ, st, g, _, _, _, h1, fun F' H' v e g' r => ⟨i, RepT.int r, k _ _ e g'⟩⟩
  · cases h

/-! ### built-in functions -/
def CallOk (N : RN) (X : Cx) (f : Value) (g : List D → Option D) : Prop := ∃ r, CallR X f r ∧ ∀ F H σ ρ st ds d vs Q, Gd N F H σ ρ st → Paired (RepT N.R F H) ds vs → g ds = some d → (∀ F' H' w, Go N.R F H F' H' → Gd N F' H' σ ρ st → Rep N.R F' d w → Q w H') → r vs H Q
theorem CallOk.or {f : Value} {g g1 g2 : List D → Option D} (h1 : CallOk N X f g1) (h2 : CallOk N X f g2) (e : ∀ ds d, g ds = some d → g1 ds = some d ∨ g2 ds = some d) : CallOk N X f g := by
  obtain ⟨r1, o1, k1⟩ := h1
  obtain ⟨r2, o2, k2⟩ := h2
  refine ⟨_, o1.or o2, fun F H σ ρ st ds d vs Q gg a ez k => ?_⟩
  rcases e ds d ez with z1 | z1
  · exact .inl (k1 F H σ ρ st ds d vs Q gg a z1 k)
  · exact .inr (k2 F H σ ρ st ds d vs Q gg a z1 k)
theorem bi_aux {bi : Bi} {f : Value} (σ : SS) (H : Hp) (Q : VK) {r : List V → Hp → VK → Prop} (hk : ∀ F H σ ρ st ds d vs Q, Gd N F H σ ρ st → Paired (RepT N.R F H) ds vs → biD bi ds = some d → (∀ F' H' w, Go N.R F H F' H' → Gd N F' H' σ ρ st → Rep N.R F' d w → Q w H') → r vs H Q)
    (h : tE N .val (evE cl (.bi bi ees)) σ H Q) : tCB r (tA N .top (evEs cl ees)) σ H Q := by
  obtain ⟨F, ρ, st, g, d, ρ', st', em, q⟩ := h
  unfold evE at em
  split at em
  · cases em
  rename_i ds ρ1 st1 h1
  split at em
  · cases em
  rename_i z hz
  cases em
  exact ⟨F, ρ, st, g, _, _, _, h1, fun F1 H1 vs e1 g1 r1 => hk F1 H1 σ _ _ ds _ vs Q g1 r1 hz fun F' H' w e' g' r' => q _ _ _ (e1.trans e') g' r'⟩
theorem e_biB {bi : Bi} {id : String} (hc : CallOk N X (.builtin id) (biD bi)) (hg : Gl X x) (hm : X.mg x = none) (hv : bootBuiltins x = some (.builtin id)) (ha : PA X (e :: es) (tA N .top (evEs cl ees))) (hn : x ≠ "__name__") (hdb : (x == ("__debug__" : Str)) = false)
    (he : starEach (e :: es) X.env = (false, eval e X.env) :: starEach es X.env) (hpl : (backTo pos (starEach es X.env)).any (·.1) = false) : PE X (.Call (.Name x p) (e :: es) [] pos) (tE N .val (evE cl (.bi bi ees))) := by
  obtain ⟨r, o, k⟩ := hc
  exact pe_of (pe_callB o hg hm hv ha hn hdb he hpl) fun σ H Q h => bi_aux (f := .none) σ H Q k h
theorem e_biT {bi : Bi} {T : String} (hc : CallOk N X (.type T) (biD bi)) (hg : Gl X x) (hm : X.mg x = none) (hv : bootBuiltins x = some (.type T)) (ha : PA X (e :: es) (tA N .top (evEs cl ees))) (hn : x ≠ "__name__") (hdb : (x == ("__debug__" : Str)) = false)
    (he : starEach (e :: es) X.env = (false, eval e X.env) :: starEach es X.env) (hpl : (backTo pos (starEach es X.env)).any (·.1) = false) : PE X (.Call (.Name x p) (e :: es) [] pos) (tE N .val (evE cl (.bi bi ees))) := by
  obtain ⟨r, o, k⟩ := hc
  exact pe_of (pe_callTy o hg hm hv ha hn hdb he hpl) fun σ H Q h => bi_aux (f := .none) σ H Q k h
end
end Ev
/-! Ev8 -/
/-! Ev8: built-in functions and methods of texts, isinstance, list(..), text * int, in. -/
namespace Ev
open PySem PySem.Spec PyProof.Rows L2

section
variable {N : RN} {X : Cx} {cl : Cl} {x : Str} {pos p : Pos} {a b c e : Expr} {es : List Expr} {ea eb ec ee : E} {ees : List E}
theorem pair1 {R : RC} {F H : Hp} {d : D} {vs : List V} (h : Paired (RepT R F H) [d] vs) : ∃ v, vs = [v] ∧ RepT R F H d v := by
  cases h with
  | cons r t => cases t; exact ⟨_, rfl, r⟩
theorem pair2 {R : RC} {F H : Hp} {d e : D} {vs : List V} (h : Paired (RepT R F H) [d, e] vs) : ∃ v u, vs = [v, u] ∧ RepT R F H d v ∧ RepT R F H e u := by
  cases h with
  | cons r t => obtain ⟨u, rfl, k⟩ := pair1 t; exact ⟨_, _, rfl, r, k⟩
theorem reps_int {R : RC} {F : Hp} : ∀ {ds : List D} {vs : List V} {is : List Int}, Reps R F ds vs → intsD ds = some is → vs = is.map V.int
  | [], vs, is, h, e => by simp only [Reps] at h; simp only [intsD] at e; cases e; exact h
  | d :: ds, vs, is, h, e => by
    simp only [Reps] at h
    obtain ⟨x, xs, rfl, h2, h3⟩ := h
    cases d <;> simp only [intsD, reduceCtorEq, Option.map_eq_some_iff] at e
    obtain ⟨r, e1, rfl⟩ := e
    simp only [Rep] at h2
    rw [List.map_cons, reps_int h3 e1, h2]
theorem reps_bl {R : RC} {F : Hp} : ∀ {ds : List D} {vs : List V} {is : List Bool}, Reps R F ds vs → blsD ds = some is → vs = is.map V.bl
  | [], vs, is, h, e => by simp only [Reps] at h; simp only [blsD] at e; cases e; exact h
  | d :: ds, vs, is, h, e => by
    simp only [Reps] at h
    obtain ⟨x, xs, rfl, h2, h3⟩ := h
    cases d <;> simp only [blsD, reduceCtorEq, Option.map_eq_some_iff] at e
    obtain ⟨r, e1, rfl⟩ := e
    simp only [Rep] at h2
    rw [List.map_cons, reps_bl h3 e1, h2]
theorem reps_str {R : RC} {F : Hp} : ∀ {ds : List D} {vs : List V} {is : List (List Nat)}, Reps R F ds vs → strsD ds = some is → vs = (is.map tx).map V.str
  | [], vs, is, h, e => by simp only [Reps] at h; simp only [strsD] at e; cases e; exact h
  | d :: ds, vs, is, h, e => by
    simp only [Reps] at h
    obtain ⟨x, xs, rfl, h2, h3⟩ := h
    cases d <;> simp only [strsD, reduceCtorEq, Option.map_eq_some_iff] at e
    obtain ⟨r, e1, rfl⟩ := e
    simp only [Rep] at h2
    rw [List.map_cons, List.map_cons, reps_str h3 e1, h2]

theorem b_len0 (ok : XOk N.R X) : CallOk N X (.builtin "len") (fun ds => match ds with | [.dct _ _] => none | _ => biD .len ds) := ⟨_, call_len, fun F H σ ρ st ds d vs Q g r e k => by
  rcases ds with _ | ⟨d1, _ | ⟨d2, r2⟩⟩
  · simp [biD] at e
  · obtain ⟨v, rfl, r1⟩ := pair1 r
    cases d1 <;> simp only [biD, reduceCtorEq, Option.some.injEq, Option.ite_none_right_eq_some] at e
    case str l =>
      obtain ⟨hl, rfl⟩ := e
      refine ⟨v, l.length, rfl, ?_, k _ _ _ (Go.refl _ _ _) g (by simp [Rep])⟩
      rw [r1.str]
      exact ⟨by rw [tx_len, line_lim]; exact hl, (tx_len l).symm⟩
    case lst xs =>
      subst e
      obtain ⟨c, us, rfl, h1, h2⟩ := r1.lst g.sub
      exact ⟨_, xs.length, rfl, .inl ⟨us, SqL.of h1, h2.length⟩, k _ _ _ (Go.refl _ _ _) g (by simp [Rep])⟩
    case tup xs =>
      subst e
      obtain ⟨c, us, rfl, h1, h2⟩ := r1.tup g.sub
      exact ⟨_, xs.length, rfl, .inr ⟨us, by rw [ok.K]; exact h1, h2.length⟩, k _ _ _ (Go.refl _ _ _) g (by simp [Rep])⟩
  · cases d1 <;> simp [biD] at e⟩
theorem b_len (ok : XOk N.R X) : CallOk N X (.builtin "len") (biD .len) := by
  refine (b_len0 ok).or (g2 := fun ds => match ds with | [.dct ks xs] => biD .len [.dct ks xs] | _ => none) ⟨_, call_lenD, fun F H σ ρ st ds d vs Q g r e k => ?_⟩ fun ds d h => ?_
  · dsimp only at e
    split at e
    · rename_i ks xs
      obtain ⟨v, rfl, r1⟩ := pair1 r
      obtain ⟨c, us, rfl, h1, h2, h3⟩ := r1.dct g.sub
      simp only [biD, Option.some.injEq] at e
      subst e
      refine ⟨c, _, rfl, h1, ?_⟩
      have : ((ks.map ky).zip us).length = ks.length := by rw [List.length_zip, List.length_map]; omega
      rw [this]
      exact k _ _ _ (Go.refl _ _ _) g (by simp [Rep])
    · cases e
  · rcases ds with _ | ⟨d1, _ | ⟨d2, r2⟩⟩
    · simp [biD] at h
    · cases d1 <;> first | exact .inl h | exact .inr h
    · cases d1 <;> simp [biD] at h
theorem b_abs : CallOk N X (.builtin "abs") (biD .abs) := ⟨_, call_abs, fun F H σ ρ st ds d vs Q g r e k => by
  rcases ds with _ | ⟨d1, _ | ⟨d2, r2⟩⟩
  · simp [biD] at e
  · obtain ⟨v, rfl, r1⟩ := pair1 r
    cases d1 <;> simp only [biD, reduceCtorEq, Option.some.injEq] at e
    subst e
    exact ⟨_, by rw [r1.int], k _ _ _ (Go.refl _ _ _) g (by simp [Rep])⟩
  · cases d1 <;> simp [biD] at e⟩
theorem b_int1 : CallOk N X (.type "int") (biD .int1) := ⟨_, call_int1, fun F H σ ρ st ds d vs Q g r e k => by
  rcases ds with _ | ⟨d1, _ | ⟨d2, r2⟩⟩
  · simp [biD] at e
  · obtain ⟨v, rfl, r1⟩ := pair1 r
    cases d1 <;> simp only [biD, reduceCtorEq, Option.some.injEq] at e
    case int => subst e; exact .inl ⟨_, by rw [r1.int], k _ _ _ (Go.refl _ _ _) g (by simp [Rep])⟩
    case bl => subst e; exact .inr ⟨_, by rw [r1.bl], k _ _ _ (Go.refl _ _ _) g (by simp [Rep])⟩
  · cases d1 <;> simp [biD] at e⟩
theorem b_int2 : CallOk N X (.type "int") (biD .int2) := ⟨_, EvBin.call_int_bit, fun F H σ ρ st ds d vs Q g r e k => by
  rcases ds with _ | ⟨d1, _ | ⟨d2, _ | ⟨d3, r3⟩⟩⟩
  · simp [biD] at e
  · cases d1 <;> simp [biD] at e
  · obtain ⟨v, u, rfl, r1, r2⟩ := pair2 r
    cases d1 <;> cases d2 <;> simp only [biD, reduceCtorEq, Option.ite_none_right_eq_some, Option.some.injEq, Bool.and_eq_true, decide_eq_true_eq, Bool.not_eq_true'] at e
    obtain ⟨⟨⟨⟨h1, h2⟩, h3⟩, rfl⟩, rfl⟩ := e
    refine ⟨_, by rw [r1.str, r2.int], ?_, h3, fun c hc => ?_, k _ _ _ (Go.refl _ _ _) g (by simp [Rep])⟩
    · intro z; subst z; cases h2
    · have := List.all_eq_true.mp h1 c hc
      simpa [EvBin.Bit] using this
  · cases d1 <;> cases d2 <;> simp [biD] at e⟩
theorem b_max2 (hc : X.calm = true) : CallOk N X (.builtin "max") (biD .max2) := ⟨_, call_max2 hc, fun F H σ ρ st ds d vs Q g r e k => by
  rcases ds with _ | ⟨d1, _ | ⟨d2, _ | ⟨d3, r3⟩⟩⟩
  · simp [biD] at e
  · cases d1 <;> simp [biD] at e
  · obtain ⟨v, u, rfl, r1, r2⟩ := pair2 r
    cases d1 <;> cases d2 <;> simp only [biD, reduceCtorEq, Option.some.injEq] at e
    subst e
    exact ⟨_, _, by rw [r1.int, r2.int], k _ _ _ (Go.refl _ _ _) g (by simp [Rep])⟩
  · cases d1 <;> cases d2 <;> simp [biD] at e⟩
theorem b_min2 (hc : X.calm = true) : CallOk N X (.builtin "min") (biD .min2) := ⟨_, call_min2 hc, fun F H σ ρ st ds d vs Q g r e k => by
  rcases ds with _ | ⟨d1, _ | ⟨d2, _ | ⟨d3, r3⟩⟩⟩
  · simp [biD] at e
  · cases d1 <;> simp [biD] at e
  · obtain ⟨v, u, rfl, r1, r2⟩ := pair2 r
    cases d1 <;> cases d2 <;> simp only [biD, reduceCtorEq, Option.some.injEq] at e
    subst e
    exact ⟨_, _, by rw [r1.int, r2.int], k _ _ _ (Go.refl _ _ _) g (by simp [Rep])⟩
  · cases d1 <;> cases d2 <;> simp [biD] at e⟩
theorem b_str1 : CallOk N X (.type "str") (biD .str1) := ⟨_, call_str_int, fun F H σ ρ st ds d vs Q g r e k => by
  rcases ds with _ | ⟨d1, _ | ⟨d2, r2⟩⟩
  · simp [biD] at e
  · obtain ⟨v, rfl, r1⟩ := pair1 r
    cases d1 <;> simp only [biD, reduceCtorEq, Option.some.injEq, Option.ite_none_right_eq_some] at e
    obtain ⟨hl, rfl⟩ := e
    refine ⟨_, by rw [r1.int], ?_, k _ _ _ (Go.refl _ _ _) g ?_⟩
    · rename_i i
      rcases Nat.eq_zero_or_pos i.natAbs with z | z
      · rw [z]; decide
      · have : i.natAbs.log2 < 30 := (Nat.log2_lt (by omega)).mpr (Nat.lt_trans hl (by decide))
        omega
    · simp only [Rep]
      congr 1
      rw [← tx_of (Str.ofString _)]
      congr 1
      unfold Str.ofString
      rw [List.toList_toArray, cpsOfBytes_string]
  · cases d1 <;> simp [biD] at e⟩
theorem b_all (hc : X.calm = true) : CallOk N X (.builtin "all") (biD .all) := ⟨_, cr_all hc, fun F H σ ρ st ds d vs Q g r e k => by
  rcases ds with _ | ⟨d1, _ | ⟨d2, r2⟩⟩
  · simp [biD] at e
  · obtain ⟨v, rfl, r1⟩ := pair1 r
    cases d1 <;> simp only [biD, reduceCtorEq, Option.map_eq_some_iff] at e
    obtain ⟨bs, e1, rfl⟩ := e
    obtain ⟨c, us, rfl, h1, h2⟩ := r1.lst g.sub
    exact ⟨c, bs, rfl, SqL.of (by rw [← reps_bl h2 e1]; exact h1), k _ _ _ (Go.refl _ _ _) g (by simp [Rep])⟩
  · cases d1 <;> simp [biD] at e⟩
theorem b_any (hc : X.calm = true) : CallOk N X (.builtin "any") (biD .any) := ⟨_, cr_any hc, fun F H σ ρ st ds d vs Q g r e k => by
  rcases ds with _ | ⟨d1, _ | ⟨d2, r2⟩⟩
  · simp [biD] at e
  · obtain ⟨v, rfl, r1⟩ := pair1 r
    cases d1 <;> simp only [biD, reduceCtorEq, Option.map_eq_some_iff] at e
    obtain ⟨bs, e1, rfl⟩ := e
    obtain ⟨c, us, rfl, h1, h2⟩ := r1.lst g.sub
    exact ⟨c, bs, rfl, SqL.of (by rw [← reps_bl h2 e1]; exact h1), k _ _ _ (Go.refl _ _ _) g (by simp [Rep])⟩
  · cases d1 <;> simp [biD] at e⟩
theorem b_sum (hc : X.calm = true) : CallOk N X (.builtin "sum") (biD .sum) := ⟨_, cr_sum hc, fun F H σ ρ st ds d vs Q g r e k => by
  rcases ds with _ | ⟨d1, _ | ⟨d2, r2⟩⟩
  · simp [biD] at e
  · obtain ⟨v, rfl, r1⟩ := pair1 r
    cases d1 <;> simp only [biD, reduceCtorEq, Option.map_eq_some_iff] at e
    obtain ⟨bs, e1, rfl⟩ := e
    obtain ⟨c, us, rfl, h1, h2⟩ := r1.lst g.sub
    exact ⟨c, bs, rfl, SqL.of (by rw [← reps_int h2 e1]; exact h1), k _ _ _ (Go.refl _ _ _) g (by simp [Rep])⟩
  · cases d1 <;> simp [biD] at e⟩

/-! ### sep.join(list) -/
theorem e_join {apos : Pos} (ho : PE X a (tE N .val (evE cl ea))) (he : PE X e (tE N .top (evE cl ee))) (hs : starEach [e] X.env = [(false, eval e X.env)]) (hbase : attributeBase a "join" X.env (eval a X.env) = eval a X.env) (hline : (apos.endLine == pos.line) = true) :
    PE X (.Call (.Attribute a "join" apos) [e] [] pos) (tE N .val (evE cl (.bi .join [ea, ee]))) :=
  pe_of (pe_join ho he hs hbase hline) fun σ H Q ⟨F, ρ, st, g, d, ρ', st', em, q⟩ => by
    unfold evE evEs evEs evEs at em
    split at em
    · cases em
    rename_i ds ρ1 st1 h1
    split at em
    · cases em
    rename_i z hz
    cases em
    split at h1
    · cases h1
    rename_i d1 ρ1 st1 e1
    split at h1
    · cases h1
    rename_i dl ρ2 st2 e2
    cases h1
    split at e2
    · cases e2
    rename_i d2 ρ2 st2 e3
    cases e2
    cases d1 <;> simp only [biD, reduceCtorEq] at hz
    rename_i sep
    cases d2 <;> simp only [biD, reduceCtorEq] at hz
    rename_i xs
    split at hz
    · rename_i ls els
      simp only [Option.ite_none_right_eq_some, Option.some.injEq] at hz
      obtain ⟨hl, rfl⟩ := hz
      refine ⟨F, ρ, st, g, _, _, _, e1, fun F1 H1 v g1 k1 r1 => ⟨⟨tx sep, by simpa [Rep] using (show Rep N.R F1 (.str sep) v from r1)⟩, F1, _, _, k1, _, _, _, e3, fun F2 H2 u g2 k2 r2 => ?_⟩⟩
      have rv : v = .str (tx sep) := by simpa [Rep] using (show Rep N.R F1 (.str sep) v from r1)
      obtain ⟨c, us, rfl, h1, h2⟩ := RepT.lst k2.sub r2
      refine ⟨tx sep, c, ls.map tx, rv, rfl, .inl (SqL.of (by rw [← reps_str h2 els]; exact h1)), ?_, ?_⟩
      · rw [List.map_map, List.length_map, tx_len]
        have : (List.map ((fun x => x.length) ∘ tx) ls) = ls.map List.length := List.map_congr_left fun l _ => tx_len l
        rw [this]
        exact hl
      · have : Txt.join (tx sep) (ls.map tx) = tx (joinD sep ls) := SX.join_S sep ls
        rw [this]
        exact q _ _ _ (g1.trans g2) k2 (show Rep N.R F2 (.str _) _ by simp [Rep])
    · cases hz
end
end Ev
/-! Ev9 -/
/-! Ev9: list(..), text * int, in, isinstance. -/
namespace Ev
open PySem PySem.Spec PyProof.Rows L2

theorem foldl_arr (j : Nat) (c acc : Array Nat) : ((List.replicate j c).foldl (· ++ ·) acc).toList = acc.toList ++ (List.replicate j c.toList).flatten := by
  induction j generalizing acc with
  | zero => simp
  | succ j ih => rw [List.replicate_succ, List.foldl_cons, ih]; simp [List.replicate_succ]

section
variable {N : RN} {X : Cx} {cl : Cl} {x : Str} {pos p : Pos} {a b c e : Expr} {es : List Expr} {ea eb ec ee : E} {ees : List E}
theorem op_mul_str : OpR X (binaryOp .Mult) (fun x y H Q => ∃ (l : List Nat) (j : Int), x = .str (tx l) ∧ y = .int j ∧ 0 ≤ j ∧ j ≤ 1000 ∧ l.length ≤ 1000 ∧ Q (.str (tx (List.replicate j.toNat l).flatten)) H) := by
  intro pins s σ H x y v u Q I rx ry h
  obtain ⟨l, j, rfl, rfl, h0, h1, h2, q⟩ := h
  obtain ⟨t, rfl⟩ := rx
  obtain ⟨t', rfl⟩ := ry
  have hl : (tx l).length = l.length := tx_len l
  refine PySem.P.mul_str (by simp; omega) (fun h3 h4 => ?_) (fun h3 h4 => ?_) ?_
  · rw [hl]
    have h5 : 1 ≤ j := by omega
    have h6 : (l.length : Int) * j ≤ 1000 * 1000 := Int.mul_le_mul (by omega) h1 h0 (by decide)
    have h7 : (l.length : Int) ≤ (2 ^ 63 - 1) / j := (Int.le_ediv_iff_mul_le (by omega)).mpr (Int.le_trans h6 (by decide))
    omega
  · unfold Builtin.Str.tooLong
    rw [hl, decide_eq_false_iff_not, line_lim]
    have : l.length * j.toNat ≤ 1000 * 1000 := Nat.mul_le_mul h2 (by omega)
    have : (1000 * 1000 : Nat) ≤ lim := by decide
    omega
  · have fin : ∀ (z : Str) (tk : Tok) (n : Nat), z = tx (List.replicate j.toNat l).flatten → EP X pins σ Q (.str z tk) { s with toks := n } := fun z tk n e => ⟨.str z, H, I.tok _, ⟨_, rfl⟩, by rw [e]; exact q⟩
    split
    · have : j = 0 := by omega
      subst this
      exact ⟨by decide, fin _ _ _ rfl⟩
    · split
      · rename_i h3 h4
        rw [Bool.or_eq_true, beq_iff_eq, beq_iff_eq, hl] at h4
        have e : tx l = tx (List.replicate j.toNat l).flatten := by
          rcases h4 with z | z
          · rw [z]; simp
          · have : l = [] := List.length_eq_zero_iff.mp z
            subst this; simp
        exact fin _ _ s.toks e
      · have e : (⟨(List.replicate j.toNat (tx l).cps).foldl (· ++ ·) #[]⟩ : Str) = tx (List.replicate j.toNat l).flatten := by
          rw [← tx_of ⟨_⟩]
          congr 1
          rw [foldl_arr]
          simp [tx]
        refine ⟨?_, fin _ _ _ e⟩
        rw [e, tx_len, line_lim]
        have h6 : (List.replicate j.toNat l).flatten.length = j.toNat * l.length := by simp
        rw [h6]
        have : j.toNat * l.length ≤ 1000 * 1000 := Nat.mul_le_mul (by omega) h2
        exact Nat.le_trans this (by decide)
theorem ok_mul : OpOk N X (binaryOp .Mult) (binD .mul) := by
  have h1 : OpOk N X (binaryOp .Mult) (gate2 isI (binD .mul)) := opOk_bin1 op_mul fun p q z h => by
    simp only [gate2, Option.ite_none_right_eq_some] at h
    obtain ⟨hp, h⟩ := h
    cases p <;> simp only [isI, reduceCtorEq, Bool.false_eq_true] at hp
    cases q <;> simp only [binD, reduceCtorEq, Option.ite_none_right_eq_some, Option.some.injEq] at h
    exact ⟨_, _, rfl, rfl, h.1, h.2.symm⟩
  have h2 : OpOk N X (binaryOp .Mult) (gate2 isS (binD .mul)) := ⟨_, op_mul_str, fun F H σ ρ st p q z v u Q g r1 r2 h k => by
    simp only [gate2, Option.ite_none_right_eq_some] at h
    obtain ⟨hp, h⟩ := h
    cases p <;> simp only [isS, reduceCtorEq, Bool.false_eq_true] at hp
    cases q <;> simp only [binD, reduceCtorEq, Option.ite_none_right_eq_some, Option.some.injEq] at h
    obtain ⟨⟨k1, k2, k3⟩, rfl⟩ := h
    exact ⟨_, _, r1.str, r2.int, k1, k2, k3, k _ _ _ (Go.refl _ _ _) g (by simp [Rep])⟩⟩
  refine h1.or h2 fun p q z h => ?_
  cases p <;> simp [binD] at h <;> simp [gate2, isI, isS] <;> exact h

/-! ### list(x) -/
theorem e_listOf (ok : XOk N.R X) (hg : Gl X x) (hm : X.mg x = none) (hv : bootBuiltins x = some (.type "list")) (ha : PA X [e] (tA N .top (evEs cl [ee]))) (hn : x ≠ "__name__") (hdb : (x == ("__debug__" : Str)) = false)
    (he : starEach [e] X.env = (false, eval e X.env) :: starEach [] X.env) (hpl : (backTo pos (starEach [] X.env)).any (·.1) = false) : PE X (.Call (.Name x p) [e] [] pos) (tE N .own (evE cl (.bf .list [ee]))) :=
  pe_of (pe_callTy call_list_of hg hm hv ha hn hdb he hpl) fun σ H Q ⟨F, ρ, st, g, d, ρ', st', em, q⟩ => by
    unfold evE at em
    split at em
    · cases em
    rename_i ds ρ1 st1 h1
    split at em
    · cases em
    rename_i z hz
    cases em
    refine ⟨F, ρ, st, g, _, _, _, h1, fun F1 H1 vs e1 g1 r1 => ?_⟩
    rcases ds with _ | ⟨d1, _ | ⟨d2, r2⟩⟩
    · simp [bfD] at hz
    · obtain ⟨v, rfl, k0⟩ := pair1 r1
      clear r1
      cases d1 <;> simp only [bfD, reduceCtorEq, Option.some.injEq] at hz
      all_goals
        subst hz
        first
        | (obtain ⟨c, us, rfl, k1, k2⟩ := k0.lst g1.sub
           refine ⟨c, us, rfl, .inl (SqL.of k1), fun l hl => ?_⟩
           obtain ⟨e2, g2, r3⟩ := g1.own (o := .lst us) (d := .lst _) hl fun H' z => ⟨us, z, k2⟩
           exact q _ _ _ (e1.trans e2) g2 r3)
        | (obtain ⟨c, us, rfl, k1, k2⟩ := k0.tup g1.sub
           refine ⟨c, us, rfl, .inr (by rw [ok.K]; exact k1), fun l hl => ?_⟩
           obtain ⟨e2, g2, r3⟩ := g1.own (o := .lst us) (d := .lst _) hl fun H' z => ⟨us, z, k2⟩
           exact q _ _ _ (e1.trans e2) g2 r3)
    · cases d1 <;> simp [bfD] at hz

/-! ### in, not in -/
theorem lt1 (ok : XOk N.R X) : X.A.units + 1 < cLine := Nat.lt_of_le_of_lt (Nat.add_le_add_left (by decide : 1 ≤ 64) _) ok.units
theorem in_aux {op : CmpOp} {o : Co} {neg : Bool} {t1 t2 : TE} (σ : SS) (H : Hp) (Q : VK) {r : R2} (hc : ∀ p q, cmpD o p q = (inD p q).map fun b => if neg then !b else b)
    (k : ∀ F H σ ρ st p q z v u Q, Gd N F H σ ρ st → RepT N.R F H p v → RepT N.R F H q u → (if isDc q then none else ((inD p q).map fun b => if neg then !b else b).map .bl) = some z → (∀ F' H' w, Go N.R F H F' H' → Gd N F' H' σ ρ st → Rep N.R F' z w → Q w H') → r v u H Q)
    (h : tE N .val (evE cl (.cmp o ea eb)) σ H Q) : tOp r (tE N .top (evE cl ea)) (tE N .top (evE cl eb)) σ H Q ∨
      tE N .top (evE cl ea) σ H (fun y H1 => tE N .top (evE cl eb) σ H1 fun x H2 => ∃ c o, x = .ref c ∧ DGet H2 c y o ∧ Q (.bl (if neg then !o.isSome else o.isSome)) H2) := by
  obtain ⟨F, ρ, st, g, d, ρ', st', em, q⟩ := h
  unfold evE at em
  split at em
  · cases em
  rename_i p1 ρ1 st1 h1
  split at em
  · cases em
  rename_i p2 ρ2 st2 h2
  split at em
  · cases em
  rename_i z hz
  cases em
  rw [hc] at hz
  by_cases hd : isDc p2 = true
  · right
    refine bin_run g h1 h2 fun F2 H2 v u e g2 r1 r2 => ?_
    cases p2 <;> simp only [isDc, reduceCtorEq, Bool.false_eq_true] at hd
    rename_i ks ds
    obtain ⟨c, us, rfl, k1, k2, k3⟩ := r2.dct g2.sub
    cases p1 <;> simp only [inD, reduceCtorEq, Option.map_none, Option.map_some, Option.some.injEq] at hz
    · refine ⟨c, _, rfl, by rw [r1.int]; exact DGet.k (k := ky (.inl _)) k1, ?_⟩
      rw [key_in _ _ _ k2, hz]
      exact q _ _ _ e g2 (show Rep N.R F2 (.bl z) _ by simp [Rep])
    · refine ⟨c, _, rfl, by rw [r1.str]; exact DGet.k (k := ky (.inr _)) k1, ?_⟩
      rw [key_in _ _ _ k2, hz]
      exact q _ _ _ e g2 (show Rep N.R F2 (.bl z) _ by simp [Rep])
  · left
    exact bin_run g h1 h2 fun F2 H2 v u e g2 r1 r2 => k F2 H2 σ _ _ p1 p2 (.bl z) v u Q g2 r1 r2 (by rw [if_neg hd, hz]; rfl) fun F' H' w e' g' r' => q _ _ _ (e.trans e') g' r'
theorem one_sign (c : Nat) (z : List Nat) : (!(Builtin.Str.occurrences (tx z) (tx [c]) 0 (tx z).length 1).isEmpty) = decide (c ∈ z) := SX.in_one z c
theorem e_inn (ok : XOk N.R X) (ha : PE X a (tE N .top (evE cl ea))) (hb : PE X b (tE N .top (evE cl eb))) (hm : behindInMarks .In b = false) : PE X (.Compare a [.In] [b] pos) (tE N .val (evE cl (.cmp .inn ea eb))) := by
  obtain ⟨r, o, k⟩ := inOk_aux (N := N) (neg := false) ok op_in_seq op_in_str one_sign
  exact pe_of (pe_or (pe_cmpR o ha hb hm) (pe_cmp (pc_din (lt1 ok) ha hb) hm)) fun σ H Q h => in_aux (op := .In) (t1 := tVar 0) (t2 := tVar 0) (neg := false) σ H Q (fun p q => by simp [cmpD]) k h
theorem e_nin (ok : XOk N.R X) (ha : PE X a (tE N .top (evE cl ea))) (hb : PE X b (tE N .top (evE cl eb))) (hm : behindInMarks .NotIn b = false) : PE X (.Compare a [.NotIn] [b] pos) (tE N .val (evE cl (.cmp .nin ea eb))) := by
  obtain ⟨r, o, k⟩ := inOk_aux (N := N) (neg := true) ok op_notIn_seq op_notIn_str one_sign
  exact pe_of (pe_or (pe_cmpR o ha hb hm) (pe_cmp (pc_dnotin (lt1 ok) ha hb) hm)) fun σ H Q h => in_aux (op := .NotIn) (t1 := tVar 0) (t2 := tVar 0) (neg := true) σ H Q (fun p q => by simp [cmpD]) k h
/-- a reading of a value as one of a test -/
theorem b_run {m : M D} {t : VK → Prop} {σ : SS} {H : Hp} {Q : Bool → Hp → Prop} (h : tT N m σ H Q) : tE N .val m σ H (fun x H1 => ∃ c, x = .bl c ∧ Q c H1) := by
  obtain ⟨F, ρ, st, g, d, ρ', st', em, q⟩ := h
  exact ⟨F, ρ, st, g, _, _, _, em, fun F' H' v e g' r => ⟨d, by simpa [Rep] using (show Rep N.R F' (.bl d) v from r), q _ _ e g'⟩⟩
theorem t_inn (ok : XOk N.R X) (ha : PE X a (tE N .top (evE cl ea))) (hb : PE X b (tE N .top (evE cl eb))) (hm : behindInMarks .In b = false) : PT X (.Compare a [.In] [b] pos) (tT N (evE cl (.cmp .inn ea eb))) := by
  obtain ⟨r, o, k⟩ := inOk_aux (N := N) (neg := false) ok op_in_seq op_in_str one_sign
  exact pt_of (pt_or (pt_cmpR o ha hb hm) (pt_cmp (pc_din (lt1 ok) ha hb) hm)) fun σ H Q h => in_aux (op := .In) (t1 := tVar 0) (t2 := tVar 0) (neg := false) σ H _ (fun p q => by simp [cmpD]) k (b_run (t := fun _ => True) h)
theorem t_nin (ok : XOk N.R X) (ha : PE X a (tE N .top (evE cl ea))) (hb : PE X b (tE N .top (evE cl eb))) (hm : behindInMarks .NotIn b = false) : PT X (.Compare a [.NotIn] [b] pos) (tT N (evE cl (.cmp .nin ea eb))) := by
  obtain ⟨r, o, k⟩ := inOk_aux (N := N) (neg := true) ok op_notIn_seq op_notIn_str one_sign
  exact pt_of (pt_or (pt_cmpR o ha hb hm) (pt_cmp (pc_dnotin (lt1 ok) ha hb) hm)) fun σ H Q h => in_aux (op := .NotIn) (t1 := tVar 0) (t2 := tVar 0) (neg := true) σ H _ (fun p q => by simp [cmpD]) k (b_run (t := fun _ => True) h)

/-! ### isinstance -/
theorem kit_tab : ∀ a ∈ tys, ∀ b ∈ tys, kitB a b = some (isa a b) := by decide +kernel
/-- an expression that is a class: its name told as t -/
structure IsT (N : RN) (X : Cx) (b : Expr) (t : String) : Prop where
  ex : ∃ (v : V) (u : Value), PE X b (tC v) ∧ ClsV v u ∧ (∀ T ∈ tys, PySem.W.kitOne N.R.K (.type T) u = some (isa T t)) ∧ ∀ C c, N.R.cls C c → InsC N.R.K c → PySem.W.kitOne N.R.K (.ref c) u = some (isa C t)
theorem tyX_of {R : RC} {F H : Hp} {d : D} {v : V} {n : String} (g : Same F H) (h : RepT R F H d v) (e : tyName d = some n) :
    (n ∈ tys ∧ TyX R.K H v (.type n)) ∨ ∃ c, R.cls n c ∧ InsC R.K c ∧ TyX R.K H v (.ref c) := by
  cases d <;> simp only [tyName, reduceCtorEq, Option.some.injEq] at e <;> subst e
  case non => rw [h.non]; exact .inl ⟨by decide, .base .non⟩
  case bl => rw [h.bl]; exact .inl ⟨by decide, .base (.bl _)⟩
  case int => rw [h.int]; exact .inl ⟨by decide, .base (.int _)⟩
  case str => rw [h.str]; exact .inl ⟨by decide, .base (.str _)⟩
  case lst => obtain ⟨a, vs, rfl, h1, _⟩ := h.lst g; exact .inl ⟨by decide, .base (.lst h1)⟩
  case tup =>
    obtain ⟨a, vs, rfl, h1, _⟩ := h.tup g
    refine .inl ⟨by decide, ?_⟩
    rcases h1 with (h1 | ⟨o, h1⟩) | ⟨o, its, n, h1, h2, _⟩
    · exact .base (.tup h1)
    · exact .fTuple h1
    · exact .kTuple h1 h2
  case dct => obtain ⟨a, vs, rfl, h1, _⟩ := h.dct g; exact .inl ⟨by decide, .base (.dK h1)⟩
  case dcT =>
    refine .inl ⟨by decide, ?_⟩
    rcases h with h | ⟨a, rfl, _, vs, h1, _⟩
    · simp only [Rep] at h
      obtain ⟨a, vs, rfl, h1, _⟩ := h
      exact .base (.dT (g _ _ h1))
    · exact .base (.dT h1)
  case ins C fs xs =>
    obtain ⟨a, dx, c, vs, rfl, ⟨h1, h2⟩, h3, _⟩ := h.ins g
    exact .inr ⟨c, h1, h2, .base (.ins h3 h2.cl h2.ha h2.hn h2.tk h2.ob)⟩
theorem isT_ty {t : String} (ht : t ∈ tys) (hg : Gl X x) (hm : X.mg x = none) (hv : bootBuiltins x = some (.type t)) (hn : x ≠ "__name__") (hd : (x == ("__debug__" : Str)) = false)
    (hne : ∀ C c, N.R.cls C c → InsC N.R.K c → isa C t = false) : IsT N X (.Name x pos) t :=
  ⟨.ty t, .type t, pe_bltn hg hm hv rfl hn hd, .ty t, fun T hT => kit_ty (kit_tab T hT t ht), fun C c h1 h2 => by rw [hne C c h1 h2]; exact h2.kt t ht⟩
theorem e_isi1 {t : String} (ok : XOk N.R X) (hg : Gl X x) (hm : X.mg x = none) (hv : bootBuiltins x = some (.builtin "isinstance")) (ha : PE X a (tE N .top (evE cl ea))) (hb : IsT N X b t) (hn : x ≠ "__name__") (hdb : (x == ("__debug__" : Str)) = false)
    (he : starEach [a, b] X.env = (false, eval a X.env) :: starEach [b] X.env) (he2 : starEach [b] X.env = (false, eval b X.env) :: starEach [] X.env) (hpl : (backTo pos (starEach [b] X.env)).any (·.1) = false) : PE X (.Call (.Name x p) [a, b] [] pos) (tE N .val (evE cl (.isi ea [t]))) := by
  obtain ⟨v, u, hp, hc, k1, k2⟩ := hb.ex
  refine pe_of (pe_callB call_isi hg hm hv (pa_cons ha (pa_cons hp pa_nil he2) he) hn hdb he hpl) fun σ H Q ⟨F, ρ, st, g, d, ρ', st', em, q⟩ => ?_
  unfold evE at em
  split at em
  · cases em
  rename_i p1 ρ1 st1 h1
  split at em
  · cases em
  rename_i n hn
  cases em
  refine ⟨F, ρ, st, g, _, _, _, h1, fun F1 H1 w e1 g1 r1 => ?_⟩
  have fin : Q (.bl ([t].any (isa n))) H1 := q _ _ _ e1 g1 (show Rep N.R F1 (.bl _) _ by simp [Rep])
  have e2 : [t].any (isa n) = isa n t := by simp
  rw [e2] at fin
  rcases tyX_of g1.sub r1 hn with ⟨m1, m2⟩ | ⟨c, m1, m2, m3⟩
  · exact ⟨w, v, .type n, u, isa n t, rfl, hc, by rw [ok.K]; exact m2, by rw [ok.K]; exact k1 n m1, fin⟩
  · exact ⟨w, v, .ref c, u, isa n t, rfl, hc, by rw [ok.K]; exact m3, by rw [ok.K]; exact k2 n c m1 m2, fin⟩
/-- isinstance(x, (A, B)) -/
theorem e_isi2 {b2 : Expr} {t t2 : String} {k3 : Nat} {pt : Pos} (ok : XOk N.R X) (hg : Gl X x) (hm : X.mg x = none) (hv : bootBuiltins x = some (.builtin "isinstance")) (ha : PE X a (tE N .top (evE cl ea))) (hb : IsT N X b t) (hb2 : IsT N X b2 t2) (hn : x ≠ "__name__") (hdb : (x == ("__debug__" : Str)) = false)
    (he : starEach [a, .Tuple [b, b2] k3 pt] X.env = (false, eval a X.env) :: starEach [.Tuple [b, b2] k3 pt] X.env) (he2 : starEach [.Tuple [b, b2] k3 pt] X.env = (false, eval (.Tuple [b, b2] k3 pt) X.env) :: starEach [] X.env)
    (he3 : starEach [b, b2] X.env = (false, eval b X.env) :: starEach [b2] X.env) (he4 : starEach [b2] X.env = (false, eval b2 X.env) :: starEach [] X.env) (hpl : (backTo pos (starEach [.Tuple [b, b2] k3 pt] X.env)).any (·.1) = false) :
    PE X (.Call (.Name x p) [a, .Tuple [b, b2] k3 pt] [] pos) (tE N .val (evE cl (.isi ea [t, t2]))) := by
  obtain ⟨v, u, hp, hc, k1, k2⟩ := hb.ex
  obtain ⟨v', u', hp', hc', k1', k2'⟩ := hb2.ex
  refine pe_of (pe_callB call_isiT hg hm hv (pa_cons ha (pa_cons (pe_tup (pa_cons hp (pa_cons hp' pa_nil he4) he3)) pa_nil he2) he) hn hdb he hpl) fun σ H Q ⟨F, ρ, st, g, d, ρ', st', em, q⟩ => ?_
  unfold evE at em
  split at em
  · cases em
  rename_i p1 ρ1 st1 h1
  split at em
  · cases em
  rename_i n hn
  cases em
  refine ⟨F, ρ, st, g, _, _, _, h1, fun F1 H1 w e1 g1 r1 => ⟨by rw [line_lim]; show 2 ≤ lim; decide, fun tp htp => ?_⟩⟩
  obtain ⟨e2, g2⟩ := g1.laid (o := .tup [v, v']) htp
  have fin : Q (.bl ([t, t2].any (isa n))) (upd H1 tp (.tup [v, v'])) := q _ _ _ (e1.trans e2) g2 (show Rep N.R (upd F1 tp (.tup [v, v'])) (.bl _) (.bl _) by simp [Rep])
  have r2 := RepT.ext r1 e2
  have any : ∀ ty, PySem.W.kitOne N.R.K ty u = some (isa n t) → PySem.W.kitOne N.R.K ty u' = some (isa n t2) → PySem.W.kitAny N.R.K ty [u, u'] = some ([t, t2].any (isa n)) := fun ty z1 z2 => by
    simp only [PySem.W.kitAny, z1, z2, List.any_cons, List.any_nil, Bool.or_false]
    cases isa n t <;> cases isa n t2 <;> rfl
  rcases tyX_of g2.sub r2 hn with ⟨m1, m2⟩ | ⟨c, m1, m2, m3⟩
  · exact ⟨w, tp, [v, v'], .type n, [u, u'], _, rfl, upd_same, .cons hc (.cons hc' .nil), by rw [ok.K]; exact m2, by rw [ok.K]; exact any _ (k1 n m1) (k1' n m1), fin⟩
  · exact ⟨w, tp, [v, v'], .ref c, [u, u'], _, rfl, upd_same, .cons hc (.cons hc' .nil), by rw [ok.K]; exact m3, by rw [ok.K]; exact any _ (k2 n c m1 m2) (k2' n c m1 m2), fin⟩
end
end Ev
/-! Ev10 -/
/-! Ev10: what is walked, targets, comprehensions. -/
namespace Ev
open PySem PySem.Spec PyProof.Rows L2

theorem pi_of {X : Cx} {tg e : Expr} {t t' : TI} (h : PI X tg e t) (k : ∀ σ H Q, t' σ H Q → t σ H Q) : PI X tg e t' := ⟨fun pins s σ H Q I q => h.run pins s σ H Q I (k _ _ _ q)⟩
theorem pi_or {X : Cx} {tg e : Expr} {t u : TI} (h : PI X tg e t) (k : PI X tg e u) : PI X tg e (fun σ H Q => t σ H Q ∨ u σ H Q) := ⟨fun pins s σ H Q I q => q.elim (h.run pins s σ H Q I) (k.run pins s σ H Q I)⟩
/-- at a turn: the item as data, its value new or standing -/
def YD (R : RC) (F : Hp) (ds : List D) : Nat → Hp → V → Hp → Prop := fun i H x H' => ∃ d, ds[i]? = some d ∧ ((H' = H ∧ Rep R F d x) ∨ ∃ T vs es, x = .ref T ∧ H T = none ∧ H' = upd H T (.tup vs) ∧ d = .tup es ∧ Reps R F es vs)
def WalkD (R : RC) (J : It) (F : Hp) (ds : List D) : Prop := Walk J ds.length (fun H => Same F H) (YD R F ds)
def srcM (cl : Cl) (k : Sk) (src : List E) : M (List D) := fun ρ st => match evEs cl src ρ st with
  | none => none
  | some (ds, ρ1, st1) => match srcD k ds with | none => none | some xs => some (xs, ρ1, st1)
def tI (N : RN) (m : M (List D)) : TI := fun σ H Q => ∃ F ρ st, Gd N F H σ ρ st ∧ ∃ ds ρ' st', m ρ st = some (ds, ρ', st') ∧
  ∀ F' H' J, Go N.R F H F' H' → Gd N F' H' σ ρ' st' → WalkD N.R J F' ds → Q J H'

section
variable {N : RN} {X : Cx} {cl : Cl} {x : Str} {pos p : Pos} {tg a b c e : Expr} {es : List Expr} {ea eb ec ee : E} {ees : List E}
theorem src1 {k : Sk} {ρ ρ' : Env} {st st' : PSt} {ds : List D} (h : srcM cl k [ee] ρ st = some (ds, ρ', st')) : ∃ d, evE cl ee ρ st = some (d, ρ', st') ∧ srcD k [d] = some ds := by
  unfold srcM evEs evEs at h
  split at h
  · cases h
  rename_i dl ρ1 st1 e1
  split at h
  · cases h
  rename_i xs hx
  cases h
  split at e1
  · cases e1
  rename_i d ρ2 st2 e2
  cases e1
  exact ⟨d, e2, hx⟩
theorem i_seq (ok : XOk N.R X) (h : PE X e (tE N .val (evE cl ee))) : PI X tg e (tI N (srcM cl .seq [ee])) :=
  pi_of (pi_or (pi_list h) (pi_or (pi_tup h) (pi_str h))) fun σ H Q ⟨F, ρ, st, g, ds, ρ', st', em, q⟩ => by
    obtain ⟨d, h1, h2⟩ := src1 em
    have run : ∀ P : V → Hp → Prop, (∀ F1 H1 v, Go N.R F H F1 H1 → Gd N F1 H1 σ ρ' st' → Rep N.R F1 d v → P v H1) → tE N .val (evE cl ee) σ H P := fun P k => ⟨F, ρ, st, g, _, _, _, h1, fun F1 H1 v e1 g1 r1 => k F1 H1 v e1 g1 r1⟩
    cases d <;> simp only [srcD, reduceCtorEq, Option.some.injEq] at h2
    case lst xs =>
      subst h2
      refine .inl (run _ fun F1 H1 v e1 g1 r1 => ?_)
      simp only [Rep] at r1
      obtain ⟨c, vs, rfl, k1, k2⟩ := r1
      refine ⟨c, rfl, ⟨vs, SqL.of (g1.sub _ _ k1)⟩, q _ _ _ e1 g1 ?_⟩
      rw [ok.K]
      unfold WalkD
      rw [k2.length]
      exact walk_list.mono (fun H hs => SqL.of (hs _ _ k1)) fun i H x H' hi hs y => by
        obtain ⟨d, z1, z2⟩ := k2.get' y.2
        exact ⟨d, z1, .inl ⟨y.1, z2⟩⟩
    case tup xs =>
      subst h2
      refine .inr (.inl (run _ fun F1 H1 v e1 g1 r1 => ?_))
      simp only [Rep] at r1
      obtain ⟨c, vs, rfl, k1, k2⟩ := r1
      refine ⟨c, rfl, ⟨vs, by rw [ok.K]; exact SqT.mono g1.sub k1⟩, q _ _ _ e1 g1 ?_⟩
      rw [ok.K]
      unfold WalkD
      rw [k2.length]
      exact walk_tup.mono (fun H hs => SqT.mono hs k1) fun i H x H' hi hs y => by
        obtain ⟨d, z1, z2⟩ := k2.get' y.2
        exact ⟨d, z1, .inl ⟨y.1, z2⟩⟩
    case str l =>
      subst h2
      refine .inr (.inr (run _ fun F1 H1 v e1 g1 r1 => ?_))
      simp only [Rep] at r1
      refine ⟨tx l, r1, q _ _ _ e1 g1 ?_⟩
      unfold WalkD
      have hn : (l.map fun c => D.str [c]).length = (tx l).cps.size := by simp [tx]
      rw [hn]
      exact walk_str.mono (fun H _ => trivial) fun i H x H' hi hs ⟨y1, s, y2, y3⟩ => by
        refine ⟨.str [s], ?_, .inl ⟨y1, by simp [Rep, y3, tx]⟩⟩
        have : l[i]? = some s := by simpa [tx] using y2
        rw [List.getElem?_map, this]; rfl
theorem i_rng1 {e : Expr} (hg : Gl X "range") (hm : X.mg "range" = none) (h : PE X e (tE N .val (evE cl ee))) (hs : starEach [e] X.env = [(false, eval e X.env)]) (hs0 : starEach [e] X.env = (false, eval e X.env) :: starEach [] X.env) : PI X tg (.Call (.Name "range" p) [e] [] pos) (tI N (srcM cl .rng [ee])) :=
  pi_of (pi_range1 hg hm (pa_cons h pa_nil hs0) hs) fun σ H Q ⟨F, ρ, st, g, ds, ρ', st', em, q⟩ => by
    obtain ⟨d, h1, h2⟩ := src1 em
    refine ⟨F, ρ, st, g, _, _, _, h1, fun F1 H1 v e1 g1 r1 => ?_⟩
    cases d <;> simp only [srcD, reduceCtorEq, Option.ite_none_right_eq_some, Option.some.injEq] at h2
    rename_i n
    obtain ⟨⟨b1, b2⟩, rfl⟩ := h2
    have r1 : v = .int n := by simpa [Rep] using (show Rep N.R F1 (.int n) v from r1)
    refine ⟨n, by rw [r1], b1, b2, q _ _ _ e1 g1 ?_⟩
    unfold WalkD
    rw [List.length_map, List.length_range]
    exact walk_range.mono (fun H _ => trivial) fun i H x H' hi hs ⟨y1, y2⟩ => ⟨.int i, by rw [List.getElem?_map, List.getElem?_range hi]; rfl, .inl ⟨y1, by rw [y2]; simp [Rep]⟩⟩
theorem i_rng2 {e e2 : Expr} {ee2 : E} (hg : Gl X "range") (hm : X.mg "range" = none) (h : PE X e (tE N .val (evE cl ee))) (h2 : PE X e2 (tE N .val (evE cl ee2))) (hs0 : starEach [e2] X.env = (false, eval e2 X.env) :: starEach [] X.env) (hs00 : starEach [e, e2] X.env = (false, eval e X.env) :: starEach [e2] X.env)
    (hs : starEach [e, e2] X.env = [(false, eval e X.env), (false, eval e2 X.env)]) (hs2 : starEach [e2] X.env = [(false, eval e2 X.env)]) : PI X tg (.Call (.Name "range" p) [e, e2] [] pos) (tI N (srcM cl .rng [ee, ee2])) :=
  pi_of (pi_range2 hg hm (pa_cons h (pa_cons h2 pa_nil hs0) hs00) hs hs2) fun σ H Q ⟨F, ρ, st, g, ds, ρ', st', em, q⟩ => by
    unfold srcM evEs evEs evEs at em
    split at em
    · cases em
    rename_i dl ρ1 st1 e1
    split at em
    · cases em
    rename_i xs hx
    cases em
    split at e1
    · cases e1
    rename_i d ρ2 st2 h1
    split at e1
    · cases e1
    rename_i dl2 ρ3 st3 h3
    cases e1
    split at h3
    · cases h3
    rename_i d2 ρ4 st4 h4
    cases h3
    refine ⟨F, ρ, st, g, _, _, _, h1, fun F1 H1 v e1 g1 r1 => ⟨F1, _, _, g1, _, _, _, h4, fun F2 H2 u e2 g2 r2 => ?_⟩⟩
    cases d <;> simp only [srcD, reduceCtorEq] at hx
    cases d2 <;> simp only [reduceCtorEq, Option.ite_none_right_eq_some, Option.some.injEq] at hx
    rename_i n m
    obtain ⟨⟨b1, b2, b3, b4⟩, rfl⟩ := hx
    have r1 : v = .int n := by simpa [Rep] using (show Rep N.R F1 (.int n) v from r1)
    have r2 : u = .int m := by simpa [Rep] using (show Rep N.R F2 (.int m) u from r2)
    refine ⟨n, m, by rw [r1, r2], ⟨b1, b2, b3, b4⟩, q _ _ _ (e1.trans e2) g2 ?_⟩
    unfold WalkD
    rw [List.length_map, List.length_range]
    exact walk_range.mono (fun H _ => trivial) fun i H x H' hi hs ⟨y1, y2⟩ => ⟨.int (n + i), by rw [List.getElem?_map, List.getElem?_range hi]; rfl, .inl ⟨y1, by rw [y2]; simp [Rep]⟩⟩
theorem i_enum {e : Expr} {elts : List Expr} {kk : Nat} {tpos : Pos} (ok : XOk N.R X) (hg : Gl X "enumerate") (hm : X.mg "enumerate" = none) (h : PE X e (tE N .val (evE cl ee))) (hs : starEach [e] X.env = [(false, eval e X.env)]) (hs0 : starEach [e] X.env = (false, eval e X.env) :: starEach [] X.env) :
    PI X (.Tuple elts kk tpos) (.Call (.Name "enumerate" p) [e] [] pos) (tI N (srcM cl .enm [ee])) :=
  pi_of (pi_enum hg hm (pa_cons h pa_nil hs0) hs) fun σ H Q ⟨F, ρ, st, g, ds, ρ', st', em, q⟩ => by
    obtain ⟨d, h1, h2⟩ := src1 em
    refine ⟨F, ρ, st, g, _, _, _, h1, fun F1 H1 v e1 g1 r1 => ?_⟩
    cases d <;> simp only [srcD, reduceCtorEq, Option.some.injEq] at h2
    rename_i xs
    subst h2
    have r1 : Rep N.R F1 (.lst xs) v := r1
    simp only [Rep] at r1
    obtain ⟨c, vs, rfl, k1, k2⟩ := r1
    refine ⟨c, vs, rfl, SqL.of (g1.sub _ _ k1), q _ _ _ e1 g1 ?_⟩
    rw [ok.K]
    unfold WalkD
    rw [List.length_map, List.length_zipIdx, k2.length]
    exact walk_enum.mono (fun H hs => SqL.of (hs _ _ k1)) fun i H x H' hi hs ⟨T, y, z, w1, w2, w3, w4, w5⟩ => by
      cases w4
      obtain ⟨d, z1, z2⟩ := k2.get' w5
      refine ⟨.tup [.int i, d], ?_, .inr ⟨T, [.int i, z], [.int i, d], w1, w2, w3, rfl, ?_⟩⟩
      · rw [List.getElem?_map, List.getElem?_zipIdx, z1]; simp
      · exact Reps.cons (by simp [Rep]) (Reps.one z2)

/-! ### targets -/
def tgIs : Tg → List Nat
  | .nm i => [i]
  | .tp is => is
theorem Gd.set {F H : Hp} {σ : SS} {ρ : Env} {st : PSt} (g : Gd N F H σ ρ st) (i : Nat) {d : D} {v : V} (r : Rep N.R F d v) : Gd N F H (σ.set i (some v)) (ρ.set i (some (false, d))) st := by
  have gr : ∀ (j : Nat) (e : D), (ρ.set i (some (false, d)))[j]? = some (some (true, e)) → i ≠ j ∧ ρ[j]? = some (some (true, e)) := fun j e h => by
    by_cases q : i = j
    · subst q
      by_cases hi : i < ρ.length
      · rw [List.getElem?_set_self hi] at h; cases h
      · rw [List.getElem?_eq_none (by simpa using hi)] at h; cases h
    · rw [List.getElem?_set_ne q] at h; exact ⟨q, h⟩
  have gs : ∀ (j : Nat) (a : Addr), i ≠ j → (σ.set i (some v))[j]? = some (some (V.ref a)) → σ[j]? = some (some (V.ref a)) := fun j a q h => by
    rw [List.getElem?_set_ne q] at h; exact h
  refine ⟨⟨g.sub, g.st, by simp [g.len], fun j s x h1 h2 => ?_, fun j k e e' a n h1 h2 h3 h4 => g.apart j k e e' a n (gr _ _ h1).2 (gr _ _ h2).2 (gs _ _ (gr _ _ h1).1 h3) (gs _ _ (gr _ _ h2).1 h4)⟩, g.ent, fun j e a h1 h2 => g.new j e a (gr _ _ h1).2 (gs _ _ (gr _ _ h1).1 h2), fun a ha => ?_, fun j e a h1 h2 => g.self j e a (gr _ _ h1).2 (gs _ _ (gr _ _ h1).1 h2)⟩
  · by_cases q : i = j
    · subst q
      by_cases hi : i < ρ.length
      · rw [List.getElem?_set_self hi] at h1; cases h1
        rw [List.getElem?_set_self (by rw [← g.len]; exact hi)] at h2; cases h2
        exact ⟨v, rfl, r⟩
      · rw [List.getElem?_eq_none (by simpa using hi)] at h1; cases h1
    · rw [List.getElem?_set_ne q] at h1 h2
      exact g.slot j s x h1 h2
  · obtain ⟨h1, h2, h3, h4⟩ := g.rsv a ha
    exact ⟨h1, h2, h3, fun j e z1 z2 => h4 j e (gr _ _ z1).2 (gs _ _ (gr _ _ z1).1 z2)⟩
theorem wipe_set {σ : SS} {i : Nat} {v : Option V} : ∀ {own : List Nat}, i ∈ own → wipe (σ.set i v) own = wipe σ own
  | j :: js, h => by
    unfold wipe
    by_cases q : i ∈ js
    · rw [wipe_set q]
    · have : i = j := by simpa [q] using h
      subst this
      have aux : ∀ (js : List Nat) (τ : SS), i ∉ js → wipe (τ.set i v) js = (wipe τ js).set i v := by
        intro js
        induction js with
        | nil => intro τ _; rfl
        | cons k ks ih =>
          intro τ hk
          unfold wipe
          rw [ih τ (by simp at hk; exact hk.2), List.set_comm _ _ (by simp at hk; exact hk.1)]
      rw [aux js σ q, List.set_set]
def gNms : List Nat → TGs
  | [] => gNil
  | i :: is => gCons (gName i) (gNms is)
def gOf (R : RC) : Tg → TG
  | .nm i => gName i
  | .tp is => gTup R.K is.length (gNms is)
theorem nms_ok : ∀ {is : List Nat} {ds : List D} {vs : List V} {F H : Hp} {σ : SS} {ρ : Env} {st : PSt} {ρ' : Env} {Q : SS → Hp → Prop}, Gd N F H σ ρ st → Reps N.R F ds vs → setAll is ds ρ = some ρ' →
    (∀ σ', Gd N F H σ' ρ' st → (∀ own, (∀ i ∈ is, i ∈ own) → wipe σ' own = wipe σ own) → Q σ' H) → gNms is vs σ H Q
  | [], ds, vs, F, H, σ, ρ, st, ρ', Q, g, r, e, k => by
      cases ds with
      | nil => simp only [setAll, Option.some.injEq] at e; subst e; simp only [Reps] at r; exact ⟨r, k σ g fun _ _ => rfl⟩
      | cons => simp [setAll] at e
  | i :: is, ds, vs, F, H, σ, ρ, st, ρ', Q, g, rr, e, k => by
    cases ds with
    | nil => simp [setAll] at e
    | cons d ds =>
      simp only [setAll] at e
      simp only [Reps] at rr
      obtain ⟨v, us, rfl, r1, r2⟩ := rr
      refine ⟨v, us, rfl, nms_ok (g.set i r1) r2 e fun σ' g' w => k σ' g' fun own ho => ?_⟩
      rw [w own fun j hj => ho j (List.mem_cons_of_mem _ hj)]
      exact wipe_set (ho i (by simp))
/-- a target's storing is the slots' -/
theorem tg_ok {t : Tg} {d : D} {v : V} {F H : Hp} {σ : SS} {ρ : Env} {st : PSt} {ρ' : Env} {Q : SS → Hp → Prop} (g : Gd N F H σ ρ st) (r : Rep N.R F d v) (e : bindD t d ρ = some ρ')
    (k : ∀ σ', Gd N F H σ' ρ' st → (∀ own, (∀ i ∈ tgIs t, i ∈ own) → wipe σ' own = wipe σ own) → Q σ' H) : gOf N.R t v σ H Q := by
  cases t with
  | nm i =>
    cases e
    exact k _ (g.set i r) fun own h => wipe_set (h i (by simp [tgIs]))
  | tp is =>
    cases d <;> simp only [bindD, reduceCtorEq, Option.ite_none_right_eq_some] at e
    rename_i ds
    obtain ⟨hl, e⟩ := e
    simp only [Rep] at r
    obtain ⟨c, vs, rfl, k1, k2⟩ := r
    exact ⟨c, vs, rfl, SqT.mono g.sub k1, by rw [← k2.length]; exact hl, nms_ok g k2 e k⟩
/-- the state when a comprehension's own names are forgotten -/
theorem Gd.wipe1 {F H : Hp} {σ : SS} {ρ : Env} {st : PSt} (g : Gd N F H σ ρ st) (i : Nat) : Gd N F H (σ.set i none) (ρ.set i none) st := by
  have gr : ∀ (j : Nat) (e : D), (ρ.set i none)[j]? = some (some (true, e)) → i ≠ j ∧ ρ[j]? = some (some (true, e)) := fun j e h => by
    by_cases q : i = j
    · subst q
      by_cases hi : i < ρ.length
      · rw [List.getElem?_set_self hi] at h; cases h
      · rw [List.getElem?_eq_none (by simpa using hi)] at h; cases h
    · rw [List.getElem?_set_ne q] at h; exact ⟨q, h⟩
  have gs : ∀ (j : Nat) (a : Addr), i ≠ j → (σ.set i none)[j]? = some (some (V.ref a)) → σ[j]? = some (some (V.ref a)) := fun j a q h => by
    rw [List.getElem?_set_ne q] at h; exact h
  refine ⟨⟨g.sub, g.st, by simp [g.len], fun j s x h1 h2 => ?_, fun j k e e' a n h1 h2 h3 h4 => g.apart j k e e' a n (gr _ _ h1).2 (gr _ _ h2).2 (gs _ _ (gr _ _ h1).1 h3) (gs _ _ (gr _ _ h2).1 h4)⟩, g.ent, fun j e a h1 h2 => g.new j e a (gr _ _ h1).2 (gs _ _ (gr _ _ h1).1 h2), fun a ha => ?_, fun j e a h1 h2 => g.self j e a (gr _ _ h1).2 (gs _ _ (gr _ _ h1).1 h2)⟩
  · by_cases q : i = j
    · subst q
      by_cases hi : i < ρ.length
      · rw [List.getElem?_set_self hi] at h1; cases h1; trivial
      · rw [List.getElem?_eq_none (by simpa using hi)] at h1; cases h1
    · rw [List.getElem?_set_ne q] at h1 h2
      exact g.slot j s x h1 h2
  · obtain ⟨h1, h2, h3, h4⟩ := g.rsv a ha
    exact ⟨h1, h2, h3, fun j e z1 z2 => h4 j e (gr _ _ z1).2 (gs _ _ (gr _ _ z1).1 z2)⟩
theorem Gd.wipe {F H : Hp} {σ : SS} {ρ : Env} {st : PSt} (g : Gd N F H σ ρ st) : ∀ own : List Nat, Gd N F H (L2.wipe σ own) (wipeE ρ own) st
  | [] => g
  | i :: is => (Gd.wipe g is).wipe1 i
end

/-! ### comprehensions -/
theorem pe_ex {α : Type} {X : Cx} {e : Expr} {t : α → TE} (h : ∀ a, PE X e (t a)) : PE X e (fun σ H Q => ∃ a, t a σ H Q) := ⟨fun pins s σ H Q I ⟨a, q⟩ => (h a).run pins s σ H Q I q⟩
theorem pts_ex {α : Type} {X : Cx} {e : List Expr} {t : α → TT} (h : ∀ a, PTs X e (t a)) : PTs X e (fun σ H Q => ∃ a, t a σ H Q) := ⟨fun pins s σ H Q I ⟨a, q⟩ => (h a).run pins s σ H Q I q⟩
theorem pts_of {X : Cx} {e : List Expr} {t t' : TT} (h : PTs X e t) (k : ∀ σ H Q, t' σ H Q → t σ H Q) : PTs X e t' := ⟨fun pins s σ H Q I q => h.run pins s σ H Q I (k _ _ _ q)⟩
abbrev RN.rz (N : RN) (rs : Addr → Prop) : RN := { N with rs := rs }
/-- one turn of a comprehension -/
def lcTurn (cl : Cl) (own : List Nat) (tg : Tg) (c : Option E) (el : E) : D → Env → PSt → Option (Option D × Env × PSt) := fun x ρ st => match bindD tg x ρ with
  | none => none
  | some ρ1 => match evO' cl c ρ1 st with
    | some (.bl true, ρ2, st2) => match evE cl el ρ2 st2 with
      | none => none
      | some (y, ρ3, st3) => some (some y, wipeE ρ3 own, st3)
    | some (.bl false, ρ2, st2) => some (none, wipeE ρ2 own, st2)
    | _ => none
theorem lcLoop_drop {f : D → Env → PSt → Option (Option D × Env × PSt)} {xs : List D} {i : Nat} {d : D} {ρ ρ' : Env} {st st' : PSt} {r : List D} (hd : xs[i]? = some d) (h : lcLoop f (xs.drop i) ρ st = some (r, ρ', st')) :
    ∃ o ρ1 st1 r', f d ρ st = some (o, ρ1, st1) ∧ lcLoop f (xs.drop (i + 1)) ρ1 st1 = some (r', ρ', st') ∧ r = (match o with | some y => y :: r' | none => r') := by
  have hi : i < xs.length := (List.getElem?_eq_some_iff.mp hd).1
  rw [List.drop_eq_getElem_cons hi] at h
  have hx : xs[i] = d := by rw [List.getElem?_eq_getElem hi] at hd; exact Option.some.inj hd
  rw [hx] at h
  unfold lcLoop at h
  split at h
  · cases h
  rename_i o ρ1 st1 e1
  split at h
  · cases h
  rename_i rs ρ2 st2 e2
  cases h
  exact ⟨o, ρ1, st1, rs, e1, e2, rfl⟩

section
variable {N : RN} {X : Cx} {cl : Cl} {pos : Pos} {tg iter elt : Expr} {ifs : List Expr} {scope : Scope} {own : List (Str × Nat)} {tgd : Tg} {k : Sk} {src : List E} {c : Option E} {el : E}
theorem wipe_get {σ : SS} : ∀ {own : List Nat} {j : Nat}, (L2.wipe σ own)[j]? = if j ∈ own ∧ j < σ.length then some none else σ[j]?
  | [], j => by simp [L2.wipe]
  | i :: is, j => by
    unfold L2.wipe
    by_cases q : i = j
    · subst q
      by_cases hi : i < σ.length
      · rw [List.getElem?_set_self (by rw [wipe_length]; exact hi), if_pos ⟨by simp, hi⟩]
      · rw [if_neg (fun z => hi z.2), List.getElem?_eq_none (by simp [wipe_length]; omega), List.getElem?_eq_none (by omega)]
    · rw [List.getElem?_set_ne q, wipe_get]
      have : (j ∈ i :: is) = (j ∈ is) := by simp [Ne.symm q]
      simp only [this]
theorem wipeE_len {ρ : Env} : ∀ {own : List Nat}, (wipeE ρ own).length = ρ.length
  | [] => rfl
  | i :: is => by unfold wipeE; rw [List.length_set, wipeE_len]
theorem backE_len {ρ ρ' : Env} : ∀ {own : List Nat}, (backE ρ ρ' own).length = ρ'.length
  | [] => rfl
  | i :: is => by unfold backE; rw [List.length_set, backE_len]
theorem backE_get {ρ ρ' : Env} (hl : ρ.length = ρ'.length) : ∀ {own : List Nat} {j : Nat}, (backE ρ ρ' own)[j]? = if j ∈ own then ρ[j]? else ρ'[j]?
  | [], j => by simp [backE]
  | i :: is, j => by
    unfold backE
    by_cases q : i = j
    · subst q
      rw [if_pos (by simp)]
      by_cases hi : i < ρ'.length
      · rw [List.getElem?_set_self (by rw [backE_len]; exact hi), List.getElem?_eq_getElem (by omega)]; rfl
      · rw [List.getElem?_eq_none (by simp [backE_len]; omega), List.getElem?_eq_none (by omega)]
    · rw [List.getElem?_set_ne q, backE_get hl]
      have : (j ∈ i :: is) = (j ∈ is) := by simp [Ne.symm q]
      simp only [this]
theorem wipe_wipe {σ : SS} {own : List Nat} : L2.wipe (L2.wipe σ own) own = L2.wipe σ own := by
  apply List.ext_getElem?
  intro j
  rw [wipe_get, wipe_length]
  split
  · rename_i h; rw [wipe_get, if_pos h]
  · rfl
/-- a reserved place is written -/
theorem Gd.wr {F H : Hp} {σ : SS} {ρ : Env} {st : PSt} (g : Gd N F H σ ρ st) {a : Addr} {o : HO} (ha : N.rs a) : Gd N F (upd H a o) σ ρ st := by
  obtain ⟨h1, ⟨o', h2⟩, ⟨h3, h4⟩, h5⟩ := g.rsv a ha
  refine ⟨⟨fun b u h => ?_, ?_, g.len, fun i s x e1 e2 => ?_, g.apart⟩, ⟨g.ent.fz, fun b u h => ?_, g.ent.un⟩, g.new, fun b hb => ?_, g.self⟩
  · rw [upd_ne (fun z => by rw [z, h1] at h; cases h)]; exact g.sub _ _ h
  · refine g.st.keep (Same.refl _) fun b hb => ?_
    have n : b ≠ a := fun z => h3 (z ▸ hb)
    rw [upd_ne n]
    exact ⟨rfl, rfl⟩
  · have k := g.slot i s x e1 e2
    rcases s with _ | ⟨b, d⟩
    · trivial
    · cases b with
      | false => exact k
      | true =>
        obtain ⟨c, z1, z2, z3, z4⟩ := k
        have : c ≠ a := fun z => h5 i d e1 (by rw [e2, z1, z])
        exact ⟨c, z1, z2, z3, z4.mono (Same.refl _) fun u q => by rw [upd_ne this]; exact q⟩
  · rcases g.ent.kp b u h with z | z
    · exact .inl z
    · exact .inr (by rw [upd_ne (fun y => by rw [y, h4] at h; cases h)]; exact z)
  · obtain ⟨y1, ⟨u, y2⟩, y3, y4⟩ := g.rsv b hb
    refine ⟨y1, ?_, y3, y4⟩
    by_cases q : b = a
    · subst q; exact ⟨o, upd_same⟩
    · exact ⟨u, by rw [upd_ne q]; exact y2⟩
/-- what a comprehension's block may not touch: the new list, the hidden slots' own objects -/
def hidden (N : RN) (σ : SS) (ρ : Env) (own : List Nat) (A : Addr) : Addr → Prop := fun a => N.rs a ∨ a = A ∨ ∃ (i : Nat) (d : D), i ∈ own ∧ ρ[i]? = some (some (true, d)) ∧ σ[i]? = some (some (V.ref a))
theorem wipeE_get {ρ : Env} : ∀ {own : List Nat} {j : Nat} {s : Bool × D}, (wipeE ρ own)[j]? = some (some s) → j ∉ own ∧ ρ[j]? = some (some s)
  | [], j, s, h => ⟨by simp, h⟩
  | i :: is, j, s, h => by
    unfold wipeE at h
    by_cases q : i = j
    · subst q
      by_cases hi : i < (wipeE ρ is).length
      · rw [List.getElem?_set_self hi] at h; cases h
      · rw [List.getElem?_eq_none (by simp; omega)] at h; cases h
    · rw [List.getElem?_set_ne q] at h
      obtain ⟨h1, h2⟩ := wipeE_get h
      exact ⟨by simp [Ne.symm q, h1], h2⟩
/-- the block begins -/
theorem Gd.blk {F H : Hp} {σ : SS} {ρ : Env} {st : PSt} (g : Gd N F H σ ρ st) {A : Addr} (hA : H A = none) (own : List Nat) : Gd (N.rz (hidden N σ ρ own A)) F (upd H A (.lst [])) (L2.wipe σ own) (wipeE ρ own) st := by
  obtain ⟨e, g1⟩ := g.laidOwn (o := .lst []) hA
  have g2 := g1.wipe own
  obtain ⟨nb, no⟩ := g.toGood.noown hA
  refine ⟨g2.toGood, g2.ent, g2.new, fun a ha => ?_, g2.self⟩
  rcases ha with ha | rfl | ⟨i, d, hi, h1, h2⟩
  · exact g2.rsv a ha
  · refine ⟨g.sub.free hA, ⟨_, upd_same⟩, ⟨nb, g.new0 hA⟩, fun i d z1 z2 => ?_⟩
    obtain ⟨k1, k2⟩ := wipeE_get z1
    rw [wipe_get] at z2
    split at z2
    · cases z2
    · exact no i d k2 z2
  · obtain ⟨c, z1, z2, z3, z4⟩ := g.slot i _ _ h1 h2
    cases z1
    obtain ⟨o, z5⟩ := z4.there
    refine ⟨z2, ⟨o, by rw [upd_ne (ne_of_none z5 hA)]; exact z5⟩, ⟨z3, g.new i d a h1 h2⟩, fun j e w1 w2 => ?_⟩
    obtain ⟨k1, k2⟩ := wipeE_get w1
    rw [wipe_get] at w2
    split at w2
    · cases w2
    · exact g.apart i j d e a (fun z => k1 (z ▸ hi)) h1 k2 h2 w2
/-- the block ends -/
theorem Gd.unblk {F H F' H' : Hp} {σ : SS} {ρ ρ' : Env} {st st' : PSt} (g : Gd N F H σ ρ st) {A : Addr} (hA : H A = none) {own : List Nat} (k : Gd (N.rz (hidden N σ ρ own A)) F' H' (L2.wipe σ own) ρ' st') (e : Go N.R F H F' H') :
    Gd N F' H' σ (backE ρ ρ' own) st' ∧ NoOwn σ (backE ρ ρ' own) A := by
  have hl : ρ.length = ρ'.length := by rw [g.len, k.len, wipe_length]
  have get : ∀ {j : Nat} {s : Slot}, (backE ρ ρ' own)[j]? = some s → (j ∈ own ∧ ρ[j]? = some s) ∨ (j ∉ own ∧ ρ'[j]? = some s) := fun {j s} h => by
    rw [backE_get hl] at h
    split at h
    · exact .inl ⟨by assumption, h⟩
    · exact .inr ⟨by assumption, h⟩
  have out : ∀ {j : Nat} {x : Option V}, j ∉ own → σ[j]? = some x → (L2.wipe σ own)[j]? = some x := fun {j x} h h2 => by rw [wipe_get, if_neg (fun z => h z.1)]; exact h2
  obtain ⟨nb, no⟩ := g.toGood.noown hA
  refine ⟨⟨⟨k.sub, k.st, by rw [backE_len, ← hl, g.len], fun i s x h1 h2 => ?_, fun i j d d' a n h1 h2 h3 h4 => ?_⟩, k.ent, fun i d a h1 h2 => ?_, fun a ha => ?_, fun i d a h1 h2 h3 => ?_⟩, fun i d h1 h2 => ?_⟩
  · rcases get h1 with ⟨q, h1⟩ | ⟨q, h1⟩
    · have z := g.slot i s x h1 h2
      rcases s with _ | ⟨b, d⟩
      · trivial
      · cases b with
        | false => obtain ⟨v, z1, z2⟩ := z; exact ⟨v, z1, Rep.mono e.fz _ _ z2⟩
        | true =>
          obtain ⟨a, rfl, z2, z3, z4⟩ := z
          refine ⟨a, rfl, (k.rsv a (.inr (.inr ⟨i, d, q, h1, h2⟩))).1, z3, z4.mono e.fz fun o w => ?_⟩
          rcases e.kp a o w with y | y
          · exact absurd y z3
          · exact y
    · exact k.slot i s x h1 (out q h2)
  · rcases get h1 with ⟨q1, h1⟩ | ⟨q1, h1⟩ <;> rcases get h2 with ⟨q2, h2⟩ | ⟨q2, h2⟩
    · exact g.apart i j d d' a n h1 h2 h3 h4
    · exact (k.rsv a (.inr (.inr ⟨i, d, q1, h1, h3⟩))).2.2.2 j d' h2 (out q2 h4)
    · exact (k.rsv a (.inr (.inr ⟨j, d', q2, h2, h4⟩))).2.2.2 i d h1 (out q1 h3)
    · exact k.apart i j d d' a n h1 h2 (out q1 h3) (out q2 h4)
  · rcases get h1 with ⟨q, h1⟩ | ⟨q, h1⟩
    · exact g.new i d a h1 h2
    · exact k.new i d a h1 (out q h2)
  · obtain ⟨y1, y2, y3, y4⟩ := k.rsv a (.inl ha)
    refine ⟨y1, y2, y3, fun i d h1 h2 => ?_⟩
    rcases get h1 with ⟨q, h1⟩ | ⟨q, h1⟩
    · exact (g.rsv a ha).2.2.2 i d h1 h2
    · exact y4 i d h1 (out q h2)
  · rcases get h1 with ⟨q, h1⟩ | ⟨q, h1⟩
    · exact g.self i d a h1 h2 h3
    · exact k.self i d a h1 (out q h2) h3
  · rcases get h1 with ⟨q, h1⟩ | ⟨q, h1⟩
    · exact no i d h1 h2
    · exact (k.rsv A (.inr (.inl rfl))).2.2.2 i d h1 (out q h2)
abbrev ttOf (N : RN) (cl : Cl) (c : Option E) : TT := fun σ H Q => ∃ a, tT (N.rz a) (evO' cl c) σ H Q
abbrev teOf (N : RN) (cl : Cl) (el : E) : TE := fun σ H Q => ∃ a, tE (N.rz a) .val (evE cl el) σ H Q
theorem lc_imp {vs : List Nat} (hsub : ∀ i ∈ tgIs tgd, i ∈ vs) {σ : SS} {H : Hp} {Q : VK} (h : tE N .own (evE cl (.lc vs tgd k src c el)) σ H Q) :
    tLc (tI N (srcM cl k src)) (gOf N.R tgd) (ttOf N cl c) (teOf N cl el) vs σ H Q := by
    obtain ⟨F, ρ, st, g, d, ρ', st', em, q⟩ := h
    unfold evE at em
    split at em
    · cases em
    rename_i ds ρ1 st1 h1
    split at em
    · cases em
    rename_i xs h2
    split at em
    · cases em
    rename_i ys ρ2 st2 h3
    simp only [Option.ite_none_right_eq_some, Option.some.injEq, Prod.mk.injEq] at em
    obtain ⟨hlen, rfl, rfl, rfl⟩ := em
    have h3' : lcLoop (lcTurn cl vs tgd c el) xs (wipeE ρ1 vs) st1 = some (ys, ρ2, st2) := h3
    refine ⟨F, ρ, st, g, xs, ρ1, st1, by unfold srcM; rw [h1]; dsimp only; rw [h2], fun F1 H1 J e1 g1 w => fun A hA => ?_⟩
    have hAr : (N.rz (hidden N σ ρ1 vs A)).rs A := .inr (.inl rfl)
    obtain ⟨nbA, _⟩ := g1.toGood.noown hA
    refine lc_it w (H1 := H1) (D := A) (σ := σ) (vs := vs) (g := gOf N.R tgd) (tt := ttOf N cl c) (te := teOf N cl el) (Qd := fun H => Q (.ref A) H) (fun i H => ∃ F' ρ' st' acc ys' r, Gd (N.rz (hidden N σ ρ1 vs A)) F' H (L2.wipe σ vs) ρ' st' ∧ Go N.R F1 H1 F' H ∧ H A = some (.lst acc) ∧ Reps N.R F' ys' acc ∧
      lcLoop (lcTurn cl vs tgd c el) (xs.drop i) ρ' st' = some (r, ρ2, st2) ∧ ys = ys' ++ r) ?_ ?_ ?_ ?_
    · exact ⟨F1, _, _, [], [], ys, g1.blk hA _, ⟨Same.refl _, fun b o h => .inr (by rw [upd_ne (ne_of_none h hA)]; exact h)⟩, upd_same, Reps.nil, h3', rfl⟩
    · rintro i H _ ⟨F', ρ', st', acc, ys', r, k1, k2, _⟩
      exact fun b o h => k1.sub b o (k2.fz b o h)
    · rintro i x H H' hi ⟨F', ρ', st', acc, ys', r, k1, k2, k3, k4, k5, k6⟩ ⟨dd, hd, hy⟩
      obtain ⟨o, ρa, sta, r', t1, t2, t3⟩ := lcLoop_drop hd k5
      -- the item, as data
      have item : ∃ F2, Go N.R F' H F2 H' ∧ Gd (N.rz (hidden N σ ρ1 vs A)) F2 H' (L2.wipe σ vs) ρ' st' ∧ Rep N.R F2 dd x := by
        rcases hy with ⟨rfl, hr⟩ | ⟨T, vs, es, rfl, hT, rfl, rfl, hr⟩
        · exact ⟨F', Go.refl _ _ _, k1, Rep.mono k2.fz _ _ hr⟩
        · obtain ⟨z1, z2⟩ := k1.laid (o := .tup vs) hT
          refine ⟨_, z1, z2, ?_⟩
          simp only [Rep]
          exact ⟨T, vs, rfl, SqT.of upd_same, Reps.mono (k2.fz.trans z1.fz) _ _ hr⟩
      obtain ⟨F2, m1, m2, m3⟩ := item
      unfold lcTurn at t1
      split at t1
      · cases t1
      rename_i ρb eb
      refine tg_ok (N := N.rz (hidden N σ ρ1 vs A)) m2 m3 eb fun σ2 m4 m5 => ⟨?_, ?_⟩
      · rw [m5 _ hsub, wipe_wipe]
      have wσ : L2.wipe σ2 vs = L2.wipe σ vs := by rw [m5 _ hsub, wipe_wipe]
      split at t1
      · -- kept
        rename_i ρc stc ec
        split at t1
        · cases t1
        rename_i yv ρd std ed
        cases t1
        refine ⟨hidden N σ ρ1 vs A, F2, ρb, st', m4, true, ρc, stc, ec, fun F3 H3 e3 g3 => iteT ⟨hidden N σ ρ1 vs A, F3, ρc, stc, g3, _, _, _, ed, fun F4 H4 v e4 g4 r4 => ?_⟩⟩
        have go : Go N.R F1 H1 F4 H4 := ((k2.trans m1).trans e3).trans e4
        have hA4 : H4 A = some (.lst acc) := by
          rcases (m1.trans (e3.trans e4)).kp A _ k3 with z | z
          · exact absurd z nbA
          · exact z
        refine ⟨acc, hA4, ?_, F4, _, _, acc ++ [v], ys' ++ [yv], r', ?_, ?_, upd_same, ?_, t2, ?_⟩
        · rw [← k4.length, line_lim]
          have : ys.length = ys'.length + r.length := by rw [k6, List.length_append]
          rw [t3, List.length_cons] at this
          omega
        · have := (g4.wr (o := .lst (acc ++ [v])) hAr).wipe vs
          rw [wσ] at this
          exact this
        · exact ⟨go.fz, fun b u h => (go.kp b u h).imp_right fun z => by rw [upd_ne (ne_of_none h hA)]; exact z⟩
        · exact (Reps.mono ((m1.trans e3).trans e4).fz _ _ k4).append (Reps.one r4)
        · rw [k6, t3]; simp
      · -- left out
        rename_i ρc stc ec
        cases t1
        refine ⟨hidden N σ ρ1 vs A, F2, ρb, st', m4, false, ρc, _, ec, fun F3 H3 e3 g3 => iteF ?_⟩
        have go : Go N.R F1 H1 F3 H3 := (k2.trans m1).trans e3
        refine ⟨F3, _, _, acc, ys', r', ?_, go, ?_, Reps.mono (m1.trans e3).fz _ _ k4, t2, by rw [k6, t3]⟩
        · have := g3.wipe vs
          rw [wσ] at this
          exact this
        · rcases (m1.trans e3).kp A _ k3 with z | z
          · exact absurd z nbA
          · exact z
      · cases t1
    · rintro H ⟨F', ρ', st', acc, ys', r, k1, k2, k3, k4, k5, k6⟩
      rw [List.drop_length] at k5
      unfold lcLoop at k5
      cases k5
      rw [List.append_nil] at k6
      subst k6
      obtain ⟨z1, z2⟩ := g1.unblk hA k1 k2
      refine q _ _ _ (e1.trans k2) z1 ⟨A, rfl, g1.new0 hA, (k1.rsv A hAr).1, nbA, g1.nors hA, z2, rfl, acc, k3, k4⟩
theorem e_lc (ok : XOk N.R X) (hi : PI X tg iter (tI N (srcM cl k src))) (blk : BlkOk X.N X.env.scope scope own) (hsub : ∀ i ∈ tgIs tgd, i ∈ own.map (·.2))
    (hg : ∀ (s : Shared) (H : Hp) (C : Addr) (cs : List (Str × Addr)) (fp : List Addr), PG (X.blk s H scope (compEnvC scope cs C X.env) fp) tg (gOf N.R tgd))
    (ht : ∀ (s : Shared) (H : Hp) (C : Addr) (cs : List (Str × Addr)) (fp : List Addr) (rs : Addr → Prop), PTs (X.blk s H scope (compEnvC scope cs C X.env) fp) ifs (tT (N.rz rs) (evO' cl c)))
    (he : ∀ (s : Shared) (H : Hp) (C : Addr) (cs : List (Str × Addr)) (fp : List Addr) (rs : Addr → Prop), PE (X.blk s H scope (compEnvC scope cs C X.env) fp) elt (tE (N.rz rs) .val (evE cl el))) (hs : ∀ x, foldedSetIterable iter X.env x = pure x) :
    PE X (.ListComp elt [⟨tg, iter, ifs, 0⟩] scope pos) (tE N .own (evE cl (.lc (own.map (·.2)) tgd k src c el))) :=
  pe_of (pe_lc ok.calm ok.nd hi blk hg (fun s H C cs fp => pts_ex (ht s H C cs fp)) (fun s H C cs fp => pe_ex (he s H C cs fp)) hs) fun σ H Q h => lc_imp hsub h
end
end Ev
/-! Ev11 -/
/-! Ev11: fields, calls of defs and methods, what a def promises. -/
namespace Ev
open PySem PySem.Spec PyProof.Rows L2

theorem nm_list (s : String) : (nm s).cps.toList = s.toList.map Char.toNat := by
  unfold nm Str.ofString
  rw [List.toList_toArray, cpsOfBytes_string]
theorem nm_inj {a b : String} (h : nm a = nm b) : a = b := by
  have e : a.toList.map Char.toNat = b.toList.map Char.toNat := by rw [← nm_list, ← nm_list, h]
  have : a.toList = b.toList := by
    have inj : ∀ l m : List Char, l.map Char.toNat = m.map Char.toNat → l = m := by
      intro l
      induction l with
      | nil => intro m h; cases m <;> simp at h; rfl
      | cons c l ih =>
        intro m h
        cases m with
        | nil => simp at h
        | cons d m =>
          simp only [List.map_cons, List.cons.injEq] at h
          rw [ih m h.2, show c = d from Char.ext (UInt32.toNat_inj.mp h.1)]
    exact inj _ _ e
  exact String.ext this
theorem look_zip {R : RC} {F : Hp} {f : String} : ∀ {fs : List String} {ds : List D} {vs : List V} {j : Nat}, fs.length = vs.length → Reps R F ds vs → fs.idxOf? f = some j → ∃ v, ((fs.map nm).zip vs).lookup (nm f) = some v ∧ vs[j]? = some v
  | [], _, _, _, _, _, e => by simp at e
  | c :: cs, ds, vs, j, hl, h, e => by
    cases vs with
    | nil => cases hl
    | cons v vs =>
      simp only [List.map_cons, List.zip_cons_cons, List.lookup_cons]
      rw [List.idxOf?_cons] at e
      by_cases q : c = f
      · subst q
        simp at e; subst e
        exact ⟨v, by simp, rfl⟩
      · rw [if_neg (by simpa using q)] at e
        simp only [Option.map_eq_some_iff] at e
        obtain ⟨j', e', rfl⟩ := e
        cases ds with
        | nil => simp [Reps] at h
        | cons d ds =>
          simp only [Reps] at h
          obtain ⟨x, xs, e2, _, h3⟩ := h
          cases e2
          obtain ⟨v', h4, h5⟩ := look_zip (by simpa using hl) h3 e'
          refine ⟨v', ?_, by simpa using h5⟩
          have : (nm f == nm c) = false := by
            rw [beq_eq_false_iff_ne]
            exact fun z => q (nm_inj z).symm
          rw [this]; exact h4
theorem look_no {f : String} : ∀ {fs : List String} {vs : List V}, f ∉ fs → ((fs.map nm).zip vs).lookup (nm f) = none
  | [], _, _ => by simp
  | c :: cs, [], _ => by simp
  | c :: cs, v :: vs, h => by
    simp only [List.map_cons, List.zip_cons_cons, List.lookup_cons]
    have : (nm f == nm c) = false := by
      rw [beq_eq_false_iff_ne]
      exact fun z => h (by rw [nm_inj z]; simp)
    rw [this]
    exact look_no (fun z => h (List.mem_cons_of_mem _ z))

/-- a def's promise by a function over data -/
def spV (R : RC) (f : List D → PSt → Option (D × PSt)) (n : Nat) : Sp := fun vs H Q _ => vs.length = n ∧ ∃ F ds st, Same F H ∧ StOk R F H st ∧ Reps R F ds vs ∧ ∃ d st', f ds st = some (d, st') ∧
  ∀ F' H' v, Ext R F H F' H' → Same F' H' → StOk R F' H' st' → Rep R F' d v → Q v H'
/-- a def that may be called here -/
structure Fc (R : RC) (X : Cx) (x : Str) (f : List D → PSt → Option (D × PSt)) : Prop where
  ex : ∃ (CX : CXT) (k : Nat) (a : Addr) (fd : FuncData) (ps : List Str) (E : XK), FnOk X.prog X.w X.K X.mg X.base CX k a fd ps (spV R f ps.length) ∧ Room k X.A ∧ X.mg x = some (.ref a) ∧ PySem.W.keepIn X.K (.ref a) = true ∧ Binds X.K fd ps [] ∧ Passes CX X E
/-- a method that may be called here -/
structure Mc (R : RC) (X : Cx) (C : String) (m : Str) (f : List D → PSt → Option (D × PSt)) : Prop where
  ex : ∃ (CX : CXT) (k : Nat) (c a : Addr) (fd : FuncData) (ps : List Str) (E : XK), R.mg (nm C) = some (.ref c) ∧ Cls X.K c ∧ Meth X.K c m a ∧ FnOk X.prog X.w X.K X.mg X.base CX k a fd ps (spV R f ps.length) ∧ Room k X.A ∧ Binds X.K fd ps [] ∧ Passes CX X E

section
variable {N : RN} {X : Cx} {cl : Cl} {x : Str} {pos p apos : Pos} {a b c e o : Expr} {es : List Expr} {ea eb ec ee eo : E} {ees : List E} {f : String}
theorem Gd.call {F H : Hp} {σ : SS} {ρ : Env} {st : PSt} (g : Gd N F H σ ρ st) {fn : List D → PSt → Option (D × PSt)} {ds : List D} {vs : List V} {n : Nat} {d : D} {st' : PSt} {Q : VK} {E : XK} (hn : vs.length = n) (r : Reps N.R F ds vs) (e : fn ds st = some (d, st'))
    (k : ∀ F' H' v, Go N.R F H F' H' → Gd N F' H' σ ρ st' → Rep N.R F' d v → Q v H') : spV N.R fn n vs H Q E :=
  ⟨hn, F, ds, st, g.sub, g.st, r, d, st', e, fun F' H' v x hs hst rr => k F' H' v x.go (g.ext x hs hst) rr⟩
theorem e_call {ps : List Str} {CX : CXT} {k : Nat} {A : Addr} {fd : FuncData} {E : XK} (F1 : FnOk X.prog X.w X.K X.mg X.base CX k A fd ps (spV N.R (cl f) ps.length)) (hr : Room k X.A) (hm : X.mg x = some (.ref A)) (hk : PySem.W.keepIn X.K (.ref A) = true) (hb : Binds X.K fd ps []) (hx : Passes CX X E)
    (hlen : ees.length = ps.length) (hg : Gl X x) (ha : PA X (e :: es) (tA N .val (evEs cl ees))) (hdb : (x == ("__debug__" : Str)) = false)
    (he : starEach (e :: es) X.env = (false, eval e X.env) :: starEach es X.env) (hpl : (backTo pos (starEach es X.env)).any (·.1) = false) : PE X (.Call (.Name x p) (e :: es) [] pos) (tE N .val (evE cl (.call f ees))) :=
  pe_of (pe_call F1 hr hg hm hk hb .nil hx ha hdb he hpl) fun σ H Q ⟨F, ρ, st, g, d, ρ', st', em, q⟩ => by
    unfold evE at em
    split at em
    · cases em
    rename_i ds ρ1 st1 h1
    split at em
    · cases em
    rename_i z st2 hz
    cases em
    refine ⟨F, ρ, st, g, _, _, _, h1, fun F1 H1 vs e1 g1 r1 => ?_⟩
    show spV N.R (cl f) ps.length (vs ++ []) H1 Q E
    rw [List.append_nil]
    exact g1.call (by rw [← Reps.length r1, evEs_len _ _ _ _ _ _ h1, hlen]) r1 hz fun F' H' v e' g' r' => q _ _ _ (e1.trans e') g' r'
theorem e_fld {f : String} (ho : PE X o (tE N .top (evE cl eo))) (hcl : ∀ C c, N.R.cls C c → InsC N.R.K c → NoAttr N.R.K c (nm f)) (ok : XOk N.R X) (hb : attributeBase o (nm f) X.env (eval o X.env) = eval o X.env) : PE X (.Attribute o (nm f) pos) (tE N .val (evE cl (.fld eo f))) :=
  pe_of (pe_fld ho hb) fun σ H Q ⟨F, ρ, st, g, d, ρ', st', em, q⟩ => by
    unfold evE at em
    split at em
    · rename_i C fs xs ρ1 st1 h1
      split at em
      · cases em
      rename_i z hz
      cases em
      refine ⟨F, ρ, st, g, _, _, _, h1, fun F1 H1 v e1 g1 r1 => ?_⟩
      obtain ⟨a, dx, c, vs, rfl, ⟨k1, k2⟩, k3, k4, k5⟩ := RepT.ins g1.sub r1
      simp only [Option.bind_eq_some_iff] at hz
      obtain ⟨j, z1, z2⟩ := hz
      obtain ⟨w, z3, z4⟩ := look_zip k4 k5 z1
      obtain ⟨w', z5, z6⟩ := k5.get z2
      rw [z4] at z5; cases z5
      exact ⟨a, c, dx, _, w, rfl, k3, by rw [ok.K]; exact k2.cl, by rw [ok.K]; exact hcl _ c k1 k2, z3, q _ _ _ e1 g1 z6⟩
    · cases em
theorem e_meth0 {C m : String} {ps : List Str} {CX : CXT} {k : Nat} {c A : Addr} {fd : FuncData} {E : XK} {pl : Sem Bool} (hC : N.R.mg (nm C) = some (.ref c)) (hcl : Cls X.K c) (hm : Meth X.K c (nm m) A) (F1 : FnOk X.prog X.w X.K X.mg X.base CX k A fd ps (spV N.R (cl f) ps.length)) (hr : Room k X.A) (hb : Binds X.K fd ps []) (hx : Passes CX X E)
    (hlen : ps.length = 1) (ho : PE X o (tE N .val (evE cl eo)))
    (ht : eval (.Call (.Attribute o (nm m) apos) [] [] pos) X.env = (do
      let ov ← eval o X.env
      standAt apos.atName
      let (f, first) ← holding [ov] (getMethod ov (nm m) pl)
      callWith pos f first (backTo pos (starEach [] X.env)) (backToKw pos (keywordEach [] X.env)))) : PE X (.Call (.Attribute o (nm m) apos) [] [] pos) (tE N .val (evE cl (.meth C m f eo []))) :=
  pe_of (pe_meth0 ho hcl hm F1 hr hb .nil hx ht) fun σ H Q ⟨F, ρ, st, g, d, ρ', st', em, q⟩ => by
    unfold evE at em
    split at em
    · rename_i C' fs xs ρ1 st1 h1
      split at em
      · rename_i hcond
        obtain ⟨rfl, hmf⟩ := hcond
        unfold evEs at em
        dsimp only at em
        split at em
        · cases em
        rename_i z st2 hz
        cases em
        refine ⟨F, ρ, st, g, _, _, _, h1, fun F1 H1 v e1 g1 r1 => ?_⟩
        have r0 : Rep N.R F1 (.ins C' fs xs) v := r1
        have r3 := r0
        simp only [Rep] at r3
        obtain ⟨a, dx, c', vs, rfl, ⟨k1, k2⟩, k3, k4, k5⟩ := r3
        have k1 := k1.1
        rw [hC] at k1; cases k1
        refine ⟨a, dx, _, rfl, g1.sub _ _ k3, look_no hmf, ?_⟩
        exact g1.call (E := E) (by rw [hlen]; rfl) (Reps.one r0) hz fun F' H' v e' g' r' => q _ _ _ (e1.trans e') g' r'
      · cases em
    · cases em
theorem e_meth {C m : String} {ps : List Str} {CX : CXT} {k : Nat} {c A : Addr} {fd : FuncData} {E : XK} {pl : Sem Bool} (hC : N.R.mg (nm C) = some (.ref c)) (hcl : Cls X.K c) (hm : Meth X.K c (nm m) A) (F1 : FnOk X.prog X.w X.K X.mg X.base CX k A fd ps (spV N.R (cl f) ps.length)) (hr : Room k X.A) (hb : Binds X.K fd ps []) (hx : Passes CX X E)
    (hlen : ees.length + 1 = ps.length) (ho : PE X o (tE N .val (evE cl eo))) (ha : PA X (e :: es) (tA N .val (evEs cl ees)))
    (hst : starEach (e :: es) X.env = (false, eval e X.env) :: starEach es X.env) (hpl : (backTo pos (starEach es X.env)).any (·.1) = false)
    (ht : eval (.Call (.Attribute o (nm m) apos) (e :: es) [] pos) X.env = (do
      let ov ← eval o X.env
      standAt apos.atName
      let (f, first) ← holding [ov] (getMethod ov (nm m) pl)
      callWith pos f first (backTo pos (starEach (e :: es) X.env)) (backToKw pos (keywordEach [] X.env)))) : PE X (.Call (.Attribute o (nm m) apos) (e :: es) [] pos) (tE N .val (evE cl (.meth C m f eo ees))) :=
  pe_of (pe_meth ho hcl hm F1 hr hb .nil hx ha hst hpl ht) fun σ H Q ⟨F, ρ, st, g, d, ρ', st', em, q⟩ => by
    unfold evE at em
    split at em
    · rename_i C' fs xs ρ1 st1 h1
      split at em
      · rename_i hcond
        obtain ⟨rfl, hmf⟩ := hcond
        split at em
        · cases em
        rename_i ds ρ2 st2 h2
        split at em
        · cases em
        rename_i z st3 hz
        cases em
        refine ⟨F, ρ, st, g, _, _, _, h1, fun F1 H1 v e1 g1 r1 => ?_⟩
        have r0 : Rep N.R F1 (.ins C' fs xs) v := r1
        have r3 := r0
        simp only [Rep] at r3
        obtain ⟨a, dx, c', vs, rfl, ⟨k1, k2⟩, k3, k4, k5⟩ := r3
        have k1 := k1.1
        rw [hC] at k1; cases k1
        refine ⟨a, dx, _, rfl, g1.sub _ _ k3, look_no hmf, F1, _, _, g1, _, _, _, h2, fun F2 H2 us e2 g2 r2 => ?_⟩
        refine g2.call (E := E) (by rw [List.length_cons, List.length_append, ← Reps.length r2, evEs_len _ _ _ _ _ _ h2, ← hlen]; rfl) (Reps.cons (Rep.mono e2.fz _ _ r0) (by rw [List.append_nil]; exact r2)) hz fun F' H' v e' g' r' => q _ _ _ ((e1.trans e2).trans e') g' r'
      · cases em
    · cases em
end
end Ev
/-! Ev12 -/
/-! Ev12: statements. -/
namespace Ev
open PySem PySem.Spec PyProof.Rows L2

def tS (N : RN) (m : Env → PSt → Option (Out × Env × PSt)) : TS := fun D σ H => ∃ F ρ st, Gd N F H σ ρ st ∧ ∃ o ρ' st', m ρ st = some (o, ρ', st') ∧
  match o with
  | .nx => ∀ F' H' σ', Same F F' → Gd N F' H' σ' ρ' st' → D.nx σ' H'
  | .rt d => ∀ F' H' v, Ext N.R N.F0 N.H0 F' H' → Same F' H' → StOk N.R F' H' st' → Rep N.R F' d v → D.rt v H'
theorem ps_of {X : Cx} {s : Stmt} {t t' : TS} (h : PS X s t) (k : ∀ D σ H, t' D σ H → t D σ H) : PS X s t' := ⟨fun pins s σ H D I q => h.run pins s σ H D I (k _ _ _ q)⟩
theorem pss_of {X : Cx} {s : List Stmt} {t t' : TS} (h : PSs X s t) (k : ∀ D σ H, t' D σ H → t D σ H) : PSs X s t' := ⟨fun pins s σ H D I q => h.run pins s σ H D I (k _ _ _ q)⟩
theorem ps_or {X : Cx} {s : Stmt} {t u : TS} (h : PS X s t) (k : PS X s u) : PS X s (fun D σ H => t D σ H ∨ u D σ H) := ⟨fun pins s σ H D I q => q.elim (h.run pins s σ H D I) (k.run pins s σ H D I)⟩

section
variable {N : RN} {F H : Hp} {σ : SS} {ρ : Env} {st : PSt}
/-- a slot takes a new list or dict -/
theorem Gd.setOwn (g : Gd N F H σ ρ st) (i : Nat) {d : D} {v : V} (r : ResOk N .own F H σ ρ d v) : Gd N F H (σ.set i (some v)) (ρ.set i (some (true, d))) st := by
  obtain ⟨a, rfl, h0, hF, nb, nr, no, ni, ho⟩ := r
  have gr : ∀ (j : Nat) (e : D), (ρ.set i (some (true, d)))[j]? = some (some (true, e)) → (i = j ∧ e = d ∧ i < ρ.length) ∨ (i ≠ j ∧ ρ[j]? = some (some (true, e))) := fun j e h => by
    by_cases q : i = j
    · subst q
      by_cases hi : i < ρ.length
      · rw [List.getElem?_set_self hi] at h; cases h; exact .inl ⟨rfl, rfl, hi⟩
      · rw [List.getElem?_eq_none (by simpa using hi)] at h; cases h
    · rw [List.getElem?_set_ne q] at h; exact .inr ⟨q, h⟩
  have gs : ∀ (j : Nat) (b : Addr), i ≠ j → (σ.set i (some (V.ref a)))[j]? = some (some (V.ref b)) → σ[j]? = some (some (V.ref b)) := fun j b q h => by
    rw [List.getElem?_set_ne q] at h; exact h
  have ga : ∀ b, i < ρ.length → (σ.set i (some (V.ref a)))[i]? = some (some (V.ref b)) → b = a := fun b hi h => by
    rw [List.getElem?_set_self (by rw [← g.len]; exact hi)] at h; cases h; rfl
  refine ⟨⟨g.sub, g.st, by simp [g.len], fun j s x h1 h2 => ?_, fun j k e e' b n h1 h2 h3 h4 => ?_⟩, g.ent, fun j e b h1 h2 => ?_, fun b hb => ?_, fun j e b h1 h2 h3 => ?_⟩
  · by_cases q : i = j
    · subst q
      by_cases hi : i < ρ.length
      · rw [List.getElem?_set_self hi] at h1; cases h1
        rw [List.getElem?_set_self (by rw [← g.len]; exact hi)] at h2; cases h2
        exact ⟨a, rfl, hF, nb, ho⟩
      · rw [List.getElem?_eq_none (by simpa using hi)] at h1; cases h1
    · rw [List.getElem?_set_ne q] at h1 h2
      exact g.slot j s x h1 h2
  · rcases gr _ _ h1 with ⟨rfl, _, q1⟩ | ⟨q1, k1⟩ <;> rcases gr _ _ h2 with ⟨rfl, _, q2⟩ | ⟨q2, k2⟩
    · exact n rfl
    · have := ga b q1 h3; subst this
      exact no k e' k2 (gs _ _ q2 h4)
    · have := ga b q2 h4; subst this
      exact no j e k1 (gs _ _ q1 h3)
    · exact g.apart j k e e' b n k1 k2 (gs _ _ q1 h3) (gs _ _ q2 h4)
  · rcases gr _ _ h1 with ⟨rfl, _, q1⟩ | ⟨q1, k1⟩
    · have := ga b q1 h2; subst this; exact h0
    · exact g.new j e b k1 (gs _ _ q1 h2)
  · obtain ⟨h1, h2, h3, h4⟩ := g.rsv b hb
    refine ⟨h1, h2, h3, fun j e z1 z2 => ?_⟩
    rcases gr _ _ z1 with ⟨rfl, _, q1⟩ | ⟨q1, k1⟩
    · have := ga b q1 z2; subst this; exact nr hb
    · exact h4 j e k1 (gs _ _ q1 z2)
  · rcases gr _ _ h1 with ⟨rfl, rfl, q1⟩ | ⟨q1, k1⟩
    · rw [ni] at h3; cases h3
    · exact g.self j e b k1 (gs _ _ q1 h2) h3
/-- a slot's own object is written -/
theorem Gd.wrOwn (g : Gd N F H σ ρ st) {i : Nat} {d d' : D} {a : Addr} {o : HO} (h1 : ρ[i]? = some (some (true, d))) (h2 : σ[i]? = some (some (V.ref a))) (ho : ∀ H', H' a = some o → OwnAt N.R F H' d' a) (hin : isIns d' = true → isIns d = true := by intro h; first | exact h | cases h | rfl) : Gd N F (upd H a o) σ (ρ.set i (some (true, d'))) st := by
  have hi : i < ρ.length := (List.getElem?_eq_some_iff.mp h1).1
  obtain ⟨b, e1, hF, nb, hown⟩ := g.slot i _ _ h1 h2
  cases e1
  have h0 := g.new i d a h1 h2
  have gr : ∀ (j : Nat) (e : D), (ρ.set i (some (true, d')))[j]? = some (some (true, e)) → ∃ e', ρ[j]? = some (some (true, e')) := fun j e h => by
    by_cases q : i = j
    · subst q; exact ⟨d, h1⟩
    · rw [List.getElem?_set_ne q] at h; exact ⟨e, h⟩
  refine ⟨⟨fun b u h => ?_, ?_, by simp [g.len], fun j s x e1 e2 => ?_, fun j k e e' b n k1 k2 k3 k4 => ?_⟩, ⟨g.ent.fz, fun b u h => ?_, g.ent.un⟩, fun j e b k1 k2 => ?_, fun b hb => ?_, fun j e b k1 k2 k3 => ?_⟩
  · rw [upd_ne (fun z => by rw [z, hF] at h; cases h)]; exact g.sub _ _ h
  · refine g.st.keep (Same.refl _) fun b hb => ?_
    have n : b ≠ a := fun z => nb (z ▸ hb)
    rw [upd_ne n]
    exact ⟨rfl, rfl⟩
  · by_cases q : i = j
    · subst q
      rw [List.getElem?_set_self hi] at e1; cases e1
      rw [h2] at e2; cases e2
      exact ⟨a, rfl, hF, nb, ho _ upd_same⟩
    · rw [List.getElem?_set_ne q] at e1
      have k := g.slot j s x e1 e2
      rcases s with _ | ⟨b, e⟩
      · trivial
      · cases b with
        | false => exact k
        | true =>
          obtain ⟨c, z1, z2, z3, z4⟩ := k
          have : c ≠ a := fun z => g.apart i j d e a q h1 e1 h2 (by rw [e2, z1, z])
          exact ⟨c, z1, z2, z3, z4.mono (Same.refl _) fun u w => by rw [upd_ne this]; exact w⟩
  · obtain ⟨_, w1⟩ := gr _ _ k1
    obtain ⟨_, w2⟩ := gr _ _ k2
    exact g.apart j k _ _ b n w1 w2 k3 k4
  · rcases g.ent.kp b u h with z | z
    · exact .inl z
    · exact .inr (by rw [upd_ne (fun y => by rw [y, h0] at h; cases h)]; exact z)
  · obtain ⟨_, w1⟩ := gr _ _ k1
    exact g.new j _ b w1 k2
  · obtain ⟨y1, ⟨u, y2⟩, y3, y4⟩ := g.rsv b hb
    have : b ≠ a := fun z => y4 i d h1 (by rw [h2, z])
    refine ⟨y1, ⟨u, by rw [upd_ne this]; exact y2⟩, y3, fun j e z1 z2 => ?_⟩
    obtain ⟨_, w1⟩ := gr _ _ z1
    exact y4 j _ w1 z2
  · by_cases q : i = j
    · subst q
      rw [List.getElem?_set_self hi] at k1; cases k1
      exact g.self i d b h1 k2 (hin k3)
    · rw [List.getElem?_set_ne q] at k1
      exact g.self j e b k1 k2 k3
end

section
variable {N : RN} {X : Cx} {cl : Cl} {wf : Nat} {x : Str} {pos pos' p apos : Pos} {a b c e o : Expr} {es : List Expr} {ea eb ec ee eo : E} {ees : List E} {f : String} {s : Stmt} {r : List Stmt}
/-! ### blocks -/
theorem l_nil : PSs X [] (tS N (exL cl wf [])) := pss_of pss_nil fun D σ H ⟨F, ρ, st, g, o, ρ', st', em, q⟩ => by
  unfold exL at em; cases em; exact q F H σ (Same.refl _) g
theorem l_cons {s1 : S} {rs : List S} (h : PS X s (tS N (exS cl wf s1))) (k : PSs X r (tS N (exL cl wf rs))) : PSs X (s :: r) (tS N (exL cl wf (s1 :: rs))) := pss_of (pss_cons h k) fun D σ H ⟨F, ρ, st, g, o, ρ', st', em, q⟩ => by
  unfold exL at em
  split at em
  · cases em
  · rename_i ρ1 st1 h1
    refine ⟨F, ρ, st, g, .nx, ρ1, st1, h1, fun F1 H1 σ1 e1 g1 => ⟨F1, ρ1, st1, g1, o, ρ', st', em, ?_⟩⟩
    cases o with
    | nx => exact fun F' H' σ' e' g' => q F' H' σ' (e1.trans e') g'
    | rt d => exact q
  · rename_i d ρ1 st1 h1
    cases em
    exact ⟨F, ρ, st, g, .rt d, _, _, h1, q⟩

/-! ### names -/
theorem s_set {i : Nat} (ok : XOk N.R X) (hi : X.N[i]? = some x) (hx : Loc X.env.scope x) (he : PE X e (tE N .val (evE cl ee))) (hs : swapsWith e (some (.Name x pos')) pos.line X.env = pure false) (hf : X.fn x = true ∨ X.env.scope.names.lookup x = some .local) : PS X (.Assign [.Name x pos'] e pos) (tS N (exS cl wf (.set i ee))) :=
  ps_of (ps_set ok.nd hi hx he hs hf) fun D σ H ⟨F, ρ, st, g, o, ρ', st', em, q⟩ => by
    unfold exS at em
    split at em
    · cases em
    rename_i d ρ1 st1 h1
    cases em
    exact ⟨F, ρ, st, g, _, _, _, h1, fun F1 H1 v e1 g1 r1 => q F1 H1 _ e1.fz (g1.set i r1)⟩
theorem s_own {i : Nat} (ok : XOk N.R X) (hi : X.N[i]? = some x) (hx : Loc X.env.scope x) (he : PE X e (tE N .own (evE cl ee))) (hs : swapsWith e (some (.Name x pos')) pos.line X.env = pure false) (hf : X.fn x = true ∨ X.env.scope.names.lookup x = some .local) : PS X (.Assign [.Name x pos'] e pos) (tS N (exS cl wf (.own i ee))) :=
  ps_of (ps_set ok.nd hi hx he hs hf) fun D σ H ⟨F, ρ, st, g, o, ρ', st', em, q⟩ => by
    unfold exS at em
    split at em
    · cases em
    rename_i d ρ1 st1 h1
    cases em
    exact ⟨F, ρ, st, g, _, _, _, h1, fun F1 H1 v e1 g1 r1 => q F1 H1 _ e1.fz (g1.setOwn i r1)⟩
/-! ### an expression, return, pass, if -/
theorem s_ex (he : PE X e (tE N .top (evE cl ee))) (hs : swapsWith e none pos.line X.env = pure false) : PS X (.Expr e pos) (tS N (exS cl wf (.ex ee))) :=
  ps_of (ps_expr he hs) fun D σ H ⟨F, ρ, st, g, o, ρ', st', em, q⟩ => by
    unfold exS at em
    split at em
    · cases em
    rename_i d ρ1 st1 h1
    cases em
    exact ⟨F, ρ, st, g, _, _, _, h1, fun F1 H1 v e1 g1 r1 => q F1 H1 σ e1.fz g1⟩
theorem s_ret (he : PE X e (tE N .val (evE cl ee))) : PS X (.Return (some e) pos) (tS N (exS cl wf (.ret ee))) :=
  ps_of (ps_ret he) fun D σ H ⟨F, ρ, st, g, o, ρ', st', em, q⟩ => by
    unfold exS at em
    split at em
    · cases em
    rename_i d ρ1 st1 h1
    cases em
    exact ⟨F, ρ, st, g, _, _, _, h1, fun F1 H1 v e1 g1 r1 => q F1 H1 v g1.ent g1.sub g1.st r1⟩
theorem s_retN : PS X (.Return none pos) (tS N (exS cl wf (.ret .non))) :=
  ps_of ps_retN fun D σ H ⟨F, ρ, st, g, o, ρ', st', em, q⟩ => by
    unfold exS evE at em
    cases em
    exact q F H .non g.ent g.sub g.st (by simp [Rep])
theorem s_pass : PS X (.Pass pos) (tS N (exS cl wf .pass)) := ps_of ps_pass fun D σ H ⟨F, ρ, st, g, o, ρ', st', em, q⟩ => by
  unfold exS at em; cases em; exact q F H σ (Same.refl _) g
theorem s_never : PS X s (tS N (exS cl wf .never)) := ps_of ps_never fun D σ H ⟨F, ρ, st, g, o, ρ', st', em, q⟩ => by
  unfold exS at em; cases em
theorem s_ite {la lb : List Stmt} {sa sb : List S} (hc : PT X c (tT N (evE cl ec))) (ha : PSs X la (tS N (exL cl wf sa))) (hb : PSs X lb (tS N (exL cl wf sb))) : PS X (.If c la lb pos) (tS N (exS cl wf (.ite ec sa sb))) :=
  ps_of (ps_if hc ha hb) fun D σ H ⟨F, ρ, st, g, o, ρ', st', em, q⟩ => by
    unfold exS at em
    split at em
    · rename_i ρ1 st1 h1
      refine ⟨F, ρ, st, g, true, _, _, h1, fun F1 H1 e1 g1 => iteT ⟨F1, ρ1, st1, g1, o, ρ', st', em, ?_⟩⟩
      cases o with
      | nx => exact fun F' H' σ' e' g' => q F' H' σ' (e1.fz.trans e') g'
      | rt d => exact q
    · rename_i ρ1 st1 h1
      refine ⟨F, ρ, st, g, false, _, _, h1, fun F1 H1 e1 g1 => iteF ⟨F1, ρ1, st1, g1, o, ρ', st', em, ?_⟩⟩
      cases o with
      | nx => exact fun F' H' σ' e' g' => q F' H' σ' (e1.fz.trans e') g'
      | rt d => exact q
    · cases em
/-! ### loops -/
theorem s_whl {lb : List Stmt} {sb : List S} (hp : PassesOwn (model X.prog X.w) X.A X.env X.xe) (hc : PT X c (tT N (evE cl ec))) (hb : PSs X lb (tS N (exL cl wf sb))) : PS X (.While c lb [] pos) (tS N (exS cl wf (.whl ec sb))) :=
  ps_of (ps_while hp hc hb) fun D σ H ⟨F, ρ, st, g, o, ρ', st', em, q⟩ => by
    unfold exS at em
    refine ⟨fun m σ H => ∃ F' ρ1 st1, Gd N F' H σ ρ1 st1 ∧ Same F F' ∧ whlL (fun ρ st => evE cl ec ρ st) (fun ρ st => exL cl wf sb ρ st) m ρ1 st1 = some (o, ρ', st'), ⟨wf, F, ρ, st, g, Same.refl _, em⟩, ?_⟩
    rintro m σ1 H1 ⟨F1, ρ1, st1, g1, s1, e1⟩
    cases m with
    | zero => unfold whlL at e1; cases e1
    | succ m =>
      unfold whlL at e1
      split at e1
      · rename_i ρ2 st2 h2
        refine ⟨F1, ρ1, st1, g1, true, _, _, h2, fun F2 H2 k2 g2 => iteT ⟨fun σ H => ∃ F' ρ1 st1, Gd N F' H σ ρ1 st1 ∧ Same F F' ∧ whlL (fun ρ st => evE cl ec ρ st) (fun ρ st => exL cl wf sb ρ st) m ρ1 st1 = some (o, ρ', st'), fun σ' H' h => ⟨m, Nat.lt_succ_self _, h⟩, F2, ρ2, st2, g2, ?_⟩⟩
        split at e1
        · cases e1
        · rename_i ρ3 st3 h3
          exact ⟨.nx, ρ3, st3, h3, fun F' H' σ' e' g' => ⟨F', ρ3, st3, g', (s1.trans k2.fz).trans e', e1⟩⟩
        · rename_i d ρ3 st3 h3
          cases e1
          exact ⟨.rt d, _, _, h3, q⟩
      · rename_i ρ2 st2 h2
        cases e1
        exact ⟨F1, ρ1, st1, g1, false, _, _, h2, fun F2 H2 k2 g2 => iteF (q F2 H2 σ1 (s1.trans k2.fz) g2)⟩
      · cases e1
theorem forL_drop {fn : D → Env → PSt → Option (Out × Env × PSt)} {xs : List D} {i : Nat} {d : D} {ρ ρ' : Env} {st st' : PSt} {r : Out} (hd : xs[i]? = some d) (h : forL fn (xs.drop i) ρ st = some (r, ρ', st')) :
    (∃ ρ1 st1, fn d ρ st = some (.nx, ρ1, st1) ∧ forL fn (xs.drop (i + 1)) ρ1 st1 = some (r, ρ', st')) ∨ (∃ v, r = .rt v ∧ fn d ρ st = some (.rt v, ρ', st')) := by
  have hi : i < xs.length := (List.getElem?_eq_some_iff.mp hd).1
  rw [List.drop_eq_getElem_cons hi] at h
  have hx : xs[i] = d := by rw [List.getElem?_eq_getElem hi] at hd; exact Option.some.inj hd
  rw [hx] at h
  unfold forL at h
  split at h
  · cases h
  · rename_i ρ1 st1 e1
    exact .inl ⟨ρ1, st1, e1, h⟩
  · rename_i v ρ1 st1 e1
    cases h
    exact .inr ⟨v, rfl, e1⟩
theorem s_for {tg iter : Expr} {tgd : Tg} {k : Sk} {src : List E} {lb : List Stmt} {sb : List S} (ok : XOk N.R X) (hp : PassesOwn (model X.prog X.w) X.A X.env X.xe) (hi : PI X tg iter (tI N (srcM cl k src))) (hg : PG X tg (gOf N.R tgd)) (hb : PSs X lb (tS N (exL cl wf sb)))
    (hs : ∀ x, foldedSetIterable iter X.env x = pure x) : PS X (.For tg iter lb [] pos) (tS N (exS cl wf (.for tgd k src sb))) :=
  ps_of (ps_for hp ok.calm hi hg hb hs) fun D σ H ⟨F, ρ, st, g, o, ρ', st', em, q⟩ => by
    unfold exS at em
    split at em
    · cases em
    rename_i ds ρ1 st1 h1
    split at em
    · cases em
    rename_i xs h2
    refine ⟨F, ρ, st, g, xs, ρ1, st1, by unfold srcM; rw [h1]; dsimp only; rw [h2], fun F1 H1 J e1 g1 w => ?_⟩
    refine for_it w (D := D) (σ := σ) (H := H1) (g := gOf N.R tgd) (tb := tS N (exL cl wf sb)) (fun i σ H => ∃ F' ρa sta, Gd N F' H σ ρa sta ∧ Same F1 F' ∧ forL (fun x ρ st => match bindD tgd x ρ with | none => none | some ρ1 => exL cl wf sb ρ1 st) (xs.drop i) ρa sta = some (o, ρ', st')) ?_ ?_ ?_ ?_
    · exact ⟨F1, ρ1, st1, g1, Same.refl _, em⟩
    · rintro i σ H _ ⟨F', ρa, sta, k1, k2, _⟩
      exact fun b u h => k1.sub b u (k2 b u h)
    · rintro i v σ H H' hi ⟨F', ρa, sta, k1, k2, k3⟩ ⟨dd, hd, hy⟩
      have item : ∃ F2, Same F' F2 ∧ Gd N F2 H' σ ρa sta ∧ Rep N.R F2 dd v := by
        rcases hy with ⟨rfl, hr⟩ | ⟨T, vs, es, rfl, hT, rfl, rfl, hr⟩
        · exact ⟨F', Same.refl _, k1, Rep.mono k2 _ _ hr⟩
        · obtain ⟨z1, z2⟩ := k1.laid (o := .tup vs) hT
          refine ⟨_, z1.fz, z2, ?_⟩
          simp only [Rep]
          exact ⟨T, vs, rfl, SqT.of upd_same, Reps.mono (k2.trans z1.fz) _ _ hr⟩
      obtain ⟨F2, m1, m2, m3⟩ := item
      rcases forL_drop hd k3 with ⟨ρb, stb, t1, t2⟩ | ⟨rv, rfl, t1⟩
      · try dsimp only at t1
        split at t1
        · cases t1
        rename_i ρc ec
        refine tg_ok m2 m3 ec fun σ2 m4 m5 => ⟨F2, ρc, sta, m4, .nx, ρb, stb, t1, fun F3 H3 σ3 e3 g3 => ⟨F3, ρb, stb, g3, (k2.trans m1).trans e3, t2⟩⟩
      · try dsimp only at t1
        split at t1
        · cases t1
        rename_i ρc ec
        exact tg_ok m2 m3 ec fun σ2 m4 m5 => ⟨F2, ρc, sta, m4, .rt rv, _, _, t1, q⟩
    · rintro σ H ⟨F', ρa, sta, k1, k2, k3⟩
      rw [List.drop_length] at k3
      unfold forL at k3
      cases k3
      exact q F' H σ (e1.fz.trans k2) k1
end
end Ev
/-! Ev13 -/
/-! Ev13: statements that change a slot's own list or dict; several targets. -/
namespace Ev
open PySem PySem.Spec PyProof.Rows L2

section
variable {N : RN} {X : Cx} {cl : Cl} {wf : Nat} {x : Str} {pos pos' p apos : Pos} {a b c e o : Expr} {es : List Expr} {ea eb ec ee eo : E} {ees : List E} {f : String}
/-- [..] stored to a local name on the name's own line -/
theorem s_setLc {i : Nat} {tg iter elt : Expr} {ifs : List Expr} {scope : Scope} {own : List (Str × Nat)} {tgd : Tg} {k : Sk} {src : List E} {cc : Option E} {el : E} {spos : Pos} (fz : Bool) (ok : XOk N.R X) (hy : X.N[i]? = some x) (hyl : X.env.scope.names.lookup x = some .local)
    (hsw : swapsWith (.ListComp elt [⟨tg, iter, ifs, 0⟩] scope pos) (some (.Name x pos')) spos.line X.env = pure true) (hi : PI X tg iter (tI N (srcM cl k src))) (blk : BlkOk X.N X.env.scope scope own) (hsub : ∀ i ∈ tgIs tgd, i ∈ own.map (·.2))
    (hg : ∀ (s : Shared) (H : Hp) (C : Addr) (cs : List (Str × Addr)) (fp : List Addr), PG (X.blk s H scope (compEnvC scope cs C X.env) fp) tg (gOf N.R tgd))
    (ht : ∀ (s : Shared) (H : Hp) (C : Addr) (cs : List (Str × Addr)) (fp : List Addr) (rs : Addr → Prop), PTs (X.blk s H scope (compEnvC scope cs C X.env) fp) ifs (tT (N.rz rs) (evO' cl cc)))
    (he : ∀ (s : Shared) (H : Hp) (C : Addr) (cs : List (Str × Addr)) (fp : List Addr) (rs : Addr → Prop), PE (X.blk s H scope (compEnvC scope cs C X.env) fp) elt (tE (N.rz rs) .val (evE cl el))) (hs : ∀ x, foldedSetIterable iter X.env x = pure x) :
    PS X (.Assign [.Name x pos'] (.ListComp elt [⟨tg, iter, ifs, 0⟩] scope pos) spos) (tS N (exS cl wf (if fz then .set i (.lc (own.map (·.2)) tgd k src cc el) else .own i (.lc (own.map (·.2)) tgd k src cc el)))) := by
  refine ps_of (ps_setLc ok.calm ok.nd hy hyl hsw hi blk hg (fun s H C cs fp => pts_ex (ht s H C cs fp)) (fun s H C cs fp => pe_ex (he s H C cs fp)) hs) fun D σ H ⟨F, ρ, st, g, o, ρ', st', em, q⟩ => ?_
  refine lc_imp hsub ?_
  cases fz with
  | true =>
    rw [if_pos rfl] at em
    unfold exS at em
    split at em
    · cases em
    rename_i d ρ1 st1 h1
    cases em
    refine ⟨F, ρ, st, g, _, _, _, h1, fun F1 H1 v e1 g1 r1 => ?_⟩
    obtain ⟨a, rfl, h0, hF, nb, nr, no, ni, ho⟩ := r1
    obtain ⟨o, z1, z2⟩ := ho.frozen
    obtain ⟨e2, g2⟩ := g1.freeze z1 hF h0 nb nr no
    exact q _ _ _ (e1.fz.trans e2.fz) (g2.set i (z2 _ e2.fz upd_same))
  | false =>
    rw [if_neg Bool.false_ne_true] at em
    unfold exS at em
    split at em
    · cases em
    rename_i d ρ1 st1 h1
    cases em
    exact ⟨F, ρ, st, g, _, _, _, h1, fun F1 H1 v e1 g1 r1 => q F1 H1 _ e1.fz (g1.setOwn i r1)⟩
/-- a, b = a tuple -/
theorem pg_or {X : Cx} {e : Expr} {t u : TG} (h : PG X e t) (k : PG X e u) : PG X e (fun v σ H Q => t v σ H Q ∨ u v σ H Q) :=
  ⟨fun pins s σ H v w Q I r q => q.elim (h.run pins s σ H v w Q I r) (k.run pins s σ H v w Q I r)⟩
theorem s_tset {es : List Expr} {is : List Nat} {k : Nat} (ok : XOk N.R X) (h : PE X e (tE N .val (evE cl ee))) (hg : PG X (.Tuple es k pos') (gOf N.R (.tp is))) (hg2 : PG X (.Tuple es k pos') (gUnl X.K is.length (gNms is))) (hs : swapsWithSole [.Tuple es k pos'] e pos.line X.env = pure false) (hw : swappedStores [.Tuple es k pos'] e X.env = pure none)
    (h1 : (assignEach [.Tuple es k pos'] X.env).map (·.2) = [assign (.Tuple es k pos') X.env]) : PS X (.Assign [.Tuple es k pos'] e pos) (tS N (exS cl wf (.tset is ee))) :=
  ps_of (ps_asg h (pg_or hg hg2) hs hw h1) fun D σ H ⟨F, ρ, st, g, o, ρ', st', em, q⟩ => by
    unfold exS at em
    split at em
    · rename_i ds ρ1 st1 h1
      simp only [Option.ite_none_right_eq_some] at em
      obtain ⟨hl, em⟩ := em
      split at em
      · cases em
      rename_i ρ2 h2
      cases em
      refine ⟨F, ρ, st, g, _, _, _, h1, fun F1 H1 v e1 g1 r1 => .inl ?_⟩
      exact tg_ok (t := .tp is) g1 r1 (by simp only [bindD]; rw [if_pos hl]; exact h2) fun σ2 g2 _ => q F1 H1 σ2 e1.fz g2
    · rename_i ds ρ1 st1 h1
      simp only [Option.ite_none_right_eq_some] at em
      obtain ⟨hl, em⟩ := em
      split at em
      · cases em
      rename_i ρ2 h2
      cases em
      refine ⟨F, ρ, st, g, _, _, _, h1, fun F1 H1 v e1 g1 r1 => .inr ?_⟩
      have r1 : Rep N.R F1 (.lst ds) v := r1
      simp only [Rep] at r1
      obtain ⟨a, vs, rfl, k1, k2⟩ := r1
      refine ⟨a, vs, rfl, SqL.of (g1.sub _ _ k1), by rw [← k2.length, hl], nms_ok g1 k2 h2 fun σ2 g2 _ => q F1 H1 σ2 e1.fz g2⟩
    · cases em
/-- a, b = x, y, plain local names -/
def kd (o : Bool) : Kind := if o then .own else .val
theorem Gd.weak {F H : Hp} {σ : SS} {ρ : Env} {st : PSt} {rs : Addr → Prop} (g : Gd (N.rz rs) F H σ ρ st) (h : ∀ a, N.rs a → rs a) : Gd N F H σ ρ st :=
  ⟨g.toGood, g.ent, g.new, fun a ha => g.rsv a (h a ha), g.self⟩
theorem Gd.res {F H : Hp} {σ : SS} {ρ : Env} {st : PSt} {d : D} {v : V} (g : Gd N F H σ ρ st) (r : ResOk N .own F H σ ρ d v) : Gd (N.rz fun b => N.rs b ∨ V.ref b = v) F H σ ρ st := by
  obtain ⟨a, rfl, h0, hF, nb, nr, no, ni, ho⟩ := r
  refine ⟨g.toGood, g.ent, g.new, fun b hb => ?_, g.self⟩
  rcases hb with hb | hb
  · exact g.rsv b hb
  · cases hb
    exact ⟨hF, ho.there, ⟨nb, h0⟩, no⟩
theorem own_later {F H F' H' : Hp} {σ : SS} {ρ ρ' : Env} {st' : PSt} {d : D} {v : V} (r : ResOk N .own F H σ ρ d v) (g : Gd (N.rz fun b => N.rs b ∨ V.ref b = v) F' H' σ ρ' st') (e : Go N.R F H F' H') : ResOk N .own F' H' σ ρ' d v := by
  obtain ⟨a, rfl, h0, hF, nb, nr, no, ni, ho⟩ := r
  obtain ⟨h1, _, _, h2⟩ := g.rsv a (.inr rfl)
  refine ⟨a, rfl, h0, h1, nb, nr, h2, ni, ho.mono e.fz fun o q => ?_⟩
  rcases e.kp a o q with z | z
  · exact absurd z nb
  · exact z
theorem Gd.put1 {F H : Hp} {σ : SS} {ρ : Env} {st : PSt} (g : Gd N F H σ ρ st) (i : Nat) {o : Bool} {d : D} {v : V} (r : ResOk N (kd o) F H σ ρ d v) : Gd N F H (σ.set i (some v)) (ρ.set i (some (o, d))) st := by
  cases o with
  | true => exact g.setOwn i r
  | false => exact g.set i r
theorem s_par {oi oj : Bool} {i j : Nat} {y : Str} {px py pt : Pos} {kt k2 : Nat} {pt2 : Pos} (ok : XOk N.R X) (hi : X.N[i]? = some x) (hj : X.N[j]? = some y) (hij : i ≠ j)
    (hx : X.env.scope.names.lookup x = some .local) (hy : X.env.scope.names.lookup y = some .local) (ha : PE X a (tE N (kd oi) (evE cl ea))) (hb : ∀ rs, PE X b (tE (N.rz rs) (kd oj) (evE cl eb))) (h1 : starEach [a, b] X.env = (false, eval a X.env) :: starEach [b] X.env) (h2 : starEach [b] X.env = (false, eval b X.env) :: starEach [] X.env)
    (hw : swappedStores [.Tuple [.Name x px, .Name y py] kt pt] (.Tuple [a, b] k2 pt2) X.env = pure (some [x, y])) (hs : swapsWithSole [.Tuple [.Name x px, .Name y py] kt pt] (.Tuple [a, b] k2 pt2) pos.line X.env = pure false) :
    PS X (.Assign [.Tuple [.Name x px, .Name y py] kt pt] (.Tuple [a, b] k2 pt2) pos) (tS N (exS cl wf (.par oi oj i j ea eb))) :=
  ps_of (ps_par ok.calm ok.nd hi hj hij hx hy (pa_cons ha (pa_cons (pe_ex hb) pa_nil h2) h1) hw hs) fun D σ H ⟨F, ρ, st, g, o, ρ', st', em, q⟩ => by
    unfold exS at em
    split at em
    · cases em
    rename_i d1 ρ1 st1 e1
    split at em
    · cases em
    rename_i d2 ρ2 st2 e2
    cases em
    refine ⟨F, ρ, st, g, _, _, _, e1, fun F1 H1 v k1 g1 r1 => ?_⟩
    cases oi with
    | false =>
      refine ⟨N.rs, F1, _, _, g1, _, _, _, e2, fun F2 H2 u k2 g2 r2 => ⟨v, u, rfl, ?_⟩⟩
      have r1 : Rep N.R F1 d1 v := r1
      refine q F2 H2 _ (k1.trans k2).fz ((g2.set i (Rep.mono k2.fz _ _ r1)).put1 j ?_)
      cases oj with
      | false => exact r2
      | true =>
        obtain ⟨a, rfl, h0, hF, nb, nr, no, ni, ho⟩ := r2
        refine ⟨a, rfl, h0, hF, nb, nr, fun m d' z1 z2 => ?_, ni, ho⟩
        by_cases w : i = m
        · subst w
          by_cases hi : i < ρ2.length
          · rw [List.getElem?_set_self hi] at z1; cases z1
          · rw [List.getElem?_eq_none (by simpa using hi)] at z1; cases z1
        · rw [List.getElem?_set_ne w] at z1 z2; exact no m d' z1 z2
    | true =>
      refine ⟨fun b => N.rs b ∨ V.ref b = v, F1, _, _, g1.res r1, _, _, _, e2, fun F2 H2 u k2 g2 r2 => ⟨v, u, rfl, ?_⟩⟩
      have r3 : ResOk N .own F2 H2 σ ρ2 d1 v := own_later r1 g2 k2
      have g3 : Gd N F2 H2 σ ρ2 st' := g2.weak fun a ha => .inl ha
      refine q F2 H2 _ (k1.trans k2).fz ((g3.setOwn i r3).put1 j ?_)
      cases oj with
      | false => exact r2
      | true =>
        obtain ⟨a, rfl, h0, hF, nb, nr, no, ni, ho⟩ := r2
        refine ⟨a, rfl, h0, hF, nb, fun z => nr (.inl z), fun m d' z1 z2 => ?_, ni, ho⟩
        by_cases w : i = m
        · subst w
          by_cases hi : i < σ.length
          · rw [List.getElem?_set_self hi] at z2; cases z2
            exact nr (.inr rfl)
          · rw [List.getElem?_eq_none (by simpa using hi)] at z2; cases z2
        · rw [List.getElem?_set_ne w] at z1 z2; exact no m d' z1 z2

/-! ### a list changed -/
theorem Gd.ownAt {F H : Hp} {σ : SS} {ρ : Env} {st : PSt} (g : Gd N F H σ ρ st) {i : Nat} {d : D} (h : ρ[i]? = some (some (true, d))) : ∃ a, σ[i]? = some (some (V.ref a)) ∧ F a = none ∧ OwnAt N.R F H d a := by
  obtain ⟨x, hx, k⟩ := g.toGood.at h
  obtain ⟨a, rfl, hF, nb, ho⟩ := k
  exact ⟨a, hx, hF, ho⟩
theorem ownL_eq {ρ : Env} {i : Nat} {xs : List D} (h : ownL ρ i = some xs) : ρ[i]? = some (some (true, .lst xs)) := by
  unfold ownL at h
  split at h
  · rename_i e; cases h; exact e
  · cases h
theorem Gd.lst {F H : Hp} {σ : SS} {ρ : Env} {st : PSt} (g : Gd N F H σ ρ st) {i : Nat} {xs : List D} (h : ownL ρ i = some xs) : ∃ a vs, σ[i]? = some (some (V.ref a)) ∧ F a = none ∧ H a = some (.lst vs) ∧ Reps N.R F xs vs := by
  obtain ⟨a, h1, h2, vs, h3, h4⟩ := g.ownAt (ownL_eq h)
  exact ⟨a, vs, h1, h2, h3, h4⟩
/-- how a method of a list stands in the text -/
def MethL (X : Cx) (o : Expr) (m : Str) (r : V → List V → Hp → VK → Prop) (e : Expr) (apos pos : Pos) : Prop := ∀ {to : TE} {t : TA}, PE X o to → PA X [e] t → PE X (.Call (.Attribute o m apos) [e] [] pos) (tBM X.K "list" r to t)
theorem s_app {i : Nat} (hi : X.N[i]? = some x) (hv : Vis X.env.scope x) (hd : (x == ("__debug__" : Str)) = false) (hcd : (x == ("__classdict__" : Str)) = false) (he : PE X e (tE N .val (evE cl ee)))
    (hm : MethL X (.Name x p) "append" rAppend e apos pos) (hs1 : starEach [e] X.env = (false, eval e X.env) :: starEach [] X.env)
    (hs : swapsWith (.Call (.Attribute (.Name x p) "append" apos) [e] [] pos) none pos'.line X.env = pure false) : PS X (.Expr (.Call (.Attribute (.Name x p) "append" apos) [e] [] pos) pos') (tS N (exS cl wf (.app i ee))) :=
  ps_of (ps_expr (hm (pe_var hi hv hd hcd) (pa_cons he pa_nil hs1)) hs) fun D σ H ⟨F, ρ, st, g, o, ρ', st', em, q⟩ => by
    unfold exS at em
    split at em
    · cases em
    rename_i xs0 h0
    split at em
    · cases em
    rename_i d ρ1 st1 h1
    split at em
    · cases em
    rename_i xs h2
    simp only [Option.ite_none_right_eq_some, Option.some.injEq, Prod.mk.injEq] at em
    obtain ⟨hl, rfl, rfl, rfl⟩ := em
    obtain ⟨a, vs0, k1, _, k3, _⟩ := g.lst h0
    refine ⟨_, k1, .inl ⟨rfl, _, SqL.of k3⟩, F, ρ, st, g, _, _, _, h1, fun F1 H1 v e1 g1 r1 => ?_⟩
    obtain ⟨a', vs, m1, m2, m3, m4⟩ := g1.lst h2
    rw [k1] at m1; cases m1
    refine ⟨a, vs, v, rfl, rfl, m3, by rw [← m4.length, line_lim]; exact hl, ?_⟩
    exact q F1 _ σ e1.fz (g1.wrOwn (ownL_eq h2) k1 fun H' z => ⟨vs ++ [v], z, m4.append (Reps.one r1)⟩)
theorem s_ext {i : Nat} (hi : X.N[i]? = some x) (hv : Vis X.env.scope x) (hd : (x == ("__debug__" : Str)) = false) (hcd : (x == ("__classdict__" : Str)) = false) (he : PE X e (tE N .val (evE cl ee)))
    (hm : MethL X (.Name x p) "extend" rExtend e apos pos) (hs1 : starEach [e] X.env = (false, eval e X.env) :: starEach [] X.env)
    (hs : swapsWith (.Call (.Attribute (.Name x p) "extend" apos) [e] [] pos) none pos'.line X.env = pure false) : PS X (.Expr (.Call (.Attribute (.Name x p) "extend" apos) [e] [] pos) pos') (tS N (exS cl wf (.ext i ee))) :=
  ps_of (ps_expr (hm (pe_var hi hv hd hcd) (pa_cons he pa_nil hs1)) hs) fun D σ H ⟨F, ρ, st, g, o, ρ', st', em, q⟩ => by
    unfold exS at em
    split at em
    · cases em
    rename_i xs0 h0
    split at em
    · rename_i ys ρ1 st1 h1
      split at em
      · cases em
      rename_i xs h2
      simp only [Option.ite_none_right_eq_some, Option.some.injEq, Prod.mk.injEq] at em
      obtain ⟨hl, rfl, rfl, rfl⟩ := em
      obtain ⟨a, vs0, k1, _, k3, _⟩ := g.lst h0
      refine ⟨_, k1, .inl ⟨rfl, _, SqL.of k3⟩, F, ρ, st, g, _, _, _, h1, fun F1 H1 v e1 g1 r1 => ?_⟩
      obtain ⟨a', vs, m1, m2, m3, m4⟩ := g1.lst h2
      rw [k1] at m1; cases m1
      have r1 : Rep N.R F1 (.lst ys) v := r1
      simp only [Rep] at r1
      obtain ⟨c, us, rfl, n1, n2⟩ := r1
      refine ⟨a, c, vs, us, rfl, rfl, m3, g1.sub _ _ n1, by rw [← m4.length, ← n2.length, line_lim]; exact hl, ?_⟩
      exact q F1 _ σ e1.fz (g1.wrOwn (ownL_eq h2) k1 fun H' z => ⟨vs ++ us, z, m4.append n2⟩)
    · cases em
/-- x.append(y.pop(e)) -/
theorem s_appPop {i j : Nat} {y : Str} {py apos2 pos2 : Pos} (hi : X.N[i]? = some x) (hv : Vis X.env.scope x) (hd : (x == ("__debug__" : Str)) = false) (hcd : (x == ("__classdict__" : Str)) = false)
    (hj : X.N[j]? = some y) (hvj : Vis X.env.scope y) (hdj : (y == ("__debug__" : Str)) = false) (hcdj : (y == ("__classdict__" : Str)) = false) (he : PE X e (tE N .val (evE cl ee)))
    (hm : MethL X (.Name x p) "append" rAppend (.Call (.Attribute (.Name y py) "pop" apos2) [e] [] pos2) apos pos) (hs1 : starEach [.Call (.Attribute (.Name y py) "pop" apos2) [e] [] pos2] X.env = (false, eval (.Call (.Attribute (.Name y py) "pop" apos2) [e] [] pos2) X.env) :: starEach [] X.env)
    (hm2 : MethL X (.Name y py) "pop" rPopAt e apos2 pos2) (hs2 : starEach [e] X.env = (false, eval e X.env) :: starEach [] X.env)
    (hs : swapsWith (.Call (.Attribute (.Name x p) "append" apos) [.Call (.Attribute (.Name y py) "pop" apos2) [e] [] pos2] [] pos) none pos'.line X.env = pure false) :
    PS X (.Expr (.Call (.Attribute (.Name x p) "append" apos) [.Call (.Attribute (.Name y py) "pop" apos2) [e] [] pos2] [] pos) pos') (tS N (exS cl wf (.appPop i j ee))) :=
  ps_of (ps_expr (hm (pe_var hi hv hd hcd) (pa_cons (hm2 (pe_var hj hvj hdj hcdj) (pa_cons he pa_nil hs2)) pa_nil hs1)) hs) fun D σ H ⟨F, ρ, st, g, o, ρ', st', em, q⟩ => by
    unfold exS at em
    split at em
    · rename_i xs0 ys0 h0 hj0
      split at em
      · rename_i k ρ1 st1 h1
        split at em
        · rename_i xs ys h2 h3
          simp only [Option.ite_none_right_eq_some] at em
          obtain ⟨⟨hij, hl, hk0, hk1⟩, em⟩ := em
          split at em
          · rename_i yv hy
            cases em
            obtain ⟨a, vs0, k1, _, k3, _⟩ := g.lst h0
            obtain ⟨b, us0, l1, _, l3, _⟩ := g.lst hj0
            refine ⟨_, k1, .inl ⟨rfl, _, SqL.of k3⟩, _, l1, .inl ⟨rfl, _, SqL.of l3⟩, F, ρ, st, g, _, _, _, h1, fun F1 H1 v e1 g1 r1 => ?_⟩
            obtain ⟨a', vs, m1, m2, m3, m4⟩ := g1.lst h2
            rw [k1] at m1; cases m1
            obtain ⟨b', us, n1, n2, n3, n4⟩ := g1.lst h3
            rw [l1] at n1; cases n1
            have hv : v = .int k := by simpa [Rep] using (show Rep N.R F1 (.int k) v from r1)
            obtain ⟨w, w1, w2⟩ := n4.get hy
            have hkl : k.toNat < us.length := (List.getElem?_eq_some_iff.mp w1).1
            have nab : a ≠ b := fun z => g1.apart i j _ _ a hij (ownL_eq h2) (ownL_eq h3) k1 (by rw [z]; exact l1)
            refine ⟨b, us, k, k.toNat, w, rfl, by rw [hv], n3, by omega, by omega, ?_, w1, ?_⟩
            · have : L2.ixN us.length k = some k.toNat := by unfold L2.ixN; rw [if_pos hk0, if_pos (by omega)]
              exact (L2.ixN_seq this).1
            · have g2 := g1.wrOwn (o := .lst (us.eraseIdx k.toNat)) (d' := .lst (ys.eraseIdx k.toNat)) (ownL_eq h3) l1 fun H' z => ⟨_, z, n4.eraseIdx _⟩
              refine ⟨a, vs, w, rfl, rfl, by rw [upd_ne nab]; exact m3, by rw [← m4.length, line_lim]; exact hl, ?_⟩
              exact q F1 _ σ e1.fz (g2.wrOwn (d := .lst xs) (by rw [List.getElem?_set_ne (Ne.symm hij)]; exact ownL_eq h2) k1 fun H' z => ⟨vs ++ [w], z, m4.append (Reps.one w2)⟩)
          · cases em
        · cases em
      · cases em
    · cases em
/-- x[k] = v, x a list or a dict -/
theorem put_any {k : Ky} : ∀ {ks : List Ky} {vs : List V}, ks.length = vs.length → (((ks.map ky).zip vs).any fun kv => decide (kv.1 = ky k)) = ks.any (fun c => decide (c = k))
  | [], vs, _ => by simp
  | c :: cs, [], h => by cases h
  | c :: cs, v :: vs, h => by
    simp only [List.map_cons, List.zip_cons_cons, List.any_cons]
    rw [put_any (by simpa using h)]
    congr 1
    by_cases q : c = k
    · subst q; simp
    · rw [decide_eq_false q, decide_eq_false (fun z => q (ky_inj z))]
theorem put_map {k : Ky} {v : V} : ∀ {ks : List Ky} {vs : List V}, ks.length = vs.length → ((ks.map ky).zip vs).map (fun kv => if kv.1 = ky k then (kv.1, v) else kv) = (ks.map ky).zip (List.zipWith (fun c x => if c = k then v else x) ks vs)
  | [], vs, _ => by simp
  | c :: cs, [], h => by cases h
  | c :: cs, u :: vs, h => by
    simp only [List.map_cons, List.zip_cons_cons, List.zipWith_cons_cons]
    rw [put_map (by simpa using h)]
    congr 1
    by_cases q : c = k
    · subst q; simp
    · rw [if_neg q, if_neg (fun z => q (ky_inj z))]
theorem put_reps {R : RC} {F : Hp} {k : Ky} {d : D} {v : V} (r : Rep R F d v) : ∀ {ks : List Ky} {ds : List D} {vs : List V}, Reps R F ds vs → Reps R F (List.zipWith (fun c x => if c = k then d else x) ks ds) (List.zipWith (fun c x => if c = k then v else x) ks vs)
  | [], ds, vs, _ => by simpa using (Reps.nil : Reps R F [] [])
  | c :: cs, [], vs, h => by simp only [Reps] at h; subst h; simpa using (Reps.nil : Reps R F [] [])
  | c :: cs, e :: ds, vs, h => by
    simp only [Reps] at h
    obtain ⟨x, xs, rfl, h2, h3⟩ := h
    simp only [List.zipWith_cons_cons]
    refine Reps.cons ?_ (put_reps r h3)
    split
    · exact r
    · exact h2
theorem put_ok {R : RC} {F H : Hp} {a : Addr} {ks : List Ky} {ds : List D} {vs : List V} {k : Ky} {d d' : D} {v : V} (h1 : H a = some (.dK ((ks.map ky).zip vs))) (hl : ks.length = vs.length) (r : Reps R F ds vs) (rv : Rep R F d v) (e : putK' ks ds k d = some d') :
    ∃ o, (∀ H', H' a = some o → OwnAt R F H' d' a) ∧ isIns d' = false ∧ DPut H a (kV (ky k)) v (upd H a o) := by
  unfold putK' at e
  have hk : putK ((ks.map ky).zip vs) (ky k) v = if ks.any (fun c => decide (c = k)) = true then (ks.map ky).zip (List.zipWith (fun c x => if c = k then v else x) ks vs) else (ks.map ky).zip vs ++ [(ky k, v)] := by
    unfold putK
    rw [put_any hl, put_map hl]
  simp only [Option.ite_none_right_eq_some] at e
  obtain ⟨hlt, e⟩ := e
  refine ⟨.dK (putK ((ks.map ky).zip vs) (ky k) v), fun H' z => ?_, ?_, DPut.k h1 ?_⟩
  · rw [hk] at z
    split at e
    · rename_i hh
      cases e
      rw [if_pos hh] at z
      exact ⟨_, z, by rw [List.length_zipWith, ← hl]; simp, put_reps rv r⟩
    · rename_i hh
      cases e
      rw [if_neg hh] at z
      refine ⟨vs ++ [v], ?_, by simp [hl], r.append (Reps.one rv)⟩
      rw [z]
      congr 2
      rw [List.map_append, List.zip_append (by simp [hl])]
      rfl
  · split at e <;> (cases e; rfl)
  · rw [List.length_zip, List.length_map, line_lim]
    omega
theorem ownD_eq {ρ : Env} {i : Nat} {d : D} (h : ownD ρ i = some d) : ρ[i]? = some (some (true, d)) := by
  unfold ownD at h
  split at h
  · rename_i e; cases h; exact e
  · cases h
theorem s_put {i : Nat} {ix : Expr} {eix : E} {po px : Pos} (ok : XOk N.R X) (hi : X.N[i]? = some x) (hv : Vis X.env.scope x) (hd : (x == ("__debug__" : Str)) = false) (hcd : (x == ("__classdict__" : Str)) = false) (he : PE X e (tE N .val (evE cl ee))) (hx : PE X ix (tE N .top (evE cl eix)))
    (hs : swapsWith e (some (.Subscript (.Name x po) ix px)) pos.line X.env = pure false) (hs2 : swapsWithSole [.Subscript (.Name x po) ix px] e pos.line X.env = pure false) (hw : swappedStores [.Subscript (.Name x po) ix px] e X.env = pure none)
    (h1 : (assignEach [.Subscript (.Name x po) ix px] X.env).map (·.2) = [assign (.Subscript (.Name x po) ix px) X.env])
    (ha : ∀ v, assign (.Subscript (.Name x po) ix px) X.env v = (do
      let ov ← holding [v] (eval (.Name x po) X.env)
      let iv ← holding [v, ov] (eval ix X.env)
      standAt px
      holding [v, ov, iv] (setItem ov iv v)
      release [v, ov, iv] [])) : PS X (.Assign [.Subscript (.Name x po) ix px] e pos) (tS N (exS cl wf (.put i eix ee))) :=
  ps_of (ps_or (ps_asg he (pg_sub (pe_var hi hv hd hcd) hx set_list ha) hs2 hw h1) (ps_dput (lt1 ok) (pe_var hi hv hd hcd) hx he hs)) fun D σ H ⟨F, ρ, st, g, o, ρ', st', em, q⟩ => by
    unfold exS at em
    split at em
    · cases em
    rename_i d00 e0
    split at em
    · cases em
    rename_i d ρ1 st1 e1
    split at em
    · cases em
    rename_i k ρ2 st2 e2
    split at em
    · cases em
    rename_i d0 e3
    split at em
    · cases em
    rename_i d' e4
    cases em
    obtain ⟨a, s1, _, _⟩ := g.ownAt (ownD_eq e0)
    cases d0 <;> simp only [putD, reduceCtorEq] at e4
    case lst xs =>
      cases k <;> simp only [reduceCtorEq, Option.map_eq_some_iff] at e4
      obtain ⟨j, e5, rfl⟩ := e4
      refine .inl ⟨F, ρ, st, g, _, _, _, e1, fun F1 H1 v k1 g1 r1 => ⟨_, s1, F1, _, _, g1, _, _, _, e2, fun F2 H2 u k2 g2 r2 => ?_⟩⟩
      obtain ⟨b, s2, _, vs, z1, z2⟩ := g2.ownAt (ownD_eq e3)
      rw [s1] at s2; cases s2
      refine ⟨a, vs, _, j, rfl, RepT.int r2, z1, by rw [← z2.length]; exact e5, ?_⟩
      exact q F2 _ σ (k1.trans k2).fz (g2.wrOwn (ownD_eq e3) s1 fun H' z => ⟨_, z, z2.set (Rep.mono k2.fz _ _ r1) j⟩)
    case dct ks xs =>
      cases k <;> simp only [reduceCtorEq] at e4
      all_goals
        refine .inr ⟨F, ρ, st, g, _, _, _, e1, fun F1 H1 v k1 g1 r1 => ⟨_, s1, F1, _, _, g1, _, _, _, e2, fun F2 H2 u k2 g2 r2 => ?_⟩⟩
        obtain ⟨b, s2, _, vs, z1, z2, z3⟩ := g2.ownAt (ownD_eq e3)
        rw [s1] at s2; cases s2
        obtain ⟨o, o1, o3, o2⟩ := put_ok z1 z2 z3 (Rep.mono k2.fz _ _ r1) e4
        first
        | (have hu := RepT.int r2; subst hu; exact ⟨a, _, rfl, o2, q F2 _ σ (k1.trans k2).fz (g2.wrOwn (ownD_eq e3) s1 o1 (fun h => by rw [o3] at h; cases h))⟩)
        | (have hu := RepT.str r2; subst hu; exact ⟨a, _, rfl, o2, q F2 _ σ (k1.trans k2).fz (g2.wrOwn (ownD_eq e3) s1 o1 (fun h => by rw [o3] at h; cases h))⟩)
end
end Ev
/-! Ev14 -/
/-! Ev14: fields stored, classes made, defs by their bodies. -/
namespace Ev
open PySem PySem.Spec PyProof.Rows L2

theorem putF_new {f : Str} {v : V} : ∀ {l : List (Str × V)}, l.lookup f = none → putF f v l = l ++ [(f, v)]
  | [], _ => rfl
  | (g, u) :: r, h => by
    rw [List.lookup_cons] at h
    cases e : f == g with
    | true => rw [e] at h; cases h
    | false =>
      rw [e] at h
      have ne : ¬ g = f := fun z => by rw [z] at e; simp at e
      show (if g = f then _ else (g, u) :: putF f v r) = _
      rw [if_neg ne, putF_new h]; rfl
section
variable {N : RN} {X : Cx} {cl : Cl} {wf : Nat} {x : Str} {pos pos' p apos : Pos} {a b c e o : Expr} {es : List Expr} {ea eb ec ee eo : E} {ees : List E} {f : String}
theorem s_fst {i : Nat} (ok : XOk N.R X) (hi : X.N[i]? = some x) (hv : Vis X.env.scope x) (hd : (x == ("__debug__" : Str)) = false) (hcd : (x == ("__classdict__" : Str)) = false) (he : PE X e (tE N .val (evE cl ee)))
    (hcl : ∀ C c, N.R.cls C c → InsC N.R.K c → NoAttr N.R.K c (nm f)) (hs : swapsWith e (some (.Attribute (.Name x p) (nm f) pos')) pos.line X.env = pure false) :
    PS X (.Assign [.Attribute (.Name x p) (nm f) pos'] e pos) (tS N (exS cl wf (.fst i f ee))) :=
  ps_of (ps_fld (pe_var hi hv hd hcd) he hs) fun D σ H ⟨F, ρ, st, g, o, ρ', st', em, q⟩ => by
    unfold exS at em
    split at em
    · cases em
    rename_i d0 e0
    split at em
    · cases em
    rename_i d ρ1 st1 e1
    split at em
    · rename_i C fs xs e2
      simp only [Option.ite_none_right_eq_some, Option.some.injEq, Prod.mk.injEq] at em
      obtain ⟨⟨hf, hl⟩, rfl, rfl, rfl⟩ := em
      obtain ⟨a, s1, _, _⟩ := g.ownAt (ownD_eq e0)
      refine ⟨F, ρ, st, g, _, _, _, e1, fun F1 H1 v k1 g1 r1 => ⟨_, s1, ?_⟩⟩
      obtain ⟨b, s2, _, vs, ⟨c, dx, h1, h2⟩, h3, h4⟩ := g1.ownAt (ownD_eq e2)
      rw [s1] at s2; cases s2
      refine ⟨a, c, dx, _, rfl, h2, by rw [ok.K]; exact h1.2.cl, by rw [ok.K]; exact hcl _ c h1.1 h1.2, ?_, ?_⟩
      · rw [List.length_zip, List.length_map]; omega
      · refine q F1 _ σ k1.fz (g1.wrOwn (ownD_eq e2) s1 fun H' z => ⟨vs ++ [v], ⟨c, dx, h1, ?_⟩, by simp [h3], h4.append (Reps.one r1)⟩)
        rw [z, putF_new (look_no hf), List.map_append, List.zip_append (by simp [h3])]
        rfl
    · cases em
end

/-! ### a def's promise from its body -/
section
variable {R : RC} {P : Program} {w : World} {base : Heap}
/-- what a body's derivation says, for each context of its def -/
def BodyOk (R : RC) (P : Program) (w : World) (base : Heap) (k : Nat) (cl : Cl) (wf : Nat) (st : Stmt) (Ns : List Str) (body : List S) : Prop :=
  ∀ (X : Cx) (N : RN), X.prog = P → X.w = w → X.base = base → X.N = Ns → X.env.scope = defScope st → XOk R X → Room k X.A → X.xe = (fun _ _ => False) → X.fn = (fun _ => true) → N.R = R → PSs X (defBody st) (tS N (exL cl wf body))
theorem start_get {f : Fn} {ds : List D} {j : Nat} {s : Slot} (h : (start f ds)[j]? = some s) : s = none ∨ ∃ d, ds[j]? = some d ∧ s = some (false, d) := by
  unfold start at h
  by_cases hj : j < ds.length
  · rw [List.getElem?_append_left (by simpa using hj), List.getElem?_map, List.getElem?_eq_getElem hj] at h
    cases h
    exact .inr ⟨_, List.getElem?_eq_getElem hj, rfl⟩
  · rw [List.getElem?_append_right (by simp; omega), List.getElem?_replicate] at h
    split at h
    · cases h; exact .inl rfl
    · cases h
theorem start_v {Ns : List Str} {vs : List V} {j : Nat} {v : V} (hv : vs[j]? = some v) : (L2.start Ns vs)[j]? = some (some v) := by
  unfold L2.start
  have hj : j < vs.length := (List.getElem?_eq_some_iff.mp hv).1
  rw [List.getElem?_append_left (by simpa using hj), List.getElem?_map, hv]; rfl
theorem fn_ok {k : Nat} {cl : Cl} {wf : Nat} {x qual : Str} {st : Stmt} {f : Addr} {fd : FuncData} {Ns ps : List Str} {body : List S} (F : Fun R.K x qual st f fd) (S : FnScope Ns ps (defScope st)) (hle : ps.length ≤ Ns.length) (h : BodyOk R P w base k cl wf st Ns body) :
    FnOk P w R.K R.mg base CX0 (k + 1) f fd ps (spV R (runFn wf cl ⟨ps.length, Ns.length, body, none⟩) ps.length) := by
  refine F.ok S (fun vs H Q E h => h.1) (fun cdv A outer s H vs Q E hr hsp => ?_)
  obtain ⟨hl, F0, ds, s0, h1, h2, h3, d, st', h4, q⟩ := hsp
  refine ⟨_, h _ ⟨R, F0, H, fun _ => False, 0⟩ rfl rfl rfl rfl rfl ⟨rfl, rfl, S.nd, rfl, hr.units⟩ hr rfl rfl rfl, ?_⟩
  have hd : ds.length = ps.length := by rw [h3.length, hl]
  unfold runFn at h4
  rw [if_pos hd] at h4
  -- the state at the entry
  have g0 : Gd ⟨R, F0, H, fun _ => False, 0⟩ F0 H (L2.start Ns vs) (start ⟨ps.length, Ns.length, body, none⟩ ds) s0 := by
    have no : ∀ (j : Nat) (e : D), (start ⟨ps.length, Ns.length, body, none⟩ ds)[j]? = some (some (true, e)) → False := fun j e z => by
      rcases start_get z with z | ⟨d, _, z⟩ <;> cases z
    refine ⟨⟨h1, h2, ?_, fun j s x z1 z2 => ?_, fun j k d e a _ z _ _ _ => (no j d z).elim⟩, Ext.refl _ _ _, fun j d a z _ => (no j d z).elim, fun a z => z.elim, fun j d a z _ => (no j d z).elim⟩
    · unfold start L2.start
      simp [hd, hl]
    · rcases start_get z1 with rfl | ⟨d, z3, rfl⟩
      · trivial
      · obtain ⟨v, z4, z5⟩ := h3.get z3
        rw [start_v z4] at z2; cases z2
        exact ⟨v, rfl, z5⟩
  split at h4
  · rename_i d2 ρ2 st2 h5
    cases h4
    exact ⟨F0, _, s0, g0, .rt d, ρ2, st', h5, fun F' H' v e hs hst r => q F' H' v e hs hst r⟩
  · rename_i ρ2 st2 h5
    cases h4
    exact ⟨F0, _, s0, g0, .nx, ρ2, st', h5, fun F' H' σ' _ g' => q F' H' .non g'.ent g'.sub g'.st (by simp [Rep])⟩
  · cases h4

/-! ### a class made -/
def cut (H : Hp) (a : Addr) : Hp := fun b => if b = a then none else H b
theorem cut_ne {H : Hp} {a b : Addr} (h : b ≠ a) : cut H a b = H b := if_neg h
theorem cut_same {H : Hp} {a : Addr} : cut H a a = none := if_pos rfl
/-- __init__'s promise -/
def spI (R : RC) (C : String) (f : List D → PSt → Option (D × PSt)) (n : Nat) : Sp := fun vs H Q _ => vs.length = n ∧ ∃ F ds st a us, vs = .ref a :: us ∧ (∃ c dx, (R.cls C c ∧ InsC R.K c) ∧ H a = some (.ins c dx [])) ∧ F a = none ∧ ¬ R.bad a ∧ Same F H ∧ StOk R F H st ∧ Reps R F ds us ∧
  ∃ d st', f ds st = some (d, st') ∧ ∀ F' H', Ext R F (cut H a) F' H' → Same F' H' → StOk R F' H' st' → F' a = none → OwnAt R F' H' d a → Q .non H'
theorem ini_ok {k : Nat} {cl : Cl} {wf : Nat} {x qual : Str} {st : Stmt} {f : Addr} {fd : FuncData} {Ns ps : List Str} {body : List S} {C : String} (F : Fun R.K x qual st f fd) (S : FnScope Ns ps (defScope st)) (hle : ps.length ≤ Ns.length) (h : BodyOk R P w base k cl wf st Ns body) :
    FnOk P w R.K R.mg base CX0 (k + 1) f fd ps (spI R C (runIni wf cl ⟨ps.length, Ns.length, body, some C⟩ C) ps.length) := by
  refine F.ok S (fun vs H Q E h => h.1) (fun cdv A outer s H vs Q E hr hsp => ?_)
  obtain ⟨hl, F0, ds, s0, a, us, rfl, ⟨c, dx, hc, ha⟩, hFa, nb, h1, h2, h3, d, st', h4, q⟩ := hsp
  refine ⟨_, h _ ⟨R, F0, cut H a, fun _ => False, a⟩ rfl rfl rfl rfl rfl ⟨rfl, rfl, S.nd, rfl, hr.units⟩ hr rfl rfl rfl, ?_⟩
  have hd : ds.length + 1 = ps.length := by rw [h3.length, ← hl]; rfl
  unfold runIni at h4
  rw [if_pos hd] at h4
  have g0 : Gd ⟨R, F0, cut H a, fun _ => False, a⟩ F0 H (L2.start Ns (.ref a :: us)) (some (true, .ins C [] []) :: start ⟨ps.length, Ns.length, body, some C⟩ ds) s0 := by
    have only : ∀ (j : Nat) (e : D), (some (true, .ins C [] []) :: start ⟨ps.length, Ns.length, body, some C⟩ ds : Env)[j]? = some (some (true, e)) → j = 0 := fun j e z => by
      cases j with
      | zero => rfl
      | succ j =>
        rw [List.getElem?_cons_succ] at z
        rcases start_get z with z | ⟨d, _, z⟩ <;> cases z
    have s0' : (L2.start Ns (.ref a :: us))[0]? = some (some (V.ref a)) := start_v rfl
    refine ⟨⟨h1, h2, ?_, fun j s x z1 z2 => ?_, fun j k d e b n z1 z2 _ _ => absurd ((only j d z1).trans (only k e z2).symm) n⟩, ⟨Same.refl _, fun b o z => .inr ?_, fun _ _ z => z⟩, fun j d b z1 z2 => ?_, fun a z => z.elim, fun j d b z1 z2 _ => ?_⟩
    · unfold start L2.start
      simp only [List.length_cons, List.length_append, List.length_map, List.length_replicate]
      have := h3.length
      omega
    · cases j with
      | zero =>
        rw [s0'] at z2; cases z2
        cases z1
        exact ⟨a, rfl, hFa, nb, [], ⟨c, dx, hc, ha⟩, rfl, Reps.nil⟩
      | succ j =>
        rw [List.getElem?_cons_succ] at z1
        rcases start_get z1 with rfl | ⟨d, z3, rfl⟩
        · trivial
        · obtain ⟨v, z4, z5⟩ := h3.get z3
          rw [start_v (v := v) (by simpa using z4)] at z2; cases z2
          exact ⟨v, rfl, z5⟩
    · have z : cut H a b = some o := z
      by_cases q : b = a
      · rw [q, cut_same] at z; cases z
      · rw [cut_ne q] at z; exact z
    · have := only j d z1
      subst this
      rw [s0'] at z2; cases z2
      exact cut_same
    · have := only j d z1
      subst this
      rw [s0'] at z2; cases z2
      rfl
  split at h4
  · rename_i ρ2 st2 h5
    split at h4
    · rename_i C' fs xs h6
      simp only [Option.ite_none_right_eq_some, Option.some.injEq, Prod.mk.injEq] at h4
      obtain ⟨rfl, rfl, rfl⟩ := h4
      refine ⟨F0, _, s0, g0, .nx, ρ2, st2, h5, fun F' H' σ' _ g' => ?_⟩
      obtain ⟨b, z1, z2, z3⟩ := g'.ownAt (ownD_eq h6)
      have := g'.self 0 _ b (ownD_eq h6) z1 rfl
      subst this
      exact q F' H' g'.ent g'.sub g'.st z2 z3
    · cases h4
  · cases h4
end
end Ev
/-! Ev15 -/
/-! Ev15: a class called; what the syntax tells of its forms. -/
namespace Ev
open PySem PySem.Spec PyProof.Rows L2

section
variable {N : RN} {X : Cx} {cl : Cl} {x : Str} {pos p : Pos} {e : Expr} {es : List Expr} {ees : List E} {f : String}
theorem e_make {ps : List Str} {CX : CXT} {k : Nat} {c A : Addr} {fd : FuncData} {E : XK} {C : String} (ok : XOk N.R X) (M : Mk X.K c A) (F1 : FnOk X.prog X.w X.K X.mg X.base CX k A fd ps (spI N.R C (cl f) ps.length)) (hr : Room (k + 1) X.A) (hm : X.mg x = some (.ref c)) (hc : N.R.cls C c ∧ InsC N.R.K c) (hb : Binds X.K fd ps []) (hx : Passes CX X E)
    (hlen : ees.length + 1 = ps.length) (hg : Gl X x) (ha : PA X (e :: es) (tA N .val (evEs cl ees))) (hdb : (x == ("__debug__" : Str)) = false)
    (he : starEach (e :: es) X.env = (false, eval e X.env) :: starEach es X.env) (hpl : (backTo pos (starEach es X.env)).any (·.1) = false) : PE X (.Call (.Name x p) (e :: es) [] pos) (tE N .val (evE cl (.call f ees))) :=
  pe_of (pe_make M F1 hr hg hm hb .nil hx ha hdb he hpl) fun σ H Q ⟨F, ρ, st, g, d, ρ', st', em, q⟩ => by
    unfold evE at em
    split at em
    · cases em
    rename_i ds ρ1 st1 h1
    split at em
    · cases em
    rename_i z st2 hz
    cases em
    refine ⟨F, ρ, st, g, _, _, _, h1, fun F1 H1 vs e1 g1 r1 => fun a dx ha hdx hne => ?_⟩
    have r1 : Reps N.R F1 ds vs := r1
    obtain ⟨e2, g2⟩ := g1.laidOwn (o := .own a) hdx
    have ha2 : upd H1 dx (.own a) a = none := by rw [upd_ne (Ne.symm hne)]; exact ha
    have hcut : cut (upd (upd H1 dx (.own a)) a (.ins c dx [])) a = upd H1 dx (.own a) := by
      funext b
      by_cases q : b = a
      · rw [q, cut_same, ha2]
      · rw [cut_ne q, upd_ne q]
    obtain ⟨nb, no⟩ := g2.toGood.noown ha2
    obtain ⟨_, g3⟩ := g2.laidOwn (o := .ins c dx []) ha2
    refine ⟨?_, F1, ds, st1, a, vs, by rw [List.append_nil], ⟨c, dx, hc, upd_same⟩, g2.sub.free ha2, nb, g3.sub, g3.st, r1, d, st', hz, fun F' H' x hs hst hF ho => ⟨rfl, ?_⟩⟩
    · rw [List.length_cons, List.length_append, ← r1.length, evEs_len _ _ _ _ _ _ h1, List.length_nil]; exact hlen
    · rw [hcut] at x
      have g4 := g2.ext x hs hst
      obtain ⟨o, z1, z2⟩ := ho.frozen
      obtain ⟨e5, g5⟩ := g4.freeze z1 hF (g2.new0 ha2) nb (g2.nors ha2) no
      exact q _ _ _ (((e1.trans e2).trans x.go).trans e5) g5 (z2 _ e5.fz upd_same)
end

/-! ### forms -/
def plainTest : Expr → Bool
  | .UnaryOp .Not _ _ => false
  | .BoolOp _ _ _ => false
  | .IfExp _ _ _ _ => false
  | .Compare _ _ _ _ => false
  | _ => true
theorem isTrue_of {e : Expr} (h : plainTest e = true) (env : PySem.Env) (whole : Sem Value) : isTrue e env whole = (do let v ← whole; standAt e.pos; holding [v] (truthy v)) := by
  cases e <;> first
    | rfl
    | (simp [plainTest] at h; done)
    | (rename_i op a b; cases op <;> first | rfl | (simp [plainTest] at h; done))
def unstar : Expr → Bool
  | .Starred _ _ => false
  | _ => true
theorem star_cons {e : Expr} (h : unstar e = true) (es : List Expr) (env : PySem.Env) : starEach (e :: es) env = (false, eval e env) :: starEach es env := by
  cases e <;> first | rfl | cases h
theorem star_any {es : List Expr} (h : es.all unstar = true) (pos : Pos) (env : PySem.Env) : (backTo pos (starEach es env)).any (·.1) = false := by
  induction es with
  | nil => rfl
  | cons e es ih =>
    rw [List.all_cons, Bool.and_eq_true] at h
    rw [star_cons h.1]
    show (false || (backTo pos (starEach es env)).any (·.1)) = false
    rw [ih h.2]; rfl
theorem star_all {es : List Expr} (h : es.all unstar = true) (pos : Pos) (env : PySem.Env) : (backTo pos (starEach es env)).all (fun x => !x.1) = true := by
  induction es with
  | nil => rfl
  | cons e es ih =>
    rw [List.all_cons, Bool.and_eq_true] at h
    rw [star_cons h.1]
    show (!false && (backTo pos (starEach es env)).all (fun x => !x.1)) = true
    rw [ih h.2]; rfl
def baseOk : Expr → Bool
  | .Call _ [] [] _ => false
  | _ => true
theorem base_of {o : Expr} (h : baseOk o = true) (m : Str) (env : PySem.Env) (w : Sem Value) : attributeBase o m env w = w := by
  cases o <;> first
    | rfl
    | (rename_i f as ks p
       cases f <;> first
         | rfl
         | (cases as <;> first | rfl | (cases ks <;> first | rfl | cases h)))
def noSlice : Expr → Bool
  | .Slice _ _ _ _ => false
  | _ => true
theorem plainIx_of {b : Expr} (h : noSlice b = true) : PlainIx b := fun o i => by
  cases b <;> first | rfl | cases h
theorem noSl_of {b : Expr} (h : noSlice b = true) : NoSl b := fun o i => by
  cases b <;> first | rfl | cases h
def noComp : Expr → Bool
  | .ListComp _ _ _ _ => false
  | .SetComp _ _ _ _ => false
  | .DictComp _ _ _ _ _ => false
  | _ => true
theorem swaps_of {e : Expr} (h : noComp e = true) (t : Option Expr) (l : Nat) (env : PySem.Env) : swapsWith e t l env = pure false := by
  cases e <;> first | rfl | cases h
theorem swaps_of2 {e : Expr} {a : Expr} {f : Str} {p : Pos} (l : Nat) (env : PySem.Env) : swapsWith e (some (.Attribute a f p)) l env = pure false := by
  cases e <;> rfl
theorem swaps_of3 {e : Expr} {a b : Expr} {p : Pos} (l : Nat) (env : PySem.Env) : swapsWith e (some (.Subscript a b p)) l env = pure false := by
  cases e <;> rfl
def noSet : Expr → Bool
  | .Set _ _ _ => false
  | _ => true
theorem folded_of {e : Expr} (h : noSet e = true) (env : PySem.Env) : ∀ x, foldedSetIterable e env x = pure x := fun x => by
  cases e <;> first | rfl | cases h
theorem marks_of {e : Expr} (h : noSet e = true) (op : CmpOp) : behindInMarks op e = false := by
  cases e <;> first | rfl | cases h
theorem assignSub (o i : Expr) (pos : Pos) (env : PySem.Env) (h : noSlice i = true) (v : Value) : assign (.Subscript o i pos) env v = (do
      let ov ← holding [v] (eval o env)
      let iv ← holding [v, ov] (eval i env)
      standAt pos
      holding [v, ov, iv] (setItem ov iv v)
      release [v, ov, iv] []) := by
  cases i <;> first | rfl | cases h
/-- a call in the method's form -/
theorem meth_tree {o : Expr} {m : Str} {apos pos : Pos} {es : List Expr} {env : PySem.Env} (hb : baseOk o = true) (hl : (apos.endLine == pos.line) = true) (hf : es.all unstar = true) (hn : es.length < 29) :
    eval (.Call (.Attribute o m apos) es [] pos) env = (do
      let ov ← eval o env
      standAt apos.atName
      let (f, first) ← holding [ov] (getMethod ov m (do return (← importBound o env).getD true))
      callWith pos f first (backTo pos (starEach es env)) (backToKw pos (keywordEach [] env))) := by
  have hform : methodCallForm (es.length + ([] : List Keyword).length) (backTo pos (starEach es env)) (backToKw pos (keywordEach [] env)) = true := by
    unfold methodCallForm
    rw [star_all hf]
    show (true && true && decide _) = true
    simp only [Bool.true_and]
    exact decide_eq_true (by
      show es.length + 0 + (if (backToKw pos (keywordEach [] env)).isEmpty = true then 0 else 1) < 30
      have : (backToKw pos (keywordEach [] env)).isEmpty = true := rfl
      rw [this]; simp; omega)
  show (attributeBase o m env (eval o env) >>= fun ov => standAt apos.atName >>= fun _ => methodCall o m apos pos env ov (es.length + ([] : List Keyword).length) (backTo pos (starEach es env)) (backToKw pos (keywordEach [] env))) = _
  rw [base_of hb]
  congr 1
  funext ov
  congr 1
  funext _
  unfold methodCall calleeOf methodCallPos
  rw [hform]
  simp only [if_true, Bool.not_true, Bool.false_or, hl]
  rfl
end Ev
/-! Ev16 -/
/-! Ev16: calls that keep nothing of what they are handed; classes in isinstance. -/
namespace Ev
open PySem PySem.Spec PyProof.Rows L2

theorem Rep.flat_any {R : RC} {F F' : Hp} {d : D} {v : V} (f : flatD d = true) (h : Rep R F d v) : Rep R F' d v := by
  cases d <;> first | (simpa [Rep] using h) | cases f
theorem frzT {R : RC} {F H : Hp} {st : PSt} {d : D} {v : V} (s : Same F H) (hst : StOk R F H st) (h : RepT R F H d v) : ∃ F', Same F F' ∧ Same F' H ∧ StOk R F' H st ∧ Rep R F' d v := by
  rcases h with h | ⟨a, rfl, nb, ho⟩
  · exact ⟨F, Same.refl _, s, hst, h⟩
  obtain ⟨o, h1, h2⟩ := ho.frozen
  cases hF : F a with
  | some u =>
    have := s _ _ hF
    rw [h1] at this; cases this
    exact ⟨F, Same.refl _, s, hst, h2 _ (Same.refl _) hF⟩
  | none =>
    have e : Same F (upd F a o) := fun b u h => by rw [upd_ne (ne_of_none h hF)]; exact h
    refine ⟨upd F a o, e, fun b u h => ?_, hst.keep e fun b hb => ?_, h2 _ e upd_same⟩
    · by_cases q : b = a
      · subst q; rw [upd_same] at h; cases h; exact h1
      · rw [upd_ne q] at h; exact s _ _ h
    · have n : b ≠ a := fun z => nb (z ▸ hb)
      rw [upd_ne n]
      exact ⟨rfl, rfl⟩
theorem frzTs {R : RC} {H : Hp} {st : PSt} : ∀ {ds : List D} {vs : List V} {F : Hp}, Same F H → StOk R F H st → Paired (RepT R F H) ds vs → ∃ F', Same F F' ∧ Same F' H ∧ StOk R F' H st ∧ Reps R F' ds vs
  | [], _, F, s, hst, .nil => ⟨F, Same.refl _, s, hst, Reps.nil⟩
  | d :: ds, _, F, s, hst, .cons h t => by
    obtain ⟨F1, a1, a2, a3, a4⟩ := frzT s hst h
    have t1 := RepT.exts (F' := F1) (H' := H) t ⟨a1, fun _ _ h => .inr h⟩
    obtain ⟨F2, b1, b2, b3, b4⟩ := frzTs a2 a3 t1
    exact ⟨F2, a1.trans b1, b2, b3, Reps.cons (Rep.mono b1 _ _ a4) b4⟩
section
variable {N : RN} {X : Cx} {cl : Cl} {x : Str} {pos p apos : Pos} {a b c e o : Expr} {es : List Expr} {ea eb ec ee eo : E} {ees : List E} {f : String}
theorem paired_len {α β : Type} {P : α → β → Prop} : ∀ {xs : List α} {ys : List β}, Paired P xs ys → xs.length = ys.length
  | _, _, .nil => rfl
  | _, _, .cons _ t => by simp [paired_len t]
theorem e_lend {ps : List Str} {CX : CXT} {k : Nat} {A : Addr} {fd : FuncData} {E : XK} (F1 : FnOk X.prog X.w X.K X.mg X.base CX k A fd ps (spV N.R (cl f) ps.length)) (hr : Room k X.A) (hm : X.mg x = some (.ref A)) (hk : PySem.W.keepIn X.K (.ref A) = true) (hb : Binds X.K fd ps []) (hx : Passes CX X E)
    (hlen : ees.length = ps.length) (hg : Gl X x) (ha : PA X (e :: es) (tA N .top (evEs cl ees))) (hdb : (x == ("__debug__" : Str)) = false)
    (he : starEach (e :: es) X.env = (false, eval e X.env) :: starEach es X.env) (hpl : (backTo pos (starEach es X.env)).any (·.1) = false) : PE X (.Call (.Name x p) (e :: es) [] pos) (tE N .val (evE cl (.lend f ees))) :=
  pe_of (pe_call F1 hr hg hm hk hb .nil hx ha hdb he hpl) fun σ H Q ⟨F, ρ, st, g, d, ρ', st', em, q⟩ => by
    unfold evE at em
    split at em
    · cases em
    rename_i ds ρ1 st1 h1
    split at em
    · cases em
    rename_i z st2 hz
    simp only [Option.ite_none_right_eq_some, Option.some.injEq, Prod.mk.injEq] at em
    rw [Bool.and_eq_true] at em
    obtain ⟨⟨fl, hz0⟩, rfl, rfl, rfl⟩ := em
    refine ⟨F, ρ, st, g, _, _, _, h1, fun F1 H1 vs e1 g1 r1 => ?_⟩
    show spV N.R (cl f) ps.length (vs ++ []) H1 Q E
    rw [List.append_nil]
    have r1 : Paired (RepT N.R F1 H1) ds vs := r1
    obtain ⟨F2, b1, b2, b3, b4⟩ := frzTs g1.sub g1.st r1
    refine ⟨by rw [← paired_len r1, evEs_len _ _ _ _ _ _ h1, hlen], F2, ds, st1, b2, b3, b4, z, st2, hz, fun F' H' v x hs hst rr => ?_⟩
    have x2 : Ext N.R F1 H1 F1 H' := ⟨Same.refl _, x.kp, fun _ _ h => h⟩
    refine q _ _ _ (e1.trans x2.go) (g1.ext x2 (fun a o h => hs _ _ (x.fz _ _ (b1 _ _ h))) ⟨fun p hp => ?_, hst.len, hst.nd, hst.ap, fun i a d _ h2 => by rw [List.isEmpty_iff.mp hz0] at h2; cases h2⟩) (Rep.flat_any fl rr)
    obtain ⟨k1, k2, k3, k4, k5, k6⟩ := hst.sa p hp
    have dn : ∀ c, F' c = none → F1 c = none := fun c hc => by
      cases q : F1 c with
      | none => rfl
      | some u => have := x.fz _ _ (b1 _ _ q); rw [hc] at this; cases this
    exact ⟨k1, dn _ k2, dn _ k3, k4, k5, k6⟩
end
end Ev
/-! Ev16b -/
/-! Ev16b: count; zip. -/
namespace Ev
open PySem PySem.Spec PyProof.Rows L2

theorem countP_eqU {x : V} : ∀ {xs : List V} {us : List Value}, Vals xs us → xs.all flatV = true → us.countP (eqU x) = xs.countP (fun y => eqV y x)
  | _, _, .nil, _ => rfl
  | y :: xs, u :: us, .cons r t, f => by
    rw [List.all_cons, Bool.and_eq_true] at f
    rw [List.countP_cons, List.countP_cons, countP_eqU t f.2, eqU_of r f.1]
def rCountF (K : PySem.W.Frag) : V → List V → Hp → VK → Prop := fun x vs H Q => ∃ p xs y, x = .ref p ∧ vs = [y] ∧ SqL K H p xs ∧ flatV y = true ∧ xs.all flatV = true ∧ Q (.int ((xs.countP fun z => eqV z y : Nat) : Int)) H
theorem mt_countF {X : Cx} : MtR X "list.count" (rCountF X.K) := by
  intro pins s σ H x vs v us Q I rx rv h
  obtain ⟨p, xs, y, rfl, rfl, hs, fy, fx, q⟩ := h
  cases rx
  obtain ⟨u, rfl, ru⟩ := rv.one
  obtain ⟨its, r, ⟨⟨cls, dd, data, sl⟩, n, ho, hc, hdn, hd⟩, hz⟩ := I.list hs
  simp only at hc hd
  subst hc hd
  refine call_meets PySem.F.slot_list_count ⟨_, ho, rfl⟩ PySem.F.entry_list_count (PySem.F.args_list_count_2 _ _) (SeqAt.list_countAt p its.toArray n dd sl u (eqU y)) ⟨ho, fun w hw => mem_eqAt ru fy r fx w (by simpa using hw), ?_⟩
  refine ⟨.int (xs.countP fun z => eqV z y : Nat), H, I.tok _, ⟨s.toks, ?_⟩, q⟩
  rw [← countP_eqU r fx]
theorem countV_of {R : RC} {F H : Hp} {p : D} {v : V} (h1 : RepT R F H p v) (f1 : flatD p = true) : ∀ {ys : List D} {us : List V}, Reps R F ys us → ys.all flatD = true → us.countP (fun y => eqV y v) = ys.countP (fun y => eqF y p)
  | [], us, h, _ => by simp only [Reps] at h; subst h; rfl
  | y :: ys, us, h, f => by
    simp only [Reps] at h
    obtain ⟨x, xs, rfl, h2, h3⟩ := h
    rw [List.all_cons, Bool.and_eq_true] at f
    rw [List.countP_cons, List.countP_cons, countV_of h1 f1 h3 f.2, (eqV_of (H := H) (.inl h2) h1 f.1 f1).1]
section
variable {N : RN} {X : Cx} {cl : Cl} {x : Str} {pos p apos : Pos} {a b c e o : Expr} {es : List Expr} {ea eb ec ee eo : E} {ees : List E} {f : String}
theorem e_count (ok : XOk N.R X) (ho : PE X a (tE N .top (evE cl ea))) (he : PE X e (tE N .top (evE cl ee))) (hu : unstar e = true) (hb : baseOk a = true) (hline : (apos.endLine == pos.line) = true) :
    PE X (.Call (.Attribute a "count" apos) [e] [] pos) (tE N .val (evE cl (.bi .count [ea, ee]))) :=
  pe_of (pe_or (pe_bm (cpos := pos) (apos := apos) PySem.F.plainAttrs_list PySem.F.slot_list_count PySem.F.type_list_count mt_countF ho (pa_cons he pa_nil (star_cons hu _ _)) (base_of hb _ _ _) (by rw [star_all (by simp [hu])]; rfl) hline (star_cons hu _ _) rfl)
    (pe_bm (cpos := pos) (apos := apos) PySem.F.plainAttrs_str PySem.F.slot_str_count PySem.F.type_str_count mt_count ho (pa_cons he pa_nil (star_cons hu _ _)) (base_of hb _ _ _) (by rw [star_all (by simp [hu])]; rfl) hline (star_cons hu _ _) rfl)) fun σ H Q ⟨F, ρ, st, g, d, ρ', st', em, q⟩ => by
    unfold evE evEs evEs evEs at em
    split at em
    · cases em
    rename_i ds ρ1 st1 h1
    split at em
    · cases em
    rename_i z hz
    cases em
    split at h1
    · cases h1
    rename_i d1 ρ1 st1 e1
    split at h1
    · cases h1
    rename_i dl ρ2 st2 e2
    cases h1
    split at e2
    · cases e2
    rename_i d2 ρ2 st2 e3
    cases e2
    cases d1 <;> simp only [biD, reduceCtorEq] at hz
    case lst xs =>
      simp only [Option.ite_none_right_eq_some, Option.some.injEq, Bool.and_eq_true] at hz
      obtain ⟨⟨f1, f2⟩, rfl⟩ := hz
      refine .inl ⟨F, ρ, st, g, _, _, _, e1, fun F1 H1 v k1 g1 r1 => ?_⟩
      have r1 : RepT N.R F1 H1 (.lst xs) v := r1
      obtain ⟨c0, vs0, ev, m1, m2⟩ := r1.lst g1.sub
      refine ⟨by subst ev; exact Or.inl ⟨rfl, _, SqL.of m1⟩, F1, _, _, g1, _, _, _, e3, fun F2 H2 u k2 g2 r2 => ?_⟩
      obtain ⟨c, vs, rfl, h1, h2⟩ := (r1.ext k2).lst g2.sub
      have r2 : RepT N.R F2 H2 d2 u := r2
      have fu := flat_of r2 f1
      have fl : flatV u = true ∧ vs.all flatV = true := by
        refine ⟨?_, (inV_of r2 f1 h2 (by simpa using f2)).1⟩
        rcases fu with ⟨_, rfl⟩ | ⟨_, _, rfl⟩ | ⟨_, _, rfl⟩ | ⟨_, _, rfl⟩ <;> rfl
      refine ⟨c, vs, u, rfl, rfl, SqL.of h1, fl.1, fl.2, ?_⟩
      rw [countV_of r2 f1 h2 (by simpa using f2)]
      exact q _ _ _ (k1.trans k2) g2 (by show Rep N.R F2 (.int _) _; simp [Rep])
    case str l =>
      cases d2 <;> simp only [Option.some.injEq, reduceCtorEq] at hz
      subst hz
      refine .inr ⟨F, ρ, st, g, _, _, _, e1, fun F1 H1 v k1 g1 r1 => ?_⟩
      have r1 : RepT N.R F1 H1 (.str l) v := r1
      refine ⟨by rw [r1.str]; rfl, F1, _, _, g1, _, _, _, e3, fun F2 H2 u k2 g2 r2 => ?_⟩
      have r2 : RepT N.R F2 H2 _ u := r2
      exact ⟨_, _, r1.str, by rw [r2.str], q _ _ _ (k1.trans k2) g2 (by show Rep N.R F2 (.int _) _; simp [Rep])⟩
/-- zip of two lists or of two tuples -/
theorem walk_zipT {K : PySem.W.Frag} {a b : Addr} {xs ys : List V} {G : Hp → Prop} (h1 : ∀ H, G H → SqL K H a xs ∧ SqL K H b ys) : Walk (Itz K a b) (min xs.length ys.length) G (fun i H v H' => ∃ T x y, v = .ref T ∧ H T = none ∧ H' = upd H T (.tup [x, y]) ∧ xs[i]? = some x ∧ ys[i]? = some y) where
  goes := fun i H hi g => by
    obtain ⟨q1, q2⟩ := h1 H g
    have k1 : i < xs.length := by omega
    have k2 : i < ys.length := by omega
    exact ⟨xs, ys, _, _, q1, q2, List.getElem?_eq_getElem k1, List.getElem?_eq_getElem k2⟩
  stops := fun H g => ⟨xs, ys, (h1 H g).1, (h1 H g).2, by omega⟩
  yields := fun i H x H' hi g ⟨T, x', y', e1, e2, e3, e4, e5⟩ => ⟨T, x', y', e1, e2, e3, e4 _ (h1 H g).1, e5 _ (h1 H g).2⟩
theorem walk_zipTT {K : PySem.W.Frag} {a b : Addr} {xs ys : List V} {G : Hp → Prop} (h1 : ∀ H, G H → SqT K H a xs ∧ SqT K H b ys) : Walk (RZ.ItzT K a b) (min xs.length ys.length) G (fun i H v H' => ∃ T x y, v = .ref T ∧ H T = none ∧ H' = upd H T (.tup [x, y]) ∧ xs[i]? = some x ∧ ys[i]? = some y) where
  goes := fun i H hi g => by
    obtain ⟨q1, q2⟩ := h1 H g
    have k1 : i < xs.length := by omega
    have k2 : i < ys.length := by omega
    exact ⟨xs, ys, _, _, q1, q2, List.getElem?_eq_getElem k1, List.getElem?_eq_getElem k2⟩
  stops := fun H g => ⟨xs, ys, (h1 H g).1, (h1 H g).2, by omega⟩
  yields := fun i H x H' hi g ⟨T, x', y', e1, e2, e3, e4, e5⟩ => ⟨T, x', y', e1, e2, e3, e4 _ (h1 H g).1, e5 _ (h1 H g).2⟩
theorem zip_yd {R : RC} {F : Hp} {xs ys : List D} {vs us : List V} (r1 : Reps R F xs vs) (r2 : Reps R F ys us) {i : Nat} {H H' : Hp} {x : V} (h : ∃ T z w, x = .ref T ∧ H T = none ∧ H' = upd H T (.tup [z, w]) ∧ vs[i]? = some z ∧ us[i]? = some w) :
    YD R F ((xs.zip ys).map fun p => D.tup [p.1, p.2]) i H x H' := by
  obtain ⟨T, z, w, e1, e2, e3, e4, e5⟩ := h
  obtain ⟨d, k1, k2⟩ := r1.get' e4
  obtain ⟨d', m1, m2⟩ := r2.get' e5
  refine ⟨.tup [d, d'], ?_, .inr ⟨T, [z, w], [d, d'], e1, e2, e3, rfl, Reps.cons k2 (Reps.one m2)⟩⟩
  rw [List.getElem?_map, (List.getElem?_zip_eq_some (z := (d, d'))).mpr ⟨k1, m1⟩]
  rfl
theorem i_zip {e e2 : Expr} {ee2 : E} {elts : List Expr} {kk : Nat} {tpos : Pos} (ok : XOk N.R X) (hg : Gl X "zip") (hm : X.mg "zip" = none) (h : PE X e (tE N .val (evE cl ee))) (h2 : PE X e2 (tE N .val (evE cl ee2))) (hu : unstar e = true) (hu2 : unstar e2 = true) :
    PI X (.Tuple elts kk tpos) (.Call (.Name "zip" p) [e, e2] [] pos) (tI N (srcM cl .zp [ee, ee2])) :=
  pi_of (RZ.pi_zipA hg hm (a_val h (a_val h2 a_nil (star_cons hu2 _ _)) (star_cons hu _ _)) (star_cons hu _ _) (star_any (by simp [hu2]) _ _)) fun σ H Q ⟨F, ρ, st, g, ds, ρ', st', em, q⟩ => by
    unfold srcM at em
    split at em
    · cases em
    rename_i es ρ1 st1 h1
    split at em
    · cases em
    rename_i xs h3
    cases em
    refine ⟨F, ρ, st, g, _, _, _, h1, fun F1 H1 vs e1 g1 r1 => ?_⟩
    have r1 : Reps N.R F1 es vs := r1
    have hl := evEs_len _ _ _ _ _ _ h1
    match es, hl with
    | [d1, d2], _ =>
      simp only [Reps] at r1
      obtain ⟨v1, _, rfl, k1, v2, _, rfl, k2, rfl⟩ := r1
      cases d1 <;> simp only [srcD, reduceCtorEq] at h3
      case lst as =>
        cases d2 <;> simp only [Option.some.injEq, reduceCtorEq] at h3
        rename_i bs
        subst h3
        simp only [Rep] at k1 k2
        obtain ⟨a1, us1, rfl, m1, m2⟩ := k1
        obtain ⟨a2, us2, rfl, n1, n2⟩ := k2
        refine ⟨a1, a2, us1, us2, rfl, .inl ⟨SqL.of (g1.sub _ _ m1), SqL.of (g1.sub _ _ n1), q _ _ _ e1 g1 ?_⟩⟩
        rw [ok.K]
        unfold WalkD
        rw [List.length_map, List.length_zip, m2.length, n2.length]
        exact (walk_zipT (G := fun H => Same F1 H) fun H hs => ⟨SqL.of (hs _ _ m1), SqL.of (hs _ _ n1)⟩).mono (fun _ h => h) fun i H x H' _ _ y => zip_yd m2 n2 y
      case tup as =>
        cases d2 <;> simp only [Option.some.injEq, reduceCtorEq] at h3
        rename_i bs
        subst h3
        simp only [Rep] at k1 k2
        obtain ⟨a1, us1, rfl, m1, m2⟩ := k1
        obtain ⟨a2, us2, rfl, n1, n2⟩ := k2
        refine ⟨a1, a2, us1, us2, rfl, .inr ⟨by rw [ok.K]; exact SqT.mono g1.sub m1, by rw [ok.K]; exact SqT.mono g1.sub n1, q _ _ _ e1 g1 ?_⟩⟩
        rw [ok.K]
        unfold WalkD
        rw [List.length_map, List.length_zip, m2.length, n2.length]
        exact (walk_zipTT (G := fun H => Same F1 H) fun H hs => ⟨SqT.mono hs m1, SqT.mono hs n1⟩).mono (fun _ h => h) fun i H x H' _ _ y => zip_yd m2 n2 y
end
end Ev
/-! Ev16c -/
/-! Ev16c: the drawing state. -/
namespace Ev
open PySem PySem.Spec PyProof.Rows L2

section
variable {N : RN} {X : Cx} {cl : Cl} {wf : Nat} {x : Str} {pos pos' p apos : Pos} {a b c e o : Expr} {es : List Expr} {ea eb ec ee eo : E} {ees : List E} {f : String}
theorem isStt_eq {ρ : Env} {i : Nat} (h : isStt ρ i = true) : ρ[i]? = some (some (false, .stt)) := by
  unfold isStt at h
  split at h
  · rename_i e; exact e
  · cases h
theorem Gd.stt {F H : Hp} {σ : SS} {ρ : Env} {st : PSt} (g : Gd N F H σ ρ st) {i : Nat} (h : isStt ρ i = true) : ∃ q, N.R.sa = some q ∧ σ[i]? = some (some (V.ref q.1)) ∧ q.1 ≠ q.2 ∧ F q.1 = none ∧ F q.2 = none ∧
    H q.1 = some (.lst [.ref q.2, .int st.a, .int st.b, .int st.c]) ∧ H q.2 = some (.lst (st.cells.map V.int)) ∧ st.cells.length ≤ 63 := by
  obtain ⟨v, h1, h2⟩ := g.toGood.rd (isStt_eq h)
  have h3 := h2.rep rfl
  simp only [Rep] at h3
  obtain ⟨q, k1, rfl⟩ := h3
  exact ⟨q, k1, h1, g.st.sa q k1⟩
/-- a state's object is written -/
theorem Gd.wrSt {F H : Hp} {σ : SS} {ρ : Env} {st st' : PSt} (g : Gd N F H σ ρ st) {q : Addr × Addr} (hq : N.R.sa = some q) {b : Addr} {o : HO} (hb : b = q.1 ∨ b = q.2) (hst : StOk N.R F (upd H b o) st') : Go N.R F H F (upd H b o) ∧ Gd N F (upd H b o) σ ρ st' := by
  have bad : N.R.bad b := .inl ⟨q, hq, hb⟩
  have nF : F b = none := (g.st.bad b bad).1
  have e : Ext N.R F H F (upd H b o) := ⟨Same.refl _, fun c u h => by
    by_cases z : c = b
    · subst z; exact .inl bad
    · rw [upd_ne z]; exact .inr h, fun _ _ h => h⟩
  refine ⟨e.go, g.ext e (fun c u h => ?_) hst⟩
  rw [upd_ne (ne_of_none h nF)]
  exact g.sub _ _ h
/-- the handles as they were -/
theorem StOk.wr {R : RC} {F H : Hp} {st st' : PSt} (h : StOk R F H st) {q : Addr × Addr} (hq : R.sa = some q) {b : Addr} {o : HO} (hb : b = q.1 ∨ b = q.2) (he : st'.hd = st.hd)
    (k : ∀ p, R.sa = some p → p.1 ≠ p.2 ∧ F p.1 = none ∧ F p.2 = none ∧ upd H b o p.1 = some (.lst [.ref p.2, .int st'.a, .int st'.b, .int st'.c]) ∧ upd H b o p.2 = some (.lst (st'.cells.map V.int)) ∧ st'.cells.length ≤ 63) : StOk R F (upd H b o) st' :=
  ⟨k, by rw [he]; exact h.len, h.nd, h.ap, fun i a d h1 h2 => by
    rw [he] at h2
    obtain ⟨k1, k2⟩ := h.hd i a d h1 h2
    have n : a ≠ b := fun z => by
      obtain ⟨z1, z2⟩ := h.ap q hq
      have m := List.mem_of_getElem? h1
      rcases hb with rfl | rfl
      · exact z1 (z ▸ m)
      · exact z2 (z ▸ m)
    exact ⟨k1, k2.mono (Same.refl _) fun u e => by rw [upd_ne n]; exact e⟩⟩
theorem i0 {k : Nat} {xs : List V} {v : V} (h : xs[k]? = some v) : atI xs (k : Int) = some v := atI_nat h
theorem e_sget {i k : Nat} (hN : X.N[i]? = some x) (hv : Vis X.env.scope x) (hd : (x == ("__debug__" : Str)) = false) (hcd : (x == ("__classdict__" : Str)) = false) {j p2} : PE X (.Subscript (.Name x pos) (.Constant (.int (k : Int)) j p2) p) (tE N .val (evE cl (.sget i k))) :=
  pe_of (pe_ix ix_list (pe_var hN hv hd hcd) pe_int (plainIx_of rfl)) fun σ H Q ⟨F, ρ, st, g, d, ρ', st', em, q⟩ => by
    unfold evE at em
    split at em
    rotate_left
    · cases em
    rename_i hs
    split at em
    rotate_left
    · cases em
    rename_i v hk
    cases em
    obtain ⟨r, k1, k2, k3, k4, k5, k6, k7, k8⟩ := g.stt hs
    refine ⟨_, k2, r.1, _, _, .int v, rfl, rfl, SqL.of k6, ?_, q _ _ _ (Go.refl _ _ _) g (by show Rep N.R F (.int v) _; simp [Rep])⟩
    refine atI_nat ?_
    match k, hk with
    | 1, hk => cases hk; rfl
    | 2, hk => cases hk; rfl
    | 3, hk => cases hk; rfl
theorem ints_lay : ∀ l : List Int, PyData.canLayAll0 (l.map PyData.int) = true
  | [] => rfl
  | i :: l => by rw [List.map_cons]; simp [PyData.canLayAll0, PyData.canLay0, ints_lay l]
theorem ints_depth : ∀ l : List Int, PyData.depthAll (l.map PyData.int) ≤ 1
  | [] => by simp [PyData.depthAll]
  | i :: l => by rw [List.map_cons]; have := ints_depth l; simp only [PyData.depthAll, PyData.depth]; omega
theorem ints_shaped (l : List Int) : SeqAt.shaped (.list (l.map PyData.int)) = true := by
  unfold SeqAt.shaped
  rw [Bool.and_eq_true]
  refine ⟨by simp [PyData.canLay0, ints_lay l], decide_eq_true ?_⟩
  have := ints_depth l
  simp only [PyData.depth]; omega
theorem ints_py : ∀ {l : List Int}, toPys (l.map D.int) = some (l.map PyData.int)
  | [] => rfl
  | i :: l => by
    rw [List.map_cons]
    unfold toPys
    rw [ints_py (l := l)]
    rfl
theorem reps_ints {R : RC} {F : Hp} : ∀ {l : List Int}, Reps R F (l.map D.int) (l.map V.int)
  | [] => Reps.nil
  | i :: l => Reps.cons (by simp [Rep]) reps_ints
theorem t_snz {i : Nat} (ok : XOk N.R X) (hN : X.N[i]? = some x) (hv : Vis X.env.scope x) (hd : (x == ("__debug__" : Str)) = false) (hcd : (x == ("__classdict__" : Str)) = false) {j p2 p3 p4} : PT X (.Compare (.Subscript (.Name x pos) (.Constant (.int 0) j p2) p3) [.NotEq] [.List [] p4] p) (tT N (evE cl (.snz i))) :=
  pt_of (pt_cmpR (op_neD ok.units) (pe_ix ix_list (pe_var hN hv hd hcd) pe_int (plainIx_of rfl)) (pe_lst pa_nil) (nobehind _ (by decide) (by decide))) fun σ H Q ⟨F, ρ, st, g, d, ρ', st', em, q⟩ => by
    unfold evE at em
    split at em
    rotate_left
    · cases em
    rename_i hs
    cases em
    obtain ⟨r, k1, k2, k3, k4, k5, k6, k7, k8⟩ := g.stt hs
    refine ⟨_, k2, r.1, _, _, .ref r.2, rfl, rfl, SqL.of k6, rfl, Nat.zero_le _, fun l hl => ?_⟩
    obtain ⟨e2, g2⟩ := g.laid (o := .lst []) hl
    have nl : r.2 ≠ l := ne_of_none k7 hl
    have d1 : Dp X.K (upd H l (.lst [])) (.ref r.2) (.list (st.cells.map PyData.int)) := by
      rw [ok.K]
      refine dpT_of (R := N.R) (F := upd F r.2 (.lst (st.cells.map V.int))) (H := upd H l (.lst [])) (fun c u h => ?_) (d := .lst (st.cells.map D.int)) (.inl ?_) ?_
      · by_cases z : c = r.2
        · subst z; rw [upd_same] at h; cases h; rw [upd_ne nl]; exact k7
        · rw [upd_ne z] at h
          rw [upd_ne (ne_of_none (g.sub _ _ h) hl)]; exact g.sub _ _ h
      · simp only [Rep]
        exact ⟨r.2, _, rfl, upd_same, reps_ints⟩
      · unfold toPy
        rw [ints_py]; rfl
    have d2 : Dp X.K (upd H l (.lst [])) (.ref l) (.list []) := by
      rw [ok.K]
      exact dpT_of (R := N.R) (F := upd F l (.lst [])) (H := upd H l (.lst [])) g2.sub (d := .lst []) (.inl (by simp only [Rep]; exact ⟨l, _, rfl, upd_same, Reps.nil⟩)) (by unfold toPy toPys; rfl)
    refine ⟨_, _, d1, d2, ?_, rfl, _, rfl, ?_⟩
    · exact ints_shaped _
    · have : (!PyData.eqv (.list (st.cells.map PyData.int)) (.list [])) = !st.cells.isEmpty := by
        cases st.cells with
        | nil => rfl
        | cons i l => rfl
      rw [this]
      exact q _ _ e2 g2
theorem e_spop {i : Nat} (hN : X.N[i]? = some x) (hv : Vis X.env.scope x) (hd : (x == ("__debug__" : Str)) = false) (hcd : (x == ("__classdict__" : Str)) = false) {j j2 p2 p3 p4} (hl : (apos.endLine == pos'.line) = true) :
    PE X (.Call (.Attribute (.Subscript (.Name x pos) (.Constant (.int 0) j p2) p3) "pop" apos) [.Constant (.int 0) j2 p4] [] pos') (tE N .val (evE cl (.spop i))) :=
  pe_of (pe_bm (cpos := pos') (apos := apos) PySem.F.plainAttrs_list PySem.F.slot_list_pop PySem.F.type_list_pop mt_popAt (pe_ix ix_list (pe_var hN hv hd hcd) pe_int (plainIx_of rfl)) (pa_cons pe_int pa_nil) (base_of rfl _ _ _) (by rw [star_all (by rfl)]; rfl) hl rfl rfl) fun σ H Q ⟨F, ρ, st, g, d, ρ', st', em, q⟩ => by
    unfold evE at em
    split at em
    rotate_left
    · cases em
    rename_i hs
    split at em
    rotate_left
    · cases em
    rename_i v r hc
    cases em
    obtain ⟨w, k1, k2, k3, k4, k5, k6, k7, k8⟩ := g.stt hs
    refine ⟨_, k2, w.1, _, _, .ref w.2, rfl, rfl, SqL.of k6, rfl, .inl ⟨rfl, _, SqL.of k7⟩, w.2, _, 0, 0, .int v, rfl, rfl, k7, by decide, by decide, ?_, ?_, ?_⟩
    · rw [hc]
      unfold seqIndex?
      simp
    · rw [hc]; rfl
    · rw [hc]
      show Q (.int v) (upd H w.2 (.lst (r.map V.int)))
      obtain ⟨e2, g2⟩ := g.wrSt (st' := { st with cells := r }) (o := .lst (r.map V.int)) k1 (b := w.2) (.inr rfl) <| g.st.wr k1 (.inr rfl) rfl fun q hq => by
        rw [k1] at hq; cases hq
        exact ⟨k3, k4, k5, by rw [upd_ne k3]; exact k6, upd_same, by rw [hc] at k8; simp at k8 ⊢; omega⟩
      exact q _ _ _ e2 g2 (by show Rep N.R F (.int v) _; simp [Rep])
theorem s_sput {i k : Nat} {j : Nat} {po p2 px : Pos} (ok : XOk N.R X) (hN : X.N[i]? = some x) (hv : Vis X.env.scope x) (hd : (x == ("__debug__" : Str)) = false) (hcd : (x == ("__classdict__" : Str)) = false) (he : PE X e (tE N .val (evE cl ee))) (hn : ∀ es k p, e ≠ .Tuple es k p)
    (hw : swappedStores [.Subscript (.Name x po) (.Constant (.int (k : Int)) j p2) px] e X.env = pure none) :
    PS X (.Assign [.Subscript (.Name x po) (.Constant (.int (k : Int)) j p2) px] e pos) (tS N (exS cl wf (.sput i k ee))) :=
  ps_of (ps_asg he (pg_sub (pe_var hN hv hd hcd) pe_int set_list (assignSub _ _ _ _ rfl)) (by unfold swapsWithSole; exact swaps_of3 _ _) hw rfl) fun D σ H ⟨F, ρ, st, g, o, ρ', st', em, q⟩ => by
    unfold exS at em
    split at em
    rotate_left
    · cases em
    rename_i v ρ1 st1 e1
    split at em
    rotate_left
    · cases em
    rename_i hs
    split at em
    rotate_left
    · cases em
    rename_i st2 hp
    cases em
    refine ⟨F, ρ, st, g, _, _, _, e1, fun F1 H1 u g1 k1 r1 => ?_⟩
    have r1 : Rep N.R F1 (.int v) u := r1
    have : u = .int v := by simpa [Rep] using r1
    subst this
    obtain ⟨w, m1, m2, m3, m4, m5, m6, m7, m8⟩ := k1.stt hs
    have fin : ∀ (xs : List V), H1 w.1 = some (.lst xs) → ∀ st2, StOk N.R F1 (upd H1 w.1 (.lst (xs.set k (.int v)))) st2 → (∀ F' H' σ', Same F F' → Gd N F' H' σ' ρ' st2 → D.nx σ' H') → k < xs.length → gSub (tVar i) (tC (.int k)) rSetL (.int v) σ H1 D.nx := fun xs hx st2 hst q hk => by
      refine ⟨_, m2, w.1, xs, k, k, rfl, rfl, hx, ?_, ?_⟩
      · unfold L2.ixN
        rw [if_pos (by omega), if_pos (by omega)]; simp
      · obtain ⟨e2, g2⟩ := k1.wrSt m1 (.inl rfl) hst
        exact q _ _ _ (g1.trans e2).fz g2
    have sp : ∀ st' : PSt, stPut st1 v k = some st' → st'.hd = st1.hd := fun st' hp => by match k, hp with | 1, hp => cases hp; rfl | 2, hp => cases hp; rfl | 3, hp => cases hp; rfl
    refine fin _ m6 _ (k1.st.wr m1 (.inl rfl) (sp _ hp) fun q hq => ?_) q ?_
    · rw [m1] at hq; cases hq
      refine ⟨m3, m4, m5, ?_, by rw [upd_ne m3.symm]; rw [show st'.cells = st1.cells by (match k, hp with | 1, hp => cases hp; rfl | 2, hp => cases hp; rfl | 3, hp => cases hp; rfl)]; exact m7, by rw [show st'.cells = st1.cells by (match k, hp with | 1, hp => cases hp; rfl | 2, hp => cases hp; rfl | 3, hp => cases hp; rfl)]; exact m8⟩
      rw [upd_same]
      match k, hp with
      | 1, hp => cases hp; rfl
      | 2, hp => cases hp; rfl
      | 3, hp => cases hp; rfl
    · match k, hp with
      | 1, hp => show 1 < 4; decide
      | 2, hp => show 2 < 4; decide
      | 3, hp => show 3 < 4; decide
end
end Ev
/-! Ev16d -/
/-! Ev16d: dicts that handles stand for. -/
namespace Ev
open PySem PySem.Spec PyProof.Rows L2

/-- d.update(e), dicts whose keys are ints or texts -/
def rDUpd : V → List V → Hp → VK → Prop := fun x vs H Q => ∃ a b kvs more, x = .ref a ∧ vs = [.ref b] ∧ a ≠ b ∧ H a = some (.dK kvs) ∧ H b = some (.dK more) ∧ kvs.length + more.length ≤ sizeLine ∧ Q .non (upd H a (.dK (mergeK kvs more)))
theorem mt_dupd {X : Cx} : MtR X "dict.update" rDUpd := by
  intro pins s σ H x vs v us Q I rx rv h
  obtain ⟨a, b, kvs, more, rfl, rfl, hab, ha, hb, hz, q⟩ := h
  cases rx
  obtain ⟨u, rfl, ru⟩ := rv.one
  cases ru
  obtain ⟨z1, s1, vs1, r1, d1⟩ := dk_of I.hok ha
  obtain ⟨z2, s2, vs2, r2, d2⟩ := dk_of I.hok hb
  refine call_meetsIn PySem.F.slot_dict_update d1.typeIs PySem.F.entry_dict_update (PySem.F.args_dict_update_2 _ _) (meets_dict_update (mixKind X.prog X.w) a b hab s2) ⟨vs1, vs2, d1, d2, by rw [← r1.length, ← r2.length]; exact hz, fun h' d1' d2' hs => ?_⟩
  have he : ∃ q, h'.get? a = some q := let ⟨q, _, _, hq, _⟩ := d1'; ⟨q, hq⟩
  exact ⟨.non, _, d_write (t' := s.toks) I (by rw [ha]; exact True.intro) hs he (dk_new (Nat.le_trans (length_mergeK more kvs) hz) s1 (KV.merge r2 r1) d1'), rfl, q⟩
/-- d != {} -/
def rDNe : R2 := fun x y H Q => ∃ a b kvs, x = .ref a ∧ y = .ref b ∧ H a = some (.dK kvs) ∧ H b = some (.dK []) ∧ Q (.bl (!kvs.isEmpty)) H
theorem op_dne {X : Cx} (hu : X.A.units < cLine) : OpR X (compareOp .NotEq) rDNe := by
  intro pins s σ H x y v u Q I rx ry h
  obtain ⟨a, b, kvs, rfl, rfl, ha, hb, q⟩ := h
  cases rx
  cases ry
  obtain ⟨z1, s1, vs1, r1, da⟩ := dk_of I.hok ha
  obtain ⟨z2, s2, vs2, r2, db⟩ := dk_of I.hok hb
  cases r2
  show wpAny _ _ (richCompare .NotEq (.ref a) (.ref b)) _ _ _
  refine wpAny_richCompare_same_room (op := .NotEq) da.typeIs db.typeIs PySem.F.slot_dict_ne (wpAny_call_entry PySem.F.slot_dict_ne da.typeIs PySem.F.entry_dict_ne ?_ (PySem.F.args_dict_ne_2 _ _)) hu
  show wpAny _ _ (Builtin.Dict.dictSlotArgs "__ne__" ⟨[.ref a, .ref b], []⟩ >>= _) _ _ s
  refine wpAny_bind ?_
  unfold Builtin.Dict.dictSlotArgs
  refine wpAny_bind (wpAny_notOrdered_dict da.typeIs ?_)
  show wpAny _ _ (pure (Value.ref a, Value.ref b)) _ _ s
  refine wpAny_pure ?_
  refine wpAny_bind (wpAny_isInstance (T := "dict") db.typeIs PySem.F.sub_dict_dict ?_)
  simp only [Bool.not_true, Bool.false_eq_true, if_false]
  refine wpAny_bind (wpAny_pure (wpAny_bind (wpAny_pure ?_)))
  refine wpAny_bind (PySem.W.samePairsP (r := true) s1 s2 da db (fun hl => ?_) ?_)
  · have : vs1 = [] := List.length_eq_zero_iff.mp (by simpa using hl)
    subst this
    exact .nil
  · refine wpAny_pure ⟨_, rfl, ?_, ?_⟩
    · exact fun x => nomatch x
    · have e : kvs.isEmpty = vs1.isEmpty := by cases r1 <;> rfl
      refine ⟨.bl (!kvs.isEmpty), H, I, ?_, q⟩
      rw [e]
      cases vs1 <;> rfl
section
variable {N : RN} {X : Cx} {cl : Cl} {wf : Nat} {x : Str} {pos pos' p apos : Pos} {a b c e o : Expr} {es : List Expr} {ea eb ec ee eo : E} {ees : List E} {f : String}
theorem Gd.hnd {F H : Hp} {σ : SS} {ρ : Env} {st : PSt} (g : Gd N F H σ ρ st) {d : D} {v : V} {i : Nat} {ks : List Ky} (h : hget st d = some (i, ks)) (r : RepT N.R F H d v) :
    ∃ a vs, v = .ref a ∧ N.R.hs[i]? = some a ∧ F a = none ∧ H a = some (.dK ((ks.map ky).zip vs)) ∧ ks.length = vs.length := by
  unfold hget at h
  split at h
  · rename_i j
    have r := r.rep rfl
    simp only [Rep] at r
    obtain ⟨a, k1, rfl⟩ := r
    split at h
    · rename_i ks' xs' e
      cases h
      obtain ⟨k2, vs, k3, k4, k5⟩ := g.st.hd _ _ _ k1 e
      exact ⟨a, vs, rfl, k1, k2, k3, k4⟩
    · rename_i ks' e
      cases h
      obtain ⟨k2, vs, k3, k4⟩ := g.st.hd _ _ _ k1 e
      exact ⟨a, vs, rfl, k1, k2, k3, k4⟩
    · cases h
  · cases h
theorem Gd.hnd0 {F H : Hp} {σ : SS} {ρ : Env} {st : PSt} (g : Gd N F H σ ρ st) {v : V} {i : Nat} (r : RepT N.R F H (.hnd i) v) {d : D} (h : st.hd[i]? = some d) : ∃ a, v = .ref a ∧ N.R.hs[i]? = some a ∧ F a = none ∧ OwnAt N.R F H d a := by
  have r := r.rep rfl
  simp only [Rep] at r
  obtain ⟨a, k1, rfl⟩ := r
  obtain ⟨k2, k3⟩ := g.st.hd _ _ _ k1 h
  exact ⟨a, rfl, k1, k2, k3⟩
theorem keyD_of {R : RC} {F H : Hp} {d : D} {v : V} {k : Ky} (h : keyD d = some k) (r : RepT R F H d v) : v = kV (ky k) := by
  cases d <;> simp only [keyD, reduceCtorEq, Option.some.injEq] at h <;> subst h
  · exact r.int
  · exact r.str
theorem Rep.kyD {R : RC} {F : Hp} (k : Ky) : Rep R F (kyD k) (kV (ky k)) := by
  cases k <;> simp [Ev.kyD, Rep, kV, ky]
theorem kys_reps {R : RC} {F : Hp} : ∀ {ks : List Ky} {vs : List V}, ks.length = vs.length → Reps R F (ks.map kyD) (((ks.map ky).zip vs).map fun kv => kV kv.1)
  | [], vs, _ => by simpa using (Reps.nil : Reps R F [] [])
  | k :: ks, [], h => by cases h
  | k :: ks, v :: vs, h => by
    simp only [List.map_cons, List.zip_cons_cons]
    exact Reps.cons (Rep.kyD k) (kys_reps (by simpa using h))
theorem nodup_ix : ∀ {l : List Addr} {i j : Nat} {a : Addr}, l.Nodup → l[i]? = some a → l[j]? = some a → i = j
  | [], i, j, a, _, h, _ => by simp at h
  | b :: l, 0, 0, a, _, _, _ => rfl
  | b :: l, 0, j + 1, a, h, h1, h2 => by
    simp at h1; subst h1
    exact absurd (List.mem_of_getElem? (by simpa using h2)) (List.nodup_cons.mp h).1
  | b :: l, i + 1, 0, a, h, h1, h2 => by
    simp at h2; subst h2
    exact absurd (List.mem_of_getElem? (by simpa using h1)) (List.nodup_cons.mp h).1
  | b :: l, i + 1, j + 1, a, h, h1, h2 => by
    exact congrArg (· + 1) (nodup_ix (i := i) (j := j) (List.nodup_cons.mp h).2 (by simpa using h1) (by simpa using h2))
/-- a handle's content is replaced -/
theorem Gd.wrH {F H : Hp} {σ : SS} {ρ : Env} {st : PSt} (g : Gd N F H σ ρ st) {i : Nat} {a : Addr} {d' : D} {o : HO} (h1 : N.R.hs[i]? = some a) (ho : ∀ H', H' a = some o → OwnAt N.R F H' d' a) : Go N.R F H F (upd H a o) ∧ Gd N F (upd H a o) σ ρ (hset st i d') := by
  have hm : a ∈ N.R.hs := List.mem_of_getElem? h1
  have bad : N.R.bad a := .inr hm
  have nF : F a = none := (g.st.bad a bad).1
  have e : Ext N.R F H F (upd H a o) := ⟨Same.refl _, fun c u h => by
    by_cases z : c = a
    · subst z; exact .inl bad
    · rw [upd_ne z]; exact .inr h, fun _ _ h => h⟩
  refine ⟨e.go, g.ext e (fun c u h => ?_) ⟨fun p hp => ?_, by simp [hset, g.st.len], g.st.nd, g.st.ap, fun j b d k1 k2 => ?_⟩⟩
  · rw [upd_ne (ne_of_none h nF)]; exact g.sub _ _ h
  · obtain ⟨z1, z2⟩ := g.st.ap p hp
    obtain ⟨k1, k2, k3, k4, k5, k6⟩ := g.st.sa p hp
    have n1 : p.1 ≠ a := fun z => z1 (by rw [z]; exact hm)
    have n2 : p.2 ≠ a := fun z => z2 (by rw [z]; exact hm)
    rw [upd_ne n1, upd_ne n2]
    exact ⟨k1, k2, k3, k4, k5, k6⟩
  · by_cases q : i = j
    · subst q
      rw [h1] at k1; cases k1
      have hi : i < st.hd.length := by rw [g.st.len]; exact (List.getElem?_eq_some_iff.mp h1).1
      simp only [hset, List.getElem?_set_self hi, Option.some.injEq] at k2
      subst k2
      exact ⟨nF, ho _ upd_same⟩
    · simp only [hset, List.getElem?_set_ne q] at k2
      obtain ⟨m1, m2⟩ := g.st.hd _ _ _ k1 k2
      refine ⟨m1, m2.mono (Same.refl _) fun u hu => ?_⟩
      rw [upd_ne]
      · exact hu
      · rintro rfl
        exact q (nodup_ix g.st.nd h1 k1)
theorem hin_run {neg : Bool} {σ : SS} {H : Hp} {Q : VK} (h : tE N .val (evE cl (.hin neg ea eb)) σ H Q) :
    tE N .top (evE cl ea) σ H (fun y H1 => tE N .top (evE cl eb) σ H1 fun x H2 => ∃ a o, x = .ref a ∧ DGet H2 a y o ∧ Q (.bl (if neg then !o.isSome else o.isSome)) H2) := by
  obtain ⟨F, ρ, st, g, d, ρ', st', em, q⟩ := h
  unfold evE at em
  split at em
  · cases em
  rename_i x1 ρ1 st1 e1
  split at em
  · cases em
  rename_i x2 ρ2 st2 e2
  split at em
  rotate_left
  · cases em
  rename_i i ks k hh hk
  cases em
  refine bin_run g e1 e2 fun F2 H2 v u k1 g2 r1 r2 => ?_
  obtain ⟨a, vs, rfl, m1, m2, m3, m4⟩ := g2.hnd hh r2
  have := keyD_of hk r1
  subst this
  refine ⟨a, _, rfl, DGet.k m3, ?_⟩
  rw [key_in ks k vs m4]
  exact q _ _ _ k1 g2 (by show Rep N.R F2 (.bl _) _; simp [Rep])
theorem e_hin (ok : XOk N.R X) (ha : PE X a (tE N .top (evE cl ea))) (hb : PE X b (tE N .top (evE cl eb))) (hm : behindInMarks .In b = false) : PE X (.Compare a [.In] [b] pos) (tE N .val (evE cl (.hin false ea eb))) :=
  pe_of (pe_cmp (pc_din (lt1 ok) ha hb) hm) fun σ H Q h => hin_run h
theorem e_hnin (ok : XOk N.R X) (ha : PE X a (tE N .top (evE cl ea))) (hb : PE X b (tE N .top (evE cl eb))) (hm : behindInMarks .NotIn b = false) : PE X (.Compare a [.NotIn] [b] pos) (tE N .val (evE cl (.hin true ea eb))) :=
  pe_of (pe_cmp (pc_dnotin (lt1 ok) ha hb) hm) fun σ H Q h => hin_run h
theorem t_hin (ok : XOk N.R X) (ha : PE X a (tE N .top (evE cl ea))) (hb : PE X b (tE N .top (evE cl eb))) (hm : behindInMarks .In b = false) : PT X (.Compare a [.In] [b] pos) (tT N (evE cl (.hin false ea eb))) :=
  pt_of (pt_cmp (pc_din (lt1 ok) ha hb) hm) fun σ H Q h => hin_run (b_run (t := fun _ => True) h)
theorem t_hnin (ok : XOk N.R X) (ha : PE X a (tE N .top (evE cl ea))) (hb : PE X b (tE N .top (evE cl eb))) (hm : behindInMarks .NotIn b = false) : PT X (.Compare a [.NotIn] [b] pos) (tT N (evE cl (.hin true ea eb))) :=
  pt_of (pt_cmp (pc_dnotin (lt1 ok) ha hb) hm) fun σ H Q h => hin_run (b_run (t := fun _ => True) h)
theorem e_hlen (hg : Gl X x) (hm : X.mg x = none) (hv : bootBuiltins x = some (.builtin "len")) (ho : PE X o (tE N .top (evE cl eo))) (hn : x ≠ "__name__") (hdb : (x == ("__debug__" : Str)) = false) (hu : unstar o = true) : PE X (.Call (.Name x p) [o] [] pos) (tE N .val (evE cl (.hlen eo))) :=
  pe_of (pe_callB call_lenD hg hm hv (pa_cons ho pa_nil (star_cons hu _ _)) hn hdb (star_cons hu _ _) rfl) fun σ H Q ⟨F, ρ, st, g, d, ρ', st', em, q⟩ => by
    unfold evE at em
    split at em
    · cases em
    rename_i y ρ1 st1 e1
    split at em
    rotate_left
    · cases em
    rename_i i ks hh
    cases em
    refine ⟨F, ρ, st, g, _, _, _, e1, fun F1 H1 v k1 g1 r1 => ?_⟩
    obtain ⟨a, vs, rfl, m1, m2, m3, m4⟩ := g1.hnd hh r1
    refine ⟨a, _, rfl, m3, q _ _ _ k1 g1 ?_⟩
    show Rep N.R F1 (.int _) _
    simp [Rep, m4]
theorem e_hkeys (ok : XOk N.R X) (hg : Gl X x) (hm : X.mg x = none) (hv : bootBuiltins x = some (.type "list")) (ho : PE X o (tE N .top (evE cl eo))) (hn : x ≠ "__name__") (hdb : (x == ("__debug__" : Str)) = false) (hu : unstar o = true) : PE X (.Call (.Name x p) [o] [] pos) (tE N .own (evE cl (.hkeys eo))) :=
  pe_of (pe_callTy (call_list_dK ok.calm) hg hm hv (pa_cons ho pa_nil (star_cons hu _ _)) hn hdb (star_cons hu _ _) rfl) fun σ H Q ⟨F, ρ, st, g, d, ρ', st', em, q⟩ => by
    unfold evE at em
    split at em
    · cases em
    rename_i y ρ1 st1 e1
    split at em
    rotate_left
    · cases em
    rename_i i ks hh
    cases em
    refine ⟨F, ρ, st, g, _, _, _, e1, fun F1 H1 v k1 g1 r1 => ?_⟩
    obtain ⟨a, vs, rfl, m1, m2, m3, m4⟩ := g1.hnd hh r1
    refine ⟨a, _, rfl, m3, fun l hl => ?_⟩
    obtain ⟨e2, g2, r2⟩ := g1.own (d := .lst (ks.map kyD)) (o := .lst (((ks.map ky).zip vs).map fun kv => kV kv.1)) hl fun H' hH => ⟨_, hH, kys_reps m4⟩
    exact q _ _ _ (k1.trans e2) g2 r2
theorem e_hne (ok : XOk N.R X) (ho : PE X o (tE N .top (evE cl eo))) : PE X (.Compare o [.NotEq] [.Dict [] [] p] pos) (tE N .val (evE cl (.hne eo))) :=
  pe_of (pe_cmpR (op_dne (Nat.lt_of_le_of_lt (Nat.le_add_right _ 64) ok.units)) ho pe_dnewK (nobehind _ (by decide) (by decide))) fun σ H Q ⟨F, ρ, st, g, d, ρ', st', em, q⟩ => by
    unfold evE at em
    split at em
    · cases em
    rename_i y ρ1 st1 e1
    split at em
    rotate_left
    · cases em
    rename_i i ks hh
    cases em
    refine ⟨F, ρ, st, g, _, _, _, e1, fun F1 H1 v k1 g1 r1 => ?_⟩
    obtain ⟨a, vs, rfl, m1, m2, m3, m4⟩ := g1.hnd hh r1
    refine fun l hl => ?_
    obtain ⟨e2, g2⟩ := g1.laid (o := .dK []) hl
    refine ⟨a, l, _, rfl, rfl, by rw [upd_ne (ne_of_none m3 hl)]; exact m3, upd_same, ?_⟩
    have : ((ks.map ky).zip vs).isEmpty = ks.isEmpty := by
      cases ks with
      | nil => rfl
      | cons k ks => cases vs with
        | nil => cases m4
        | cons v vs => rfl
    rw [this]
    exact q _ _ _ (k1.trans e2) g2 (show Rep N.R (upd F1 l (.dK [])) (.bl _) _ by simp [Rep])
theorem s_hput {ix : Expr} {eix : E} {px : Pos} (ok : XOk N.R X) (he : PE X e (tE N .val (evE cl ee))) (ho : PE X o (tE N .top (evE cl eo))) (hx : PE X ix (tE N .top (evE cl eix))) :
    PS X (.Assign [.Subscript o ix px] e pos) (tS N (exS cl wf (.hput eo eix ee))) :=
  ps_of (ps_dput (lt1 ok) ho hx he (swaps_of3 _ _)) fun D σ H ⟨F, ρ, st, g, oo, ρ', st', em, q⟩ => by
    unfold exS at em
    split at em
    · cases em
    rename_i y ρ1 st1 e1
    split at em
    · cases em
    rename_i d ρ2 st2 e2
    split at em
    · cases em
    rename_i z ρ3 st3 e3
    split at em
    rotate_left
    · cases em
    rename_i i k hk
    split at em
    rotate_left
    · cases em
    rename_i d' hp
    cases em
    obtain ⟨c, hc, hp⟩ := Option.bind_eq_some_iff.mp hp
    refine ⟨F, ρ, st, g, _, _, _, e1, fun F1 H1 v k1 g1 r1 => ⟨F1, _, _, g1, _, _, _, e2, fun F2 H2 u k2 g2 r2 => ⟨F2, _, _, g2, _, _, _, e3, fun F3 H3 w k3 g3 r3 => ?_⟩⟩⟩
    have r1 : Rep N.R F1 y v := r1
    have r2 : RepT N.R F2 H2 _ u := r2
    have r3 : RepT N.R F3 H3 z w := r3
    obtain ⟨a, rfl, m1, m2, m3⟩ := g3.hnd0 (r2.ext k3) hc
    have := keyD_of hk r3
    subst this
    have fin : ∀ o, (∀ H', H' a = some o → OwnAt N.R F3 H' d' a) → DPut H3 a (kV (ky k)) v (upd H3 a o) → ∃ a_1 H4, V.ref a = V.ref a_1 ∧ DPut H3 a_1 (kV (ky k)) v H4 ∧ D.nx σ H4 := fun o ho dp => by
      obtain ⟨e4, g4⟩ := g3.wrH (o := o) m1 ho
      exact ⟨a, _, rfl, dp, q _ _ σ ((k1.trans k2).trans (k3.trans e4)).fz g4⟩
    cases c <;> simp only [hputD, reduceCtorEq] at hp
    case dct ks xs =>
      obtain ⟨vs, m4, m5, m6⟩ := m3
      obtain ⟨o, ho, hi, dp⟩ := put_ok m4 m5 m6 (Rep.mono (k2.fz.trans k3.fz) _ _ r1) (d' := d') (k := k) (by unfold putK'; exact hp)
      exact fin o ho dp
    case dks ks =>
      obtain ⟨vs, m4, m5⟩ := m3
      simp only [Option.ite_none_right_eq_some, Option.some.injEq] at hp
      obtain ⟨hl, rfl⟩ := hp
      refine fin _ (fun H' hH => ?_) (DPut.k m4 (by rw [List.length_zip, List.length_map, ← m5, Nat.min_self, line_lim]; exact hl))
      unfold addK
      have ha := put_any (k := k) m5
      by_cases hk' : ks.any (fun c => decide (c = k)) = true
      · rw [if_pos hk']
        refine ⟨List.zipWith (fun c x => if c = k then v else x) ks vs, ?_, by simp [m5]⟩
        rw [hH]
        unfold putK
        rw [ha, if_pos hk', put_map m5]
      · rw [if_neg hk']
        refine ⟨vs ++ [v], ?_, by simp [m5]⟩
        rw [hH]
        unfold putK
        rw [ha, if_neg hk', List.map_append, List.zip_append (by simp [m5])]
        rfl
theorem mergeD_any {k : Ky} : ∀ {l : List (Ky × D)} {m : List (Key × V)} {P : D → V → Prop}, Paired (fun (p : Ky × D) (q : Key × V) => q.1 = ky p.1 ∧ P p.2 q.2) l m → (m.any fun c => decide (c.1 = ky k)) = l.any fun c => decide (c.1 = k)
  | _, _, _, .nil => rfl
  | _, _, _, .cons h t => by
    rw [List.any_cons, List.any_cons, mergeD_any t, h.1]
    congr 1
    rename_i p q _ _
    by_cases e : p.1 = k
    · rw [decide_eq_true e, e]; simp
    · rw [decide_eq_false e, decide_eq_false (fun z => e (ky_inj z))]
theorem mergeD_put {P : D → V → Prop} {k : Ky} {d : D} {v : V} (r : P d v) : ∀ {l : List (Ky × D)} {m : List (Key × V)}, Paired (fun (p : Ky × D) (q : Key × V) => q.1 = ky p.1 ∧ P p.2 q.2) l m →
    Paired (fun (p : Ky × D) (q : Key × V) => q.1 = ky p.1 ∧ P p.2 q.2) (l.map (fun c => if c.1 = k then (c.1, d) else c)) (m.map fun c => if c.1 = ky k then (c.1, v) else c)
  | _, _, .nil => .nil
  | _, _, .cons h t => by
    rename_i p q _ _
    refine .cons ?_ (mergeD_put r t)
    show (if q.1 = ky k then (q.1, v) else q).1 = ky (if p.1 = k then (p.1, d) else p).1 ∧ P (if p.1 = k then (p.1, d) else p).2 (if q.1 = ky k then (q.1, v) else q).2
    by_cases e : p.1 = k
    · rw [if_pos e, if_pos (by rw [h.1, e])]; exact ⟨h.1, r⟩
    · rw [if_neg e, if_neg (fun z => e (ky_inj (h.1.symm.trans z)))]; exact h
theorem mergeD_ok {P : D → V → Prop} : ∀ {l2 : List (Ky × D)} {m2 : List (Key × V)} {l : List (Ky × D)} {m : List (Key × V)}, Paired (fun (p : Ky × D) (q : Key × V) => q.1 = ky p.1 ∧ P p.2 q.2) l m → Paired (fun (p : Ky × D) (q : Key × V) => q.1 = ky p.1 ∧ P p.2 q.2) l2 m2 →
    Paired (fun (p : Ky × D) (q : Key × V) => q.1 = ky p.1 ∧ P p.2 q.2) (mergeD l l2) (mergeK m m2)
  | _, _, l, m, h, .nil => h
  | (k, d) :: l2, (k', v) :: m2, l, m, h, .cons hp t => by
    obtain ⟨e, r⟩ := hp
    have e : k' = ky k := e
    subst e
    unfold mergeD
    show Paired _ _ (mergeK (putK m (ky k) v) m2)
    refine mergeD_ok ?_ t
    unfold putK
    rw [mergeD_any (k := k) h]
    split
    · exact mergeD_put r h
    · exact Paired.snoc h ⟨rfl, r⟩
theorem zip_pair {R : RC} {F : Hp} : ∀ {ks : List Ky} {xs : List D} {vs : List V}, ks.length = vs.length → Reps R F xs vs → Paired (fun (p : Ky × D) (q : Key × V) => q.1 = ky p.1 ∧ Rep R F p.2 q.2) (ks.zip xs) ((ks.map ky).zip vs)
  | [], xs, vs, _, _ => by simpa using (.nil : Paired (fun (p : Ky × D) (q : Key × V) => q.1 = ky p.1 ∧ Rep R F p.2 q.2) [] [])
  | k :: ks, [], vs, h, r => by simp only [Reps] at r; subst r; cases h
  | k :: ks, d :: xs, vs, h, r => by
    simp only [Reps] at r
    obtain ⟨v, us, rfl, h1, h2⟩ := r
    simp only [List.zip_cons_cons, List.map_cons]
    exact .cons ⟨rfl, h1⟩ (zip_pair (by simpa using h) h2)
theorem pair_zip {R : RC} {F : Hp} : ∀ {l : List (Ky × D)} {m : List (Key × V)}, Paired (fun (p : Ky × D) (q : Key × V) => q.1 = ky p.1 ∧ Rep R F p.2 q.2) l m → m = ((l.map (·.1)).map ky).zip (m.map (·.2)) ∧ Reps R F (l.map (·.2)) (m.map (·.2))
  | _, _, .nil => ⟨rfl, Reps.nil⟩
  | p :: l, q :: m, .cons h t => by
    obtain ⟨e1, e2⟩ := pair_zip t
    simp only [List.map_cons, List.zip_cons_cons]
    refine ⟨?_, Reps.cons h.2 e2⟩
    rw [← e1, ← h.1]
theorem put_dks {k : Ky} {v : V} {ks : List Ky} {vs : List V} (hl : ks.length = vs.length) : ∃ vs', putK ((ks.map ky).zip vs) (ky k) v = ((addK ks k).map ky).zip vs' ∧ (addK ks k).length = vs'.length := by
  have ha := put_any (k := k) hl
  unfold addK putK
  rw [ha]
  by_cases hk' : ks.any (fun c => decide (c = k)) = true
  · rw [if_pos hk', if_pos hk', put_map hl]
    exact ⟨_, rfl, by simp [hl]⟩
  · rw [if_neg hk', if_neg hk']
    exact ⟨vs ++ [v], by rw [List.map_append, List.zip_append (by simp [hl])]; rfl, by simp [hl]⟩
theorem merge_dks : ∀ {ks2 : List Ky} {us : List V} {ks : List Ky} {vs : List V}, ks2.length = us.length → ks.length = vs.length → ∃ vs', mergeK ((ks.map ky).zip vs) ((ks2.map ky).zip us) = ((ks2.foldl addK ks).map ky).zip vs' ∧ (ks2.foldl addK ks).length = vs'.length
  | [], us, ks, vs, _, h => ⟨vs, by simp [mergeK], by simpa using h⟩
  | k :: ks2, [], ks, vs, h, _ => by cases h
  | k :: ks2, u :: us, ks, vs, h, h2 => by
    obtain ⟨vs1, e1, l1⟩ := put_dks (k := k) (v := u) h2
    obtain ⟨vs2, e2, l2⟩ := merge_dks (ks2 := ks2) (us := us) (by simpa using h) l1
    refine ⟨vs2, ?_, l2⟩
    show mergeK (putK ((ks.map ky).zip vs) (ky k) u) ((ks2.map ky).zip us) = _
    rw [e1, e2]
    rfl
theorem s_hupd (ok : XOk N.R X) (ha : PE X a (tE N .top (evE cl ea))) (hb : PE X b (tE N .top (evE cl eb))) (hu : unstar b = true) (hba : baseOk a = true) (hl : (apos.endLine == pos.line) = true) :
    PS X (.Expr (.Call (.Attribute a "update" apos) [b] [] pos) pos') (tS N (exS cl wf (.hupd ea eb))) :=
  ps_of (ps_expr (pe_bm (cpos := pos) (apos := apos) PySem.F.plainAttrs_dict PySem.F.slot_dict_update PySem.F.type_dict_update mt_dupd ha (pa_cons hb pa_nil (star_cons hu _ _)) (base_of hba _ _ _) (by rw [star_all (by simp [hu])]; rfl) hl (star_cons hu _ _) rfl) (swaps_of rfl _ _ _)) fun D σ H ⟨F, ρ, st, g, oo, ρ', st', em, q⟩ => by
    unfold exS at em
    split at em
    · cases em
    rename_i x1 ρ1 st1 e1
    split at em
    · cases em
    rename_i h0
    split at em
    · cases em
    rename_i x2 ρ2 st2 e2
    split at em
    rotate_left
    · cases em
    rename_i i j
    split at em
    rotate_left
    · cases em
    rename_i hij
    split at em
    rotate_left
    · cases em
    rename_i d' hp
    cases em
    rw [Option.bind_eq_some_iff] at hp
    obtain ⟨c, hc, hp⟩ := hp
    rw [Option.bind_eq_some_iff] at hp
    obtain ⟨e, he, hp⟩ := hp
    refine ⟨F, ρ, st, g, _, _, _, e1, fun F1 H1 v k1 g1 r1 => ?_⟩
    have r1 : RepT N.R F1 H1 (.hnd i) v := r1
    obtain ⟨⟨i0, ks0⟩, h0⟩ := Option.isSome_iff_exists.mp (by simpa [Option.isNone_iff_eq_none, Option.isSome_iff_ne_none] using h0 : (hget st1 (.hnd i)).isSome = true)
    obtain ⟨a0, vs0, ev, m1, m2, m3, m4⟩ := g1.hnd h0 r1
    subst ev
    refine ⟨.inr (.inr (.inl ⟨rfl, .inl ⟨_, m3⟩⟩)), F1, _, _, g1, _, _, _, e2, fun F2 H2 u k2 g2 r2 => ?_⟩
    have r2 : RepT N.R F2 H2 (.hnd j) u := r2
    obtain ⟨a, ea, n1, n2, n3⟩ := g2.hnd0 (r1.ext k2) hc
    obtain ⟨b, rfl, w1, w2, w3⟩ := g2.hnd0 r2 he
    cases ea
    have hab : a0 ≠ b := fun z => hij (nodup_ix g2.st.nd n1 (z ▸ w1))
    cases c <;> cases e <;> simp only [hupdD, reduceCtorEq] at hp
    case dct.dct ks xs ks2 xs2 =>
      simp only [Option.ite_none_right_eq_some, Option.some.injEq] at hp
      obtain ⟨hz, rfl⟩ := hp
      obtain ⟨vs, p1, p2, p3⟩ := n3
      obtain ⟨us, s1, s2, s3⟩ := w3
      have zz := mergeD_ok (zip_pair p2 p3) (zip_pair s2 s3)
      obtain ⟨y1, y2⟩ := pair_zip zz
      obtain ⟨e4, g4⟩ := g2.wrH (d' := .dct ((mergeD (ks.zip xs) (ks2.zip xs2)).map (·.1)) ((mergeD (ks.zip xs) (ks2.zip xs2)).map (·.2))) (o := .dK (mergeK ((ks.map ky).zip vs) ((ks2.map ky).zip us))) n1 fun H' hH => ⟨_, by rw [hH, ← y1], by rw [List.length_map, List.length_map, paired_len zz], y2⟩
      refine ⟨a0, b, _, _, rfl, rfl, hab, p1, s1, ?_, q _ _ σ (k1.trans (k2.trans e4)).fz g4⟩
      rw [line_lim, List.length_zip, List.length_zip, List.length_map, List.length_map]
      omega
    case dks.dks ks ks2 =>
      simp only [Option.ite_none_right_eq_some, Option.some.injEq] at hp
      obtain ⟨hz, rfl⟩ := hp
      obtain ⟨vs, p1, p2⟩ := n3
      obtain ⟨us, s1, s2⟩ := w3
      obtain ⟨vs', y1, y2⟩ := merge_dks s2 p2
      obtain ⟨e4, g4⟩ := g2.wrH (d' := .dks (ks2.foldl addK ks)) (o := .dK (mergeK ((ks.map ky).zip vs) ((ks2.map ky).zip us))) n1 fun H' hH => ⟨vs', by rw [hH, ← y1], y2⟩
      refine ⟨a0, b, _, _, rfl, rfl, hab, p1, s1, ?_, q _ _ σ (k1.trans (k2.trans e4)).fz g4⟩
      rw [line_lim, List.length_zip, List.length_zip, List.length_map, List.length_map]
      omega
end
end Ev
/-! Ev16e -/
/-! Ev16e: list(zip(a, b)) of two lists: the pairs stay alive, so each is new. -/
namespace Ev
open PySem PySem.Spec PyProof.Rows L2
section
variable {prog : Program} {w : World} {A : Around} {E : Value → Shared → Prop} {s : Shared}
theorem wpAny_loadIfAlive {M : Model} {a : Addr} {Q : Option Obj → Shared → Prop} (h : Q (s.heap.get? a) s) : wpAny M A (loadIfAlive a) Q E s := fun Γ p _ => h
/-- a zip whose last pair lives -/
abbrev IsZipB (h : Heap) (z TI TO T : Addr) (b : Bool) : Prop :=
  h.get? z = some { cls := .type "zip", dict := none, data := .fields #[rawInt T, .bool b, .bool false, .ref TI, .ref TO], slots := #[] }
theorem free_busy {z TI TO T : Addr} {b : Bool} {o : Obj} {Q : Bool → Shared → Prop} (hz : IsZipB s.heap z TI TO T b) (hT : s.heap.get? T = some o)
    (h : ∀ h', IsZipB h' z TI TO T true → Heap.SameBut z s.heap h' → Q false { s with heap := h' }) : wpAny (model prog w) A (Builtin.SmallTypes.ownedTupleIsFree (.ref z)) Q E s := by
  unfold Builtin.SmallTypes.ownedTupleIsFree
  refine wpAny_bind (wpAny_field hz rfl (x := rawInt T) rfl ?_)
  show wpAny _ _ (loadIfAlive (T : Int).toNat >>= _) _ _ _
  refine wpAny_bind (wpAny_loadIfAlive ?_)
  rw [Int.toNat_natCast, hT]
  show wpAny _ _ (field (.ref z) 1 >>= _) _ _ _
  refine wpAny_bind (wpAny_field hz rfl (x := .bool b) rfl ?_)
  cases b with
  | true => exact wpAny_pure (h _ hz (Heap.SameBut.refl _ _))
  | false =>
    refine wpAny_bind (wpAny_setField_rec hz (by simp) fun h' hz' hs' => ?_)
    exact wpAny_pure (h h' hz' hs')
theorem zipB_next_item {z TI TO i1 i2 l1 l2 T : Addr} {b : Bool} {o : Obj} {k1 k2 : Nat} {xs ys : Array Value} {x y : Value} {Q : Value → Shared → Prop} (D : ZipApart z TI TO i1 i2 l1 l2)
    (hz : IsZipB s.heap z TI TO T b) (hT : s.heap.get? T = some o) (hTI : IsPair s.heap TI (.ref i1) (.ref i2))
    (h1 : s.heap.IsListIter i1 l1 k1) (h2 : s.heap.IsListIter i2 l2 k2) (hl1 : s.heap.IsList l1 xs) (hl2 : s.heap.IsList l2 ys) (hx : xs[k1]? = some x) (hy : ys[k2]? = some y)
    (hQ : ∀ h', IsZipB h' z TI TO T true → h'.IsListIter i1 l1 (k1 + 1) → h'.IsListIter i2 l2 (k2 + 1) → IsPair h' s.heap.objs.size x y → h'.objs.size = s.heap.objs.size + 1 →
      (∀ c o, c ≠ z → c ≠ i1 → c ≠ i2 → s.heap.get? c = some o → h'.get? c = some o) → Q (.ref s.heap.objs.size) { s with heap := h' }) :
    wpAny (model prog w) A (Builtin.«zip.__next__» ⟨[.ref z], []⟩) (fun fin s' => ∃ v, fin = .done (.ret v) ∧ Q v s') E s := by
  show wpAny _ _ (field (.ref z) 2 >>= _) _ _ _
  refine wpAny_bind (wpAny_field hz rfl (x := .bool false) rfl ?_)
  show wpAny _ _ (field (.ref z) 3 >>= _) _ _ _
  refine wpAny_bind (wpAny_field hz rfl (x := .ref TI) rfl ?_)
  refine wpAny_bind (wpAny_seqItems hTI rfl ?_)
  show wpAny _ _ (Builtin.SmallTypes.ownedTupleIsFree (.ref z) >>= _) _ _ _
  refine wpAny_bind (free_busy hz hT fun h₁ hz₁ hs₁ => ?_)
  simp only [Bool.false_eq_true, if_false]
  refine wpAny_bind ?_
  rw [← Array.forIn_toList]
  simp only [List.forIn_cons, List.forIn_nil]
  refine wpAny_bind (wpAny_bind (wpAny_holding ?_))
  show wpAny _ _ (Builtin.SmallTypes.nextOf (.ref i1) >>= _) _ _ _
  refine wpAny_bind (wpAny_nextOf_list_item (h1.extBut hs₁.extBut D.i1z) (hl1.extBut hs₁.extBut D.l1z) hx fun h₂ h1₂ hs₂ => wpAny_pure ?_)
  refine wpAny_pure ?_
  refine wpAny_bind (wpAny_bind (wpAny_holding ?_))
  show wpAny _ _ (Builtin.SmallTypes.nextOf (.ref i2) >>= _) _ _ _
  refine wpAny_bind (wpAny_nextOf_list_item ((h2.extBut hs₁.extBut D.i2z).extBut hs₂.extBut D.i12.symm) ((hl2.extBut hs₁.extBut D.l2z).extBut hs₂.extBut D.l2i1) hy fun h₃ h2₃ hs₃ => wpAny_pure ?_)
  refine wpAny_pure (wpAny_pure ?_)
  refine wpAny_bind (wpAny_newTuple (hsz := by show 2 ≤ sizeLine; rw [sizeLine_eq]; decide) ?_)
  have hsz : h₃.objs.size = s.heap.objs.size := by rw [hs₃.1, hs₂.1, hs₁.1]
  have kp : ∀ c o, c ≠ z → c ≠ i1 → c ≠ i2 → s.heap.get? c = some o → h₃.get? c = some o := fun c o c1 c2 c3 e => hs₃.extBut _ _ c3 (hs₂.extBut _ _ c2 (hs₁.extBut _ _ c1 e))
  have hz₃ : IsZipB h₃ z TI TO T true := hs₃.extBut _ _ D.i2z.symm (hs₂.extBut _ _ D.i1z.symm hz₁)
  have h1₃ : h₃.IsListIter i1 l1 (k1 + 1) := h1₂.extBut hs₃.extBut D.i12
  refine wpAny_pure ⟨_, rfl, ?_⟩
  show Q (.ref h₃.objs.size) _
  rw [hsz]
  refine hQ _ (Heap.get?_push_of_some _ hz₃) (h1₃.at fun o e => Heap.get?_push_of_some _ e) (h2₃.at fun o e => Heap.get?_push_of_some _ e) ?_ (by rw [Heap.size_push, hsz]) fun c o c1 c2 c3 e => Heap.get?_push_of_some _ (kp c o c1 c2 c3 e)
  rw [← hsz]
  exact Heap.get?_push_size _ rfl
theorem zipB_next_end {z TI TO i1 i2 l1 l2 T : Addr} {b : Bool} {o : Obj} {k1 k2 : Nat} {xs ys : Array Value} {Q : Fin → Shared → Prop} (hh : A.handled = none) (D : ZipApart z TI TO i1 i2 l1 l2)
    (hz : IsZipB s.heap z TI TO T b) (hT : s.heap.get? T = some o) (hTI : IsPair s.heap TI (.ref i1) (.ref i2))
    (h1 : s.heap.IsListIter i1 l1 k1) (h2 : s.heap.IsListIter i2 l2 k2) (hl1 : s.heap.IsList l1 xs) (hl2 : s.heap.IsList l2 ys) (hend : xs[k1]? = none ∨ ys[k2]? = none)
    (hE : ∀ h' e, (∀ c o, c ≠ z → c ≠ i1 → c ≠ i2 → s.heap.get? c = some o → h'.get? c = some o) → (∃ o, h'.get? e = some o ∧ o.cls = .type "StopIteration") → E (.ref e) { s with heap := h' }) :
    wpAny (model prog w) A (Builtin.«zip.__next__» ⟨[.ref z], []⟩) Q E s := by
  show wpAny _ _ (field (.ref z) 2 >>= _) _ _ _
  refine wpAny_bind (wpAny_field hz rfl (x := .bool false) rfl ?_)
  show wpAny _ _ (field (.ref z) 3 >>= _) _ _ _
  refine wpAny_bind (wpAny_field hz rfl (x := .ref TI) rfl ?_)
  refine wpAny_bind (wpAny_seqItems hTI rfl ?_)
  show wpAny _ _ (Builtin.SmallTypes.ownedTupleIsFree (.ref z) >>= _) _ _ _
  refine wpAny_bind (free_busy hz hT fun h₁ hz₁ hs₁ => ?_)
  simp only [Bool.false_eq_true, if_false]
  refine wpAny_bind ?_
  rw [← Array.forIn_toList]
  simp only [List.forIn_cons, List.forIn_nil]
  refine wpAny_bind (wpAny_bind (wpAny_holding ?_))
  show wpAny _ _ (Builtin.SmallTypes.nextOf (.ref i1) >>= _) _ _ _
  cases hx : xs[k1]? with
  | none =>
    refine wpAny_bind (wpAny_nextOf_list_end hh (h1.extBut hs₁.extBut D.i1z) (hl1.extBut hs₁.extBut D.l1z) hx fun h₂ e hs₂ he => ?_)
    exact hE h₂ e (fun c o c1 c2 _ x => hs₂ _ _ c2 (hs₁.extBut _ _ c1 x)) he
  | some x =>
    have hy : ys[k2]? = none := by rcases hend with h | h; rw [hx] at h; cases h; exact h
    refine wpAny_bind (wpAny_nextOf_list_item (h1.extBut hs₁.extBut D.i1z) (hl1.extBut hs₁.extBut D.l1z) hx fun h₂ h1₂ hs₂ => wpAny_pure ?_)
    refine wpAny_pure ?_
    refine wpAny_bind (wpAny_bind (wpAny_holding ?_))
    show wpAny _ _ (Builtin.SmallTypes.nextOf (.ref i2) >>= _) _ _ _
    refine wpAny_bind (wpAny_nextOf_list_end hh ((h2.extBut hs₁.extBut D.i2z).extBut hs₂.extBut D.i12.symm) ((hl2.extBut hs₁.extBut D.l2z).extBut hs₂.extBut D.l2i1) hy fun h₃ e hs₃ he => ?_)
    exact hE h₃ e (fun c o c1 c2 c3 x => hs₃ _ _ c3 (hs₂.extBut _ _ c2 (hs₁.extBut _ _ c1 x))) he
theorem pyNext_zipB_item {z TI TO i1 i2 l1 l2 T : Addr} {b : Bool} {o : Obj} {k1 k2 : Nat} {xs ys : Array Value} {x y : Value} {Q : Option Value → Shared → Prop} (D : ZipApart z TI TO i1 i2 l1 l2)
    (hz : IsZipB s.heap z TI TO T b) (hT : s.heap.get? T = some o) (hTI : IsPair s.heap TI (.ref i1) (.ref i2))
    (h1 : s.heap.IsListIter i1 l1 k1) (h2 : s.heap.IsListIter i2 l2 k2) (hl1 : s.heap.IsList l1 xs) (hl2 : s.heap.IsList l2 ys) (hx : xs[k1]? = some x) (hy : ys[k2]? = some y)
    (hQ : ∀ h', IsZipB h' z TI TO T true → h'.IsListIter i1 l1 (k1 + 1) → h'.IsListIter i2 l2 (k2 + 1) → IsPair h' s.heap.objs.size x y → h'.objs.size = s.heap.objs.size + 1 →
      (∀ c o, c ≠ z → c ≠ i1 → c ≠ i2 → s.heap.get? c = some o → h'.get? c = some o) → Q (some (.ref s.heap.objs.size)) { s with heap := h' }) :
    wpAny (model prog w) A (pyNext (.ref z)) Q E s := by
  have hTy : s.TypeIs (.ref z) "zip" := ⟨_, hz, rfl⟩
  unfold pyNext
  exact wpAny_bind (wpAny_attempt (wpAny_callSpecial?_slot (name := Str.ofString "__next__") hTy F.slot_zip_next
    (wpAny_call_entry F.slot_zip_next hTy F.entry_zip_next
      (zipB_next_item D hz hT hTI h1 h2 hl1 hl2 hx hy fun h' a1 a2 a3 a4 a5 a6 => wpAny_pure (hQ h' a1 a2 a3 a4 a5 a6)) (F.args_zip_next_1 _))))
theorem pyNext_zipB_end {z TI TO i1 i2 l1 l2 T : Addr} {b : Bool} {o : Obj} {k1 k2 : Nat} {xs ys : Array Value} {Q : Option Value → Shared → Prop} (hh : A.handled = none) (D : ZipApart z TI TO i1 i2 l1 l2)
    (hz : IsZipB s.heap z TI TO T b) (hT : s.heap.get? T = some o) (hTI : IsPair s.heap TI (.ref i1) (.ref i2))
    (h1 : s.heap.IsListIter i1 l1 k1) (h2 : s.heap.IsListIter i2 l2 k2) (hl1 : s.heap.IsList l1 xs) (hl2 : s.heap.IsList l2 ys) (hend : xs[k1]? = none ∨ ys[k2]? = none)
    (hQ : ∀ h', (∀ c o, c ≠ z → c ≠ i1 → c ≠ i2 → s.heap.get? c = some o → h'.get? c = some o) → Q none { s with heap := h' }) : wpAny (model prog w) A (pyNext (.ref z)) Q E s := by
  have hTy : s.TypeIs (.ref z) "zip" := ⟨_, hz, rfl⟩
  unfold pyNext
  refine wpAny_bind (wpAny_attempt (wpAny_callSpecial?_slot (name := Str.ofString "__next__") hTy F.slot_zip_next
    (wpAny_call_entry F.slot_zip_next hTy F.entry_zip_next (zipB_next_end hh D hz hT hTI h1 h2 hl1 hl2 hend fun h' e hk he => ?_) (F.args_zip_next_1 _))))
  obtain ⟨o, ho, hc⟩ := he
  refine wpAny_bind (wpAny_isInstance (T := "StopIteration") (b := true) ⟨o, ho, hc⟩ isSubtype_stop ?_)
  exact wpAny_pure (hQ _ hk)
end
end Ev
/-! Ev16f -/
/-! Ev16f: list(zip(a, b)): the walk, the rule. -/
namespace Ev
open PySem PySem.Spec PyProof.Rows L2
theorem zip_no_len : typeLookup (.type "zip") "__len__" = pure none := by rw [typeLookup_type, builtinLookup_eq_fast]; kernel_rfl
theorem zip_no_hint : typeLookup (.type "zip") "__length_hint__" = pure none := by rw [typeLookup_type, builtinLookup_eq_fast]; kernel_rfl
/-- a zip's objects behind k pairs that live -/
structure ZSt (h : Heap) (z TI TO i1 i2 a b : Addr) (k : Nat) : Prop where
  pTI : IsPair h TI (.ref i1) (.ref i2)
  p1 : h.IsListIter i1 a k
  p2 : h.IsListIter i2 b k
  pTO : ∃ o, h.get? TO = some o
  pz : (IsZip h z TI TO .none ∧ ∃ x y, IsPair h TO x y) ∨ ∃ T c o, IsZipB h z TI TO T c ∧ h.get? T = some o ∧ T ≠ z ∧ T ≠ TI ∧ T ≠ TO ∧ T ≠ i1 ∧ T ≠ i2
section
variable {X : Cx} {pins : List (Addr × Obj)} {σ : L2.St} {z TI TO i1 i2 a b q : Addr} {vs us : List V} {A1 : Around}
theorem ZSt.at {h h' : Heap} {k : Nat} (st : ZSt h z TI TO i1 i2 a b k) (kp : ∀ c o, h.get? c = some o → c ≠ q → h'.get? c = some o) (nq : q ≠ z ∧ q ≠ TI ∧ q ≠ TO ∧ q ≠ i1 ∧ q ≠ i2) (nT : ∀ T c o, IsZipB h z TI TO T c → h.get? T = some o → ∃ o, h'.get? T = some o) : ZSt h' z TI TO i1 i2 a b k := by
  obtain ⟨n1, n2, n3, n4, n5⟩ := nq
  refine ⟨kp _ _ st.pTI (Ne.symm n2), st.p1.at fun o e => kp _ _ e (Ne.symm n4), st.p2.at fun o e => kp _ _ e (Ne.symm n5), (let ⟨o, e⟩ := st.pTO; ⟨o, kp _ _ e (Ne.symm n3)⟩), ?_⟩
  rcases st.pz with ⟨h1, x, y, h2⟩ | ⟨T, c, o, h1, h2, h3⟩
  · exact .inl ⟨kp _ _ h1 (Ne.symm n1), x, y, kp _ _ h2 (Ne.symm n3)⟩
  · obtain ⟨o', h4⟩ := nT T c o h1 h2
    exact .inr ⟨T, c, o', kp _ _ h1 (Ne.symm n1), h4, h3⟩
theorem zip_loop {P : Nat → List V → Hp → Prop} {n : Nat} {Rs : Result → Shared → Prop} (D : ZipApart z TI TO i1 i2 a b) (hh : A1.in1.handled = none) (hn : n = min vs.length us.length)
    (hs : ∀ k acc H, P k acc H → SqL X.K H a vs ∧ SqL X.K H b us ∧ H q = some (.lst acc) ∧ acc.length < sizeLine)
    (ht : ∀ k acc H x y T, P k acc H → vs[k]? = some x → us[k]? = some y → H T = none → P (k + 1) (acc ++ [.ref T]) (upd (upd H T (.tup [x, y])) q (.lst (acc ++ [.ref T]))))
    (hdone : ∀ acc H s, Inv X pins σ H s → P n acc H → Rs (.ok (.ret .none)) s) :
    ∀ (m k : Nat) (acc : List V) (H : Hp) (s : Shared), m + k = n → Inv X pins σ H s → P k acc H → ZSt s.heap z TI TO i1 i2 a b k → (∀ c ∈ [z, TI, TO, i1, i2], FpOk X pins H c) →
      codeAny (model X.prog X.w) A1 (.builtin "list.extend.loop" ⟨[.ref q, .ref z, .none], []⟩) Rs s := by
  intro m
  induction m with
  | zero =>
    intro k acc H s hk I hP st hf
    obtain ⟨h1, h2, h3, h4⟩ := hs k acc H hP
    obtain ⟨its, rv, p1, _⟩ := I.list h1
    obtain ⟨its2, rv2, p2, _⟩ := I.list h2
    have l1 := rv.length
    have l2 := rv2.length
    have he : its.toArray[k]? = none ∨ its2.toArray[k]? = none := by
      rcases Nat.le_total vs.length us.length with q | q
      · exact .inl (by simp; omega)
      · exact .inr (by simp; omega)
    refine codeAny_builtin PySem.F.entry_extend_loop ?_
    rw [Around.under_plainId PySem.F.plain_extend_loop _]
    show wpAny _ A1.in1 (pyNext (.ref z) >>= _) _ _ s
    refine wpAny_bind ?_
    have fin : ∀ h', (∀ c o, c ≠ z → c ≠ TO → c ≠ i1 → c ≠ i2 → s.heap.get? c = some o → h'.get? c = some o) → Rs (.ok (.ret .none)) { s with heap := h' } := fun h' hk' =>
      hdone acc H _ (I.turnedL (t' := s.toks) (ch := [z, TI, TO, i1, i2]) (fun c o hb e => hk' c o (fun w => hb (by simp [w])) (fun w => hb (by simp [w])) (fun w => hb (by simp [w])) (fun w => hb (by simp [w])) e) hf) (by rw [← hk, Nat.zero_add]; exact hP)
    rcases st.pz with ⟨hz, x0, y0, hTO⟩ | ⟨T, c, o, hz, hT, _⟩
    · exact wpAny_pyNext_zip_end hh D hz st.pTI hTO st.p1 st.p2 p1.isList p2.isList he fun h' hk' => wpAny_pure (fin h' hk')
    · exact pyNext_zipB_end hh D hz hT st.pTI st.p1 st.p2 p1.isList p2.isList he fun h' hk' => wpAny_pure (fin h' fun c o c1 _ c3 c4 e => hk' c o c1 c3 c4 e)
  | succ m ih =>
    intro k acc H s hk I hP st hf
    obtain ⟨h1, h2, h3, h4⟩ := hs k acc H hP
    obtain ⟨its, rv, p1, _⟩ := I.list h1
    obtain ⟨its2, rv2, p2, _⟩ := I.list h2
    have k1 : k < vs.length := by omega
    have k2 : k < us.length := by omega
    obtain ⟨u, hu, ru⟩ := rv.get (List.getElem?_eq_getElem k1)
    obtain ⟨u2, hu2, ru2⟩ := rv2.get (List.getElem?_eq_getElem k2)
    refine codeAny_builtin PySem.F.entry_extend_loop ?_
    rw [Around.under_plainId PySem.F.plain_extend_loop _]
    show wpAny _ A1.in1 (pyNext (.ref z) >>= _) _ _ s
    have fresh : ∀ {c o}, s.heap.get? c = some o → s.heap.objs.size ≠ c := fun e => Nat.ne_of_gt (Heap.lt_size e)
    have hzs : ∃ o, s.heap.get? z = some o := by
      rcases st.pz with ⟨hz, _⟩ | ⟨_, _, _, hz, _⟩
      · exact ⟨_, hz⟩
      · exact ⟨_, hz⟩
    have fin : ∀ h' c, IsZipB h' z TI TO s.heap.objs.size c ∨ (∃ T o, IsZipB h' z TI TO T c ∧ h'.get? T = some o ∧ T ≠ z ∧ T ≠ TI ∧ T ≠ TO ∧ T ≠ i1 ∧ T ≠ i2) → h'.IsListIter i1 a (k + 1) → h'.IsListIter i2 b (k + 1) → IsPair h' s.heap.objs.size u u2 →
        (∀ c o, c ≠ z → c ≠ TO → c ≠ i1 → c ≠ i2 → s.heap.get? c = some o → h'.get? c = some o) → (∃ o, h'.get? TO = some o) →
        wpAny (model X.prog X.w) A1.in1 (updateSeq q (·.push (.ref s.heap.objs.size)) >>= fun _ => again (.builtin "list.extend.loop" ⟨[.ref q, .ref z, .none], []⟩)) (fun fin s' => match fin with | .done f => Rs (.ok f) s' | .again c' => c'.quiet = true ∧ codeAny (model X.prog X.w) A1 c' Rs s') (fun e s' => Rs (.error e) s') { s with heap := h' } := by
      intro h' c hz' h1' h2' hp hkp hTO'
      have hTOs := st.pTO
      have new : ObjOk X.prog X.w (upd H s.heap.objs.size (.tup [vs[k], us[k]])) h' s.heap.objs.size (.tup [vs[k], us[k]]) :=
        ⟨by show 2 ≤ sizeLine; decide, [u, u2], .cons ru (.cons ru2 .nil), ⟨_, hp, rfl, _, rfl⟩⟩
      have I1 : Inv X pins σ (upd H s.heap.objs.size (.tup [vs[k], us[k]])) { s with heap := h' } :=
        I.turnedNew (t' := s.toks) (ch := [z, TI, TO, i1, i2]) (fun c o hb e => hkp c o (fun w => hb (by simp [w])) (fun w => hb (by simp [w])) (fun w => hb (by simp [w])) (fun w => hb (by simp [w])) e) hf (Nat.le_refl _) new
      have nqs : q ≠ s.heap.objs.size := ne_of_none h3 (I.hok.fresh (Nat.le_refl _))
      have hq' : upd H s.heap.objs.size (.tup [vs[k], us[k]]) q = some (.lst acc) := by rw [upd_ne nqs]; exact h3
      obtain ⟨zz, its', kk, r2, hl, e⟩ := I1.lstM hq'
      have nz : ∀ c ∈ [z, TI, TO, i1, i2], q ≠ c := fun c hc w => by
        have := (hf c hc).1
        rw [← w, h3] at this; cases this
      have nq : q ≠ z ∧ q ≠ TI ∧ q ≠ TO ∧ q ≠ i1 ∧ q ≠ i2 := ⟨nz _ (by simp), nz _ (by simp), nz _ (by simp), nz _ (by simp), nz _ (by simp)⟩
      have st' : ZSt h' z TI TO i1 i2 a b (k + 1) := by
        refine ⟨hkp _ _ D.TIz D.TITO D.TIi1 D.TIi2 st.pTI, h1', h2', hTO', .inr ?_⟩
        rcases hz' with hz' | ⟨T, o, q1, q2, q3⟩
        · obtain ⟨oz, hzs⟩ := hzs
          obtain ⟨oTO, hTOs⟩ := hTOs
          obtain ⟨o1, e1, _⟩ := st.p1
          obtain ⟨o2, e2, _⟩ := st.p2
          exact ⟨_, c, _, hz', hp, fresh hzs, fresh st.pTI, fresh hTOs, fresh e1, fresh e2⟩
        · exact ⟨T, c, o, q1, q2, q3⟩
      refine wpAny_bind (wpAny_updateSeq e rfl (wpAny_pure ⟨plainId_quiet PySem.F.plain_extend_loop _, ?_⟩) (by rw [List.size_toArray]; omega) (by show (its'.toArray.push _).size ≤ sizeLine + 1; rw [Array.size_push, List.size_toArray]; omega))
      refine ih (k + 1) (acc ++ [.ref s.heap.objs.size]) _ _ (by omega) (I1.lset (its' := its' ++ [.ref s.heap.objs.size]) (t' := s.toks) hq' e (by simp) (r2.append (.cons (show RelV (V.ref s.heap.objs.size) (Value.ref s.heap.objs.size) from rfl) .nil)) (by rw [List.length_append, List.length_singleton]; omega)) (ht k acc H _ _ _ hP (List.getElem?_eq_getElem k1) (List.getElem?_eq_getElem k2) (I.hok.fresh (Nat.le_refl _))) ?_ fun c hc => ?_
      · refine st'.at (q := q) (fun c o e' hne => (Heap.get?_update_other _ _ (Ne.symm hne)).trans e') nq fun T c' o hzT hTo => ?_
        by_cases w : T = q
        · subst w
          exact ⟨_, Heap.get?_update_self _ hTo (by rw [e] at hTo; cases hTo; rfl)⟩
        · exact ⟨o, (Heap.get?_update_other _ _ (Ne.symm w)).trans hTo⟩
      · obtain ⟨f1, f2⟩ := hf c hc
        refine ⟨?_, f2⟩
        have hcs : c ≠ s.heap.objs.size := by
          have : ∃ o, s.heap.get? c = some o := by
            obtain ⟨o1, e1, _⟩ := st.p1
            obtain ⟨o2, e2, _⟩ := st.p2
            have e' : c = z ∨ c = TI ∨ c = TO ∨ c = i1 ∨ c = i2 := by simpa using hc
            rcases e' with w | w | w | w | w
            · rw [w]; exact hzs
            · rw [w]; exact ⟨_, st.pTI⟩
            · rw [w]; exact hTOs
            · rw [w]; exact ⟨_, e1⟩
            · rw [w]; exact ⟨_, e2⟩
          obtain ⟨o, e'⟩ := this
          exact (fresh e').symm
        rw [upd_ne (Ne.symm (nz c hc)), upd_ne hcs]
        exact f1
    refine wpAny_bind ?_
    rcases st.pz with ⟨hz, x0, y0, hTO⟩ | ⟨T, c, o, hz, hT, n1, n2, n3, n4, n5⟩
    · exact wpAny_pyNext_zip_item D hz st.pTI hTO st.p1 st.p2 p1.isList p2.isList (x := u) (y := u2) (by simpa using hu) (by simpa using hu2) fun h' z' TO' h1' h2' hT hsz hk => fin h' false (.inl z') h1' h2' hT hk ⟨_, TO'⟩
    · exact pyNext_zipB_item D hz hT st.pTI st.p1 st.p2 p1.isList p2.isList (x := u) (y := u2) (by simpa using hu) (by simpa using hu2) fun h' z' h1' h2' hp hsz hk => fin h' true (.inr ⟨T, o, z', hk _ _ n1 n4 n5 hT, n1, n2, n3, n4, n5⟩) h1' h2' hp (fun c o c1 _ c3 c4 e => hk c o c1 c3 c4 e) (let ⟨o', e⟩ := st.pTO; ⟨o', hk _ _ D.TOz D.TOi1 D.TOi2 e⟩)
/-- list(zip(a, b)) -/
def tLz (K : PySem.W.Frag) (ta : TA) : TE := fun σ H Q => ta σ H fun ws H1 => ∃ a b vs us, ws = [.ref a, .ref b] ∧ SqL K H1 a vs ∧ SqL K H1 b us ∧ ∀ q, H1 q = none → ∃ P : Nat → List V → Hp → Prop, P 0 [] (upd H1 q (.lst [])) ∧
  (∀ k acc H, P k acc H → SqL K H a vs ∧ SqL K H b us ∧ H q = some (.lst acc) ∧ acc.length < sizeLine) ∧
  (∀ k acc H x y T, P k acc H → vs[k]? = some x → us[k]? = some y → H T = none → P (k + 1) (acc ++ [.ref T]) (upd (upd H T (.tup [x, y])) q (.lst (acc ++ [.ref T])))) ∧
  ∀ acc H, P (min vs.length us.length) acc H → Q (.ref q) H
end
theorem pe_lz {X : Cx} {e e2 : Expr} {ta : TA} {p p2 pos pos2 : Pos} (hc : X.calm = true) (hg : Gl X "list") (hm : X.mg "list" = none) (hg2 : Gl X "zip") (hm2 : X.mg "zip" = none) (ha : PA X [e, e2] ta) (hu : unstar e = true) (hu2 : unstar e2 = true) :
    PE X (.Call (.Name "list" p) [.Call (.Name "zip" p2) [e, e2] [] pos2] [] pos) (tLz X.K ta) := by
  refine ⟨fun pins s σ H Q I h => ?_⟩
  refine Call_ (ld_blt I hg hm boot_list (PyProof.Rows.callWith_type1 (args_cons ?_ rfl) rfl rfl))
  refine Call_ (ld_blt I hg2 hm2 PyProof.Rows.boot_zip (PyProof.Rows.callWith_type1 (thn (ha.run pos2 pins s σ H _ I h) fun us s1 ⟨vs, H1, I1, r1, q1⟩ => ?_) (star_cons hu _ _) (star_any (by simp [hu2]) _ _)))
  obtain ⟨a, b, xs, ys, ex, hqx, hqy, hq⟩ := q1
  subst ex
  cases r1 with
  | cons r rr =>
    cases rr with
    | cons r' rr =>
      cases rr
      cases r
      cases r'
      obtain ⟨its, rv, p1, _⟩ := I1.list hqx
      obtain ⟨its2, rv2, p3, _⟩ := I1.list hqy
      refine call_zip_2 p1.isList p3.isList fun h' hz hTI hTO h1 h2 hsz hk => args_nil ?_
      have I2 : Inv X pins σ H1 { s1 with heap := h' } := I1.kept (t' := s1.toks) hk
      have D := PySem.W.ktu_apart s1.heap.objs.size a b p1.lt p3.lt
      have ff : ∀ c ∈ [s1.heap.objs.size + 4, s1.heap.objs.size + 2, s1.heap.objs.size + 3, s1.heap.objs.size, s1.heap.objs.size + 1], FpOk X pins H1 c ∧ c < h'.objs.size := fun c hcm => by
        have e' : c = s1.heap.objs.size + 4 ∨ c = s1.heap.objs.size + 2 ∨ c = s1.heap.objs.size + 3 ∨ c = s1.heap.objs.size ∨ c = s1.heap.objs.size + 1 := by simpa using hcm
        exact ⟨I1.fpOk (by omega) (I1.hok.fresh (by omega)), by omega⟩
      refine callType_codes (Q₁ := fun obj s₁ => obj = .ref h'.objs.size ∧ s₁ = { s1 with heap := h'.push { cls := .type "list", data := .seq #[] } }) PySem.F.called_list (PySem.F.typeCall_list_1 _) PySem.F.entry_list_init
        (code_list_new _ ⟨rfl, rfl⟩) fun obj s₁ h₁ => ?_
      obtain ⟨rfl, rfl⟩ := h₁
      have hS : (h'.push { cls := .type "list", data := .seq #[] }).get? h'.objs.size = some { cls := .type "list", data := .seq #[] } := Heap.get?_push_size _ rfl
      refine ⟨⟨_, hS, rfl⟩, PySem.F.args_list_init_2 _ _, ?_⟩
      have fr : H1 h'.objs.size = none := I2.hok.fresh (Nat.le_refl _)
      obtain ⟨P, hP, hs, ht, hd⟩ := hq _ fr
      have I3 : Inv X pins σ (upd H1 h'.objs.size (.lst [])) { s1 with heap := h'.push { cls := .type "list", data := .seq #[] } } := I2.lnew (its := []) (t' := s1.toks) .nil (Nat.zero_le _)
      show wpAny _ _ (do let old ← Builtin.List.listItems (.ref h'.objs.size); Builtin.List.listUpdate (.ref h'.objs.size) (fun _ => #[]); letGo old.toList.reverse; Builtin.List.listExtendWith (.ref h'.objs.size) (.ref (s1.heap.objs.size + 4)) .none) _ _ _
      refine wpAny_bind ?_
      unfold Builtin.List.listItems
      refine wpAny_bind (wpAny_seqItems hS rfl (wpAny_pure ?_))
      show wpAny _ _ (updateSeq h'.objs.size (fun _ => #[]) >>= fun _ => letGo (#[] : Array Value).toList.reverse >>= fun _ => Builtin.List.listExtendWith (.ref h'.objs.size) (.ref (s1.heap.objs.size + 4)) .none) _ _ _
      refine wpAny_bind (wpAny_updateSeq hS rfl ?_)
      have I4 := I3.lset (f := fun _ => #[]) (its := []) (its' := []) (ys := []) (t' := s1.toks) upd_same hS rfl .nil (Nat.zero_le _)
      rw [upd_upd] at I4
      refine wpAny_bind (wpAny_letGo ?_)
      have nS : ∀ {c}, c < h'.objs.size → c ≠ h'.objs.size := fun h => Nat.ne_of_lt h
      have oth : ∀ c o, h'.get? c = some o → ((h'.push { cls := .type "list", data := .seq #[] }).update h'.objs.size (Obj.mapSeq fun _ => #[])).get? c = some o := fun c o e =>
        (Heap.get?_update_other _ _ (Nat.ne_of_gt (Heap.lt_size e))).trans (Heap.get?_push_of_some _ e)
      have hzz := oth _ _ hz
      unfold Builtin.List.listExtendWith
      refine wpAny_bind (wpAny_typeOf (T := "zip") ⟨_, hzz, rfl⟩ ?_)
      have n1 : Builtin.List.listSameRef (.ref h'.objs.size) (.ref (s1.heap.objs.size + 4)) = false := by
        have : h'.objs.size ≠ s1.heap.objs.size + 4 := by omega
        simp [Builtin.List.listSameRef, this]
      have n2 : (Value.type "zip" == Value.type "list") = false := by decide
      have n3 : (Value.type "zip" == Value.type "tuple") = false := by decide
      simp only [n1, n2, n3, Bool.or_false, Bool.false_eq_true, if_false]
      refine wpAny_bind (wpAny_pyIter_zip hzz ?_)
      refine wpAny_bind (wpAny_holding ?_)
      unfold Builtin.List.listLengthHint
      refine wpAny_bind (wpAny_specialOf ⟨_, hzz, rfl⟩ zip_no_len ?_)
      show wpAny _ _ (specialOf (Value.ref (s1.heap.objs.size + 4)) (Str.ofString "__length_hint__") >>= _) _ _ _
      refine wpAny_bind (wpAny_specialOf ⟨_, hzz, rfl⟩ zip_no_hint ?_)
      refine wpAny_pure ?_
      have hnq : ∀ c ∈ [s1.heap.objs.size + 4, s1.heap.objs.size + 2, s1.heap.objs.size + 3, s1.heap.objs.size, s1.heap.objs.size + 1], FpOk X pins (upd H1 h'.objs.size (.lst [])) c := fun c hcm => by
        obtain ⟨f1, f2⟩ := (ff c hcm).1
        exact ⟨by rw [upd_ne (nS (ff c hcm).2)]; exact f1, f2⟩
      have loop : ∀ s', Inv X pins σ (upd H1 h'.objs.size (.lst [])) s' → (∀ c o, h'.get? c = some o → s'.heap.get? c = some o) → codeAny (model X.prog X.w) X.A.in1 (.builtin "list.extend.loop" ⟨[.ref h'.objs.size, .ref (s1.heap.objs.size + 4), .none], []⟩) (wants (fun r s₂ => r = .none ∧ EP X pins σ Q (.ref h'.objs.size) s₂) X.xe) s' := fun s' I' kp =>
        zip_loop D (show X.A.in1.in1.handled = none from I.ok.hd hc) rfl hs ht (fun acc H s I hP => ⟨rfl, .ref h'.objs.size, H, I, rfl, hd acc H hP⟩) _ 0 [] _ s' (by rw [Nat.add_zero]) I' hP
          ⟨kp _ _ hTI, h1.at fun o e => kp _ _ e, h2.at fun o e => kp _ _ e, ⟨_, kp _ _ hTO⟩, .inl ⟨kp _ _ hz, _, _, kp _ _ hTO⟩⟩ hnq
      refine wpAny_ite_split (fun _ => ?_) (fun _ => wpAny_pure ⟨plainId_quiet PySem.F.plain_extend_loop _, loop _ I4 oth⟩)
      refine wpAny_bind (wpAny_rule ?_)
      refine wpAny_bind ?_
      obtain ⟨zq, itsq, kq, rq, hlq, eq⟩ := I4.lstM upd_same
      cases rq
      show wpAny _ _ (updateSeq h'.objs.size (·.push .none) >>= fun _ => updateSeq h'.objs.size (·.pop)) _ _ _
      refine wpAny_bind (wpAny_updateSeq eq rfl ?_)
      have I5 := I4.lset (f := (·.push Value.none)) (its' := [Value.none]) (ys := [.non]) (t' := s1.toks) upd_same eq (by simp) (.cons rfl .nil) (by rw [List.length_singleton, sizeLine_eq]; decide)
      rw [upd_upd] at I5
      obtain ⟨z4, its4, k4, r4, hl4, e4⟩ := I5.lstM upd_same
      obtain ⟨u4, rfl, ru4⟩ := r4.one
      refine wpAny_updateSeq e4 rfl ?_ (by show 1 ≤ sizeLine; rw [sizeLine_eq]; decide) (by show 0 ≤ sizeLine + 1; exact Nat.zero_le _)
      refine wpAny_pure ⟨plainId_quiet PySem.F.plain_extend_loop _, loop _ ?_ ?_⟩
      · have I6 := I5.lset (f := (·.pop)) (its := [u4]) (its' := []) (ys := []) (t' := s1.toks) upd_same e4 (by rfl) .nil (Nat.zero_le _)
        rw [upd_upd] at I6
        exact I6
      · exact fun c o e => (Heap.get?_update_other _ _ (Nat.ne_of_gt (Heap.lt_size e))).trans ((Heap.get?_update_other _ _ (Nat.ne_of_gt (Heap.lt_size e))).trans (oth c o e))
end Ev
/-! Ev16g -/
/-! Ev16g: list(zip(a, b)) as data. -/
namespace Ev
open PySem PySem.Spec PyProof.Rows L2
theorem e_lzip {N : RN} {X : Cx} {cl : Cl} {e e2 : Expr} {ea eb : E} {p p2 pos pos2 : Pos} (ok : XOk N.R X) (hg : Gl X "list") (hm : X.mg "list" = none) (hg2 : Gl X "zip") (hm2 : X.mg "zip" = none) (ha : PE X e (tE N .val (evE cl ea))) (hb : PE X e2 (tE N .val (evE cl eb))) (hu : unstar e = true) (hu2 : unstar e2 = true) :
    PE X (.Call (.Name "list" p) [.Call (.Name "zip" p2) [e, e2] [] pos2] [] pos) (tE N .own (evE cl (.lzip ea eb))) :=
  pe_of (pe_lz ok.calm hg hm hg2 hm2 (a_val ha (a_val hb a_nil (star_cons hu2 _ _)) (star_cons hu _ _)) hu hu2) fun σ H Q ⟨F, ρ, st, g, d, ρ', st', em, q⟩ => by
    unfold evE at em
    split at em
    · cases em
    rename_i x1 ρ1 st1 e1
    split at em
    · cases em
    rename_i x2 ρ2 st2 e2
    split at em
    rotate_left
    · cases em
    rename_i xs ys
    simp only [Option.ite_none_right_eq_some, Option.some.injEq, Prod.mk.injEq] at em
    obtain ⟨hl, rfl, rfl, rfl⟩ := em
    refine ⟨F, ρ, st, g, [.lst xs, .lst ys], ρ2, st2, by unfold evEs evEs evEs; rw [e1]; dsimp only; rw [e2], fun F1 H1 ws k1 g1 r1 => ?_⟩
    have r1 : Reps N.R F1 [.lst xs, .lst ys] ws := r1
    simp only [Reps] at r1
    obtain ⟨v1, _, rfl, w1, v2, _, rfl, w2, rfl⟩ := r1
    simp only [Rep] at w1 w2
    obtain ⟨a, vs, rfl, a1, a2⟩ := w1
    obtain ⟨b, us, rfl, b1, b2⟩ := w2
    have lv := a2.length
    have lu := b2.length
    refine ⟨a, b, vs, us, rfl, SqL.of (g1.sub _ _ a1), SqL.of (g1.sub _ _ b1), fun q0 hq0 => ?_⟩
    obtain ⟨z1, z2, z3⟩ := g1.own (d := .lst []) (o := .lst []) hq0 fun H' hH => ⟨_, hH, Reps.nil⟩
    have z4 := z2.res z3
    obtain ⟨q1, eq, h0, hF, nb, nr, no, _, _⟩ := z3
    cases eq
    refine ⟨fun k acc H => ∃ F', Gd (N.rz fun c => N.rs c ∨ V.ref c = V.ref q0) F' H σ ρ2 st2 ∧ Same F1 F' ∧ (∀ c o, H1 c = some o → N.R.bad c ∨ H c = some o) ∧ H q0 = some (.lst acc) ∧ acc.length = k ∧ k ≤ vs.length ∧ Reps N.R F' (((xs.zip ys).take k).map fun p => D.tup [p.1, p.2]) acc, ?_, ?_, ?_, ?_⟩
    · exact ⟨F1, z4, Same.refl _, fun c o h => (z1.kp c o h), upd_same, rfl, Nat.zero_le _, by simpa using (Reps.nil : Reps N.R F1 [] [])⟩
    · rintro k acc H ⟨F', g', s1, kp, hq, hl', hk, rr⟩
      refine ⟨SqL.of (g'.sub _ _ (s1 _ _ a1)), SqL.of (g'.sub _ _ (s1 _ _ b1)), hq, ?_⟩
      rw [line_lim]
      show acc.length < 16777216
      omega
    · rintro k acc H x y T ⟨F', g', s1, kp, hq, hl', hk, rr⟩ hx hy hT
      obtain ⟨m1, m2⟩ := g'.laid (o := .tup [x, y]) hT
      have m3 := m2.wr (a := q0) (o := .lst (acc ++ [V.ref T])) (.inr rfl)
      have nT : q0 ≠ T := ne_of_none hq hT
      obtain ⟨d1, x1, x2⟩ := a2.get' hx
      obtain ⟨d2, y1, y2⟩ := b2.get' hy
      refine ⟨_, m3, s1.trans m1.fz, fun c o h => ?_, upd_same, by simp [hl'], (List.getElem?_eq_some_iff.mp hx).1, ?_⟩
      · rcases kp c o h with w | w
        · exact .inl w
        · refine .inr ?_
          rw [upd_ne (ne_of_none h hq0), upd_ne (ne_of_none w hT)]
          exact w
      · have tk : (xs.zip ys).take (k + 1) = (xs.zip ys).take k ++ [(d1, d2)] := by
          rw [List.take_add_one, (List.getElem?_zip_eq_some (z := (d1, d2))).mpr ⟨x1, y1⟩]
          rfl
        rw [tk, List.map_append]
        refine (Reps.mono m1.fz _ _ rr).append (Reps.one ?_)
        show Rep N.R _ (.tup [d1, d2]) _
        simp only [Rep]
        exact ⟨T, [x, y], rfl, SqT.of upd_same, Reps.cons (Rep.mono (s1.trans m1.fz) _ _ x2) (Reps.one (Rep.mono (s1.trans m1.fz) _ _ y2))⟩
    · rintro acc H ⟨F', g', s1, kp, hq, hl', hk, rr⟩
      have rr : Reps N.R F' ((xs.zip ys).map fun p => D.tup [p.1, p.2]) acc := by
        rw [List.take_of_length_le (by rw [List.length_zip]; omega)] at rr
        exact rr
      exact q F' H (V.ref q0) (k1.trans ⟨s1, kp⟩) (g'.weak fun c h => .inl h) ⟨q0, rfl, h0, (g'.rsv q0 (.inr rfl)).1, nb, nr, no, rfl, acc, hq, rr⟩
end Ev
/-! Ev16h -/
/-! Ev16h: sorted(ints). -/
namespace Ev
open PySem PySem.Spec PyProof.Rows L2
theorem insI_perm (x : Int) : ∀ l : List Int, (insI x l).Perm (x :: l)
  | [] => List.Perm.refl _
  | y :: ys => by
    unfold insI
    split
    · exact List.Perm.refl _
    · exact ((insI_perm x ys).cons y).trans (List.Perm.swap x y ys)
theorem sortI_perm : ∀ l : List Int, (sortI l).Perm l
  | [] => List.Perm.refl _
  | x :: xs => (insI_perm x (sortI xs)).trans ((sortI_perm xs).cons x)
theorem insI_ord (x : Int) : ∀ l : List Int, l.Pairwise (· ≤ ·) → (insI x l).Pairwise (· ≤ ·)
  | [], _ => by simp [insI]
  | y :: ys, h => by
    unfold insI
    rw [List.pairwise_cons] at h
    split
    · rename_i hxy
      refine List.pairwise_cons.mpr ⟨fun z hz => ?_, List.pairwise_cons.mpr h⟩
      rcases List.mem_cons.mp hz with rfl | hz
      · exact hxy
      · exact Int.le_trans hxy (h.1 z hz)
    · rename_i hxy
      refine List.pairwise_cons.mpr ⟨fun z hz => ?_, insI_ord x ys h.2⟩
      rcases List.mem_cons.mp ((insI_perm x ys).mem_iff.mp hz) with rfl | hz
      · omega
      · exact h.1 z hz
theorem sortI_ord : ∀ l : List Int, (sortI l).Pairwise (· ≤ ·)
  | [] => List.Pairwise.nil
  | x :: xs => insI_ord x _ (sortI_ord xs)
theorem sortI_of {l m : List Int} (h : m.Perm l) (o : m.Pairwise (· ≤ ·)) : m = sortI l :=
  List.Perm.eq_of_pairwise (le := (· ≤ ·)) (fun a b _ _ h1 h2 => Int.le_antisymm h1 h2) o (sortI_ord l) (h.trans (sortI_perm l).symm)
theorem e_sorted {N : RN} {X : Cx} {cl : Cl} {x : Str} {e : Expr} {ee : E} {p pos : Pos} (ok : XOk N.R X) (hg : Gl X x) (hm : X.mg x = none) (hv : bootBuiltins x = some (.builtin "sorted")) (ha : PE X e (tE N .top (evE cl ee))) (hn : x ≠ "__name__") (hdb : (x == ("__debug__" : Str)) = false) (hu : unstar e = true) :
    PE X (.Call (.Name x p) [e] [] pos) (tE N .own (evE cl (.bf .sorted [ee]))) :=
  pe_of (pe_callB cr_sortedI hg hm hv (pa_cons ha pa_nil (star_cons hu _ _)) hn hdb (star_cons hu _ _) rfl) fun σ H Q ⟨F, ρ, st, g, d, ρ', st', em, q⟩ => by
    unfold evE evEs evEs at em
    split at em
    · cases em
    rename_i ds ρ1 st1 h1
    split at em
    · cases em
    rename_i z hz
    cases em
    split at h1
    · cases h1
    rename_i d1 ρ1 st1 e1
    cases h1
    cases d1 <;> simp only [bfD, reduceCtorEq, Option.map_eq_some_iff] at hz
    rename_i xs
    obtain ⟨is, h2, rfl⟩ := hz
    refine ⟨F, ρ, st, g, _, _, _, e1, fun F1 H1 v k1 g1 r1 => ?_⟩
    have r1 : RepT N.R F1 H1 (.lst xs) v := r1
    obtain ⟨c, vs, rfl, m1, m2⟩ := r1.lst g1.sub
    have := reps_int m2 h2
    subst this
    refine ⟨c, is, rfl, SqL.of m1, fun ns' l hp ho hl => ?_⟩
    rw [sortI_of hp ho]
    obtain ⟨e2, g2, r2⟩ := g1.own (d := .lst ((sortI is).map .int)) (o := .lst ((sortI is).map V.int)) hl fun H' hH => ⟨_, hH, reps_ints⟩
    exact q _ _ _ (k1.trans e2) g2 r2
end Ev
/-! Ev17 -/
/-! Ev17: from the program's expressions to terms. -/
namespace Ev
open PySem PySem.Spec PyProof.Rows L2

inductive Md where | val | top | own | tst
/-- where an expression stands: the def's names, the scope, the names that are stored to as cells -/
structure SC where
  N : List Str
  sc : Scope
  fn : Str → Bool
  stn : List Str := []
/-- what the text's global names stand for -/
structure Tb where
  fns : List (Str × String × Nat × Bool)
  mks : List (Str × String × String × Nat)
  mts : List (Str × String × String × String × Nat)
  cons : List (Str × D)
  clss : List (Str × String)
  flds : List (Str × String)
  hfl : List Str := []
def isH (T : Tb) : Expr → Bool
  | .Attribute _ m _ => decide (m ∈ T.hfl)
  | _ => false
abbrev Tr := Md → SC → Expr → Option E
def Sat (cl : Cl) (md : Md) (N : RN) (X : Cx) (e : Expr) (t : E) : Prop :=
  match md with
  | .val => PE X e (tE N .val (evE cl t))
  | .top => PE X e (tE N .top (evE cl t))
  | .own => PE X e (tE N .own (evE cl t))
  | .tst => PT X e (tT N (evE cl t))
structure ScOk (c : SC) (X : Cx) : Prop where
  N : X.N = c.N
  sc : X.env.scope = c.sc
  fn : X.fn = c.fn
def blts : List Str := ["len", "abs", "max", "min", "int", "str", "all", "any", "sum", "list", "isinstance", "range", "enumerate", "bool", "tuple", "dict", "zip", "reversed", "sorted"]
/-- the facts that the table tells -/
structure CtxOk (T : Tb) (cl : Cl) (R : RC) (X : Cx) : Prop where
  ok : XOk R X
  blt : ∀ x ∈ blts, X.mg x = none
  fns : ∀ x f n l, T.fns.lookup x = some (f, n, l) → ∃ (k : Nat) (A : Addr) (fd : FuncData) (ps : List Str), FnOk X.prog X.w X.K X.mg X.base CX0 k A fd ps (spV R (cl f) ps.length) ∧ Room k X.A ∧ X.mg x = some (.ref A) ∧ PySem.W.keepIn X.K (.ref A) = true ∧ Binds X.K fd ps [] ∧ n = ps.length
  mks : ∀ x C f n, T.mks.lookup x = some (C, f, n) → ∃ (k : Nat) (c A : Addr) (fd : FuncData) (ps : List Str), Mk X.K c A ∧ FnOk X.prog X.w X.K X.mg X.base CX0 k A fd ps (spI R C (cl f) ps.length) ∧ Room (k + 1) X.A ∧ X.mg x = some (.ref c) ∧ (R.cls C c ∧ InsC R.K c) ∧ Binds X.K fd ps [] ∧ n = ps.length
  mts : ∀ x C m f n, T.mts.lookup x = some (C, m, f, n) → x = nm m ∧ ∃ (k : Nat) (c A : Addr) (fd : FuncData) (ps : List Str), R.mg (nm C) = some (.ref c) ∧ Cls X.K c ∧ Meth X.K c (nm m) A ∧ FnOk X.prog X.w X.K X.mg X.base CX0 k A fd ps (spV R (cl f) ps.length) ∧ Room k X.A ∧ Binds X.K fd ps [] ∧ n = ps.length
  cons : ∀ x d, T.cons.lookup x = some d → ∃ v u, X.mg x = some u ∧ RelV v u ∧ ∀ F, Rep R F d v
  clss : ∀ x t, T.clss.lookup x = some t → ∃ ct, X.mg x = some (.ref ct) ∧ ClsV (.ref ct) (.ref ct) ∧ (∀ S ∈ tys, PySem.W.kitOne R.K (.type S) (.ref ct) = some (isa S t)) ∧ ∀ C c, R.cls C c → InsC R.K c → PySem.W.kitOne R.K (.ref c) (.ref ct) = some (isa C t)
  flds : ∀ x f, T.flds.lookup x = some f → x = nm f ∧ ∀ C c, R.cls C c → InsC R.K c → NoAttr R.K c (nm f)
  tyn : ∀ C c, R.cls C c → InsC R.K c → ∀ t ∈ tys, isa C t = false
def Snd (T : Tb) (cl : Cl) (r : Tr) : Prop := ∀ md c e t, r md c e = some t → ∀ N X, CtxOk T cl N.R X → ScOk c X → Sat cl md N X e t

def opOf : Operator → Option Bo
  | .Add => some .add | .Sub => some .sub | .Mult => some .mul | .Mod => some .mod | .FloorDiv => some .fdiv | .Pow => some .pow | .BitAnd => some .band | .BitOr => some .bor | _ => none
def cmOf : CmpOp → Option Co
  | .Eq => some .eq | .NotEq => some .ne | .Lt => some .lt | .LtE => some .le | .Gt => some .gt | .GtE => some .ge | .In => some .inn | .NotIn => some .nin | _ => none
def isBad (x : Str) : Bool := x == ("__debug__" : Str) || x == ("__classdict__" : Str) || x == ("__name__" : Str)
def slotOf (c : SC) (x : Str) : Option Nat := if isBad x then none else match c.sc.names.lookup x with
  | some .local => c.N.idxOf? x
  | some .cell => c.N.idxOf? x
  | some .free => c.N.idxOf? x
  | _ => none
def glOf (c : SC) (x : Str) : Bool := !isBad x && decide (c.sc.names.lookup x = some .globalImplicit)
def trs (r : Tr) (md : Md) (c : SC) : List Expr → Option (List E)
  | [] => some []
  | e :: es => if unstar e then match r md c e, trs r md c es with | some a, some b => some (a :: b) | _, _ => none else none
def trName (T : Tb) (c : SC) (v : Bool) (x : Str) : Option E := match slotOf c x with
  | some i => some (if v then .mv i else .var i)
  | none => if glOf c x then (T.cons.lookup x).map .glb else none

section
variable {T : Tb} {cl : Cl} {r : Tr} {c : SC} {N : RN} {X : Cx} {x : Str} {pos p apos : Pos}
theorem notbad (h : isBad x = false) : (x == ("__debug__" : Str)) = false ∧ (x == ("__classdict__" : Str)) = false ∧ x ≠ "__name__" := by
  unfold isBad at h
  simp only [Bool.or_eq_false_iff] at h
  exact ⟨h.1.1, h.1.2, fun z => by rw [z] at h; simp at h⟩
theorem slot_ok {i : Nat} (S : ScOk c X) (h : slotOf c x = some i) : X.N[i]? = some x ∧ Vis X.env.scope x ∧ (x == ("__debug__" : Str)) = false ∧ (x == ("__classdict__" : Str)) = false := by
  unfold slotOf at h
  split at h
  · cases h
  rename_i hb
  obtain ⟨b1, b2, _⟩ := notbad (by simpa using hb)
  have key : ∀ {i}, c.N.idxOf? x = some i → X.N[i]? = some x := fun {i} h => by
    rw [S.N]
    rw [List.idxOf?_eq_some_iff] at h
    obtain ⟨h1, h2, _⟩ := h
    rw [List.getElem?_eq_getElem h1, h2]
  unfold Vis
  rw [S.sc]
  split at h
  · rename_i e; exact ⟨key h, .inl e, b1, b2⟩
  · rename_i e; exact ⟨key h, .inr (.inl e), b1, b2⟩
  · rename_i e; exact ⟨key h, .inr (.inr e), b1, b2⟩
  · cases h
theorem gl_ok (S : ScOk c X) (h : glOf c x = true) : Gl X x ∧ (x == ("__debug__" : Str)) = false ∧ x ≠ "__name__" := by
  unfold glOf at h
  simp only [Bool.and_eq_true, Bool.not_eq_true', decide_eq_true_eq] at h
  obtain ⟨b1, b2, b3⟩ := notbad h.1
  refine ⟨?_, b1, b3⟩
  unfold Gl PySem.Env.kindOf
  rw [S.sc]; exact h.2
theorem trs_star {md : Md} : ∀ {es : List Expr} {ts : List E}, trs r md c es = some ts → es.all unstar = true ∧ ts.length = es.length
  | [], ts, h => by simp only [trs] at h; cases h; exact ⟨rfl, rfl⟩
  | e :: es, ts, h => by
    simp only [trs] at h
    split at h
    · rename_i hu
      split at h
      · rename_i a b h1 h2
        cases h
        obtain ⟨k1, k2⟩ := trs_star h2
        exact ⟨by simp [hu, k1], by simp [k2]⟩
      · cases h
    · cases h
theorem trs_val (hr : Snd T cl r) (K : CtxOk T cl N.R X) (S : ScOk c X) : ∀ {es : List Expr} {ts : List E}, trs r .val c es = some ts → PA X es (tA N .val (evEs cl ts))
  | [], ts, h => by simp only [trs] at h; cases h; exact a_nil
  | e :: es, ts, h => by
    simp only [trs] at h
    split at h
    · rename_i hu
      split at h
      · rename_i a b h1 h2
        cases h
        exact a_val (hr _ _ _ _ h1 N X K S) (trs_val hr K S h2) (star_cons hu es X.env)
      · cases h
    · cases h
theorem trs_top (hr : Snd T cl r) (K : CtxOk T cl N.R X) (S : ScOk c X) : ∀ {es : List Expr} {ts : List E}, trs r .top c es = some ts → PA X es (tA N .top (evEs cl ts))
  | [], ts, h => by simp only [trs] at h; cases h; exact a_nil
  | e :: es, ts, h => by
    simp only [trs] at h
    split at h
    · rename_i hu
      split at h
      · rename_i a b h1 h2
        cases h
        exact a_top (hr _ _ _ _ h1 N X K S) (trs_top hr K S h2) (star_cons hu es X.env)
      · cases h
    · cases h
theorem name_ok {v : Bool} {t : E} (K : CtxOk T cl N.R X) (S : ScOk c X) (h : trName T c v x = some t) : Sat cl (if v then .val else .top) N X (.Name x pos) t := by
  unfold trName at h
  split at h
  · rename_i i hi
    cases h
    obtain ⟨h1, h2, h3, h4⟩ := slot_ok S hi
    cases v with
    | true => exact e_mv h1 h2 h3 h4
    | false => exact e_var h1 h2 h3 h4
  · split at h
    · rename_i hg
      obtain ⟨g1, g2, g3⟩ := gl_ok S hg
      cases hl : T.cons.lookup x with
      | none => rw [hl] at h; cases h
      | some d =>
        rw [hl] at h; cases h
        obtain ⟨w, u, k1, k2, k3⟩ := K.cons _ _ hl
        have := e_glb (cl := cl) (N := N) (pos := pos) g1 k1 k2 k3 g2
        cases v with
        | true => exact this
        | false => exact e_top this
    · cases h
/-! ### operators -/
theorem e_bo {o : Operator} {b : Bo} {f : D → D → Option D} (h : opOf o = some b) : OpOk N X (binaryOp o) (binD b) := by
  cases o <;> simp only [opOf, Option.some.injEq, reduceCtorEq] at h <;> subst h
  · exact ok_add
  · exact ok_sub
  · exact ok_mul
  · exact ok_mod
  · exact ok_pow
  · exact ok_bor
  · exact ok_band
  · exact ok_fdiv
theorem bin_ok {o : Operator} {b : Bo} {e1 e2 : Expr} {t1 t2 : E} (h : opOf o = some b) (h1 : PE X e1 (tE N .top (evE cl t1))) (h2 : PE X e2 (tE N .top (evE cl t2))) : PE X (.BinOp e1 o e2 pos) (tE N .val (evE cl (.bin b t1 t2))) :=
  pe_of (e_op2 (e_bo (f := fun _ _ => none) h) h1 h2) fun σ H Q ⟨F, ρ, st, g, d, ρ', st', em, q⟩ => ⟨F, ρ, st, g, d, ρ', st', by unfold evE at em; exact em, q⟩
theorem cmp_ok {o : CmpOp} {b : Co} {e1 e2 : Expr} {t1 t2 : E} (ok : XOk N.R X) (h : cmOf o = some b) (h1 : PE X e1 (tE N .top (evE cl t1))) (h2 : PE X e2 (tE N .top (evE cl t2))) (hn : noSet e2 = true) :
    PE X (.Compare e1 [o] [e2] pos) (tE N .val (evE cl (.cmp b t1 t2))) ∧ PT X (.Compare e1 [o] [e2] pos) (tT N (evE cl (.cmp b t1 t2))) := by
  have mk : ∀ {o : CmpOp} {b : Co}, OpOk N X (compareOp o) (fun p q => (cmpD b p q).map .bl) →
      PE X (.Compare e1 [o] [e2] pos) (tE N .val (evE cl (.cmp b t1 t2))) ∧ PT X (.Compare e1 [o] [e2] pos) (tT N (evE cl (.cmp b t1 t2))) := fun {o b} k =>
    ⟨pe_of (e_cmp2 k h1 h2 (marks_of hn _)) fun σ H Q ⟨F, ρ, st, g, d, ρ', st', em, q⟩ => ⟨F, ρ, st, g, d, ρ', st', by unfold evE at em; exact em, q⟩,
     pt_of (t_cmp2 k h1 h2 (marks_of hn _)) fun σ H Q ⟨F, ρ, st, g, d, ρ', st', em, q⟩ => ⟨F, ρ, st, g, d, ρ', st', by unfold evE at em; exact em, q⟩⟩
  cases o <;> simp only [cmOf, Option.some.injEq, reduceCtorEq] at h <;> subst h
  · exact mk (ok_eq ok)
  · exact mk (ok_ne ok)
  · exact mk ok_lt
  · exact mk ok_le
  · exact mk ok_gt
  · exact mk ok_ge
  · exact ⟨e_inn ok h1 h2 (marks_of hn _), t_inn ok h1 h2 (marks_of hn _)⟩
  · exact ⟨e_nin ok h1 h2 (marks_of hn _), t_nin ok h1 h2 (marks_of hn _)⟩
end
end Ev
/-! Ev18 -/
/-! Ev18: calls. -/
namespace Ev
open PySem PySem.Spec PyProof.Rows L2

/-- a builtin by its name and its number of arguments; true: a type -/
def biOf (x : Str) (n : Nat) : Option (Bi × Bool × String) :=
  if x = "len" ∧ n = 1 then some (.len, false, "len") else if x = "abs" ∧ n = 1 then some (.abs, false, "abs") else if x = "max" ∧ n = 2 then some (.max2, false, "max") else
  if x = "min" ∧ n = 2 then some (.min2, false, "min") else if x = "int" ∧ n = 1 then some (.int1, true, "int") else if x = "int" ∧ n = 2 then some (.int2, true, "int") else
  if x = "str" ∧ n = 1 then some (.str1, true, "str") else if x = "all" ∧ n = 1 then some (.all, false, "all") else if x = "any" ∧ n = 1 then some (.any, false, "any") else
  if x = "sum" ∧ n = 1 then some (.sum, false, "sum") else none
structure BiOk (N : RN) (X : Cx) (x : Str) (b : Bi) (t : Bool) (id : String) : Prop where
  mg : X.mg x = none
  bt : t = true → bootBuiltins x = some (.type id) ∧ CallOk N X (.type id) (biD b)
  bf : t = false → bootBuiltins x = some (.builtin id) ∧ CallOk N X (.builtin id) (biD b)
section
variable {T : Tb} {cl : Cl} {r : Tr} {c : SC} {N : RN} {X : Cx} {x : Str} {pos p apos : Pos}
theorem biOf_ok {n : Nat} {b : Bi} {t : Bool} {id : String} (K : CtxOk T cl N.R X) (h : biOf x n = some (b, t, id)) : BiOk N X x b t id := by
  unfold biOf at h
  have f : ∀ {x : Str} {b : Bi} {id : String}, x ∈ blts → bootBuiltins x = some (.builtin id) → CallOk N X (.builtin id) (biD b) → BiOk N X x b false id := fun m hb k => ⟨K.blt _ m, fun z => by (cases z), fun _ => ⟨hb, k⟩⟩
  have g : ∀ {x : Str} {b : Bi} {id : String}, x ∈ blts → bootBuiltins x = some (.type id) → CallOk N X (.type id) (biD b) → BiOk N X x b true id := fun m hb k => ⟨K.blt _ m, fun _ => ⟨hb, k⟩, fun z => by (cases z)⟩
  split at h
  · rename_i q; obtain ⟨rfl, rfl⟩ := q; cases h; exact f (by decide +kernel) (by rfl) (b_len K.ok)
  split at h
  · rename_i q; obtain ⟨rfl, rfl⟩ := q; cases h; exact f (by decide +kernel) (by rfl) b_abs
  split at h
  · rename_i q; obtain ⟨rfl, rfl⟩ := q; cases h; exact f (by decide +kernel) (by rfl) (b_max2 K.ok.calm)
  split at h
  · rename_i q; obtain ⟨rfl, rfl⟩ := q; cases h; exact f (by decide +kernel) (by rfl) (b_min2 K.ok.calm)
  split at h
  · rename_i q; obtain ⟨rfl, rfl⟩ := q; cases h; exact g (by decide +kernel) (by rfl) b_int1
  split at h
  · rename_i q; obtain ⟨rfl, rfl⟩ := q; cases h; exact g (by decide +kernel) (by rfl) b_int2
  split at h
  · rename_i q; obtain ⟨rfl, rfl⟩ := q; cases h; exact g (by decide +kernel) (by rfl) b_str1
  split at h
  · rename_i q; obtain ⟨rfl, rfl⟩ := q; cases h; exact f (by decide +kernel) (by rfl) (b_all K.ok.calm)
  split at h
  · rename_i q; obtain ⟨rfl, rfl⟩ := q; cases h; exact f (by decide +kernel) (by rfl) (b_any K.ok.calm)
  split at h
  · rename_i q; obtain ⟨rfl, rfl⟩ := q; cases h; exact f (by decide +kernel) (by rfl) (b_sum K.ok.calm)
  · cases h
/-! ### isinstance -/
def tyOf (T : Tb) (c : SC) : Expr → Option String
  | .Name x _ => if glOf c x then match T.clss.lookup x with
      | some t => some t
      | none => if x = "int" then some "int" else if x = "bool" then some "bool" else if x = "str" then some "str" else if x = "list" then some "list" else if x = "tuple" then some "tuple" else if x = "dict" then some "dict" else none
    else none
  | _ => none
theorem tyOf_ok {e : Expr} {t : String} (K : CtxOk T cl N.R X) (S : ScOk c X) (h : tyOf T c e = some t) : IsT N X e t := by
  unfold tyOf at h
  split at h
  · rename_i x pos
    split at h
    · rename_i hg
      obtain ⟨g1, g2, g3⟩ := gl_ok S hg
      split at h
      · rename_i t' hl
        cases h
        obtain ⟨ct, k1, k2, k3, k4⟩ := K.clss _ _ hl
        exact ⟨⟨.ref ct, .ref ct, pe_glob g1 k1 (show RelV (.ref ct) (.ref ct) from rfl) g2, k2, k3, k4⟩⟩
      · have f : ∀ {x : Str} {t : String}, t ∈ tys → x ∈ blts → bootBuiltins x = some (.type t) → Gl X x → (x == ("__debug__" : Str)) = false → x ≠ "__name__" → IsT N X (.Name x pos) t := fun m1 m2 hb g1 g2 g3 => isT_ty m1 g1 (K.blt _ m2) hb g3 g2 fun C c h1 h2 => K.tyn C c h1 h2 _ m1
        repeat' split at h
        all_goals first | cases h | skip
        all_goals rename_i q; subst q; exact f (by decide +kernel) (by decide +kernel) (by rfl) g1 g2 g3
    · cases h
  · cases h
/-! ### the calls -/
def trCall (T : Tb) (r : Tr) (c : SC) (x : Str) (es : List Expr) : Option E :=
  if glOf c x then match T.fns.lookup x with
    | some (f, n, l) => if es.length = n ∧ es ≠ [] then (if l then (trs r .top c es).map (.lend f) else (trs r .val c es).map (.call f)) else none
    | none => match T.mks.lookup x with
      | some (C, f, n) => if es.length + 1 = n ∧ es ≠ [] then (trs r .val c es).map (.call f) else none
      | none => if x = "len" ∧ es.any (isH T) = true then match es with
          | [e] => if unstar e then (r .top c e).map .hlen else none
          | _ => none
        else match biOf x es.length with
        | some (b, _, _) => if es = [] then none else (trs r .top c es).map (.bi b)
        | none => if x = "isinstance" then match es with
            | [a, .Tuple [b1, b2] _ _] => match r .top c a, tyOf T c b1, tyOf T c b2 with
              | some ta, some t1, some t2 => if unstar a && unstar b1 && unstar b2 then some (.isi ta [t1, t2]) else none
              | _, _, _ => none
            | [a, b] => match r .top c a, tyOf T c b with
              | some ta, some t => if unstar a && unstar b then some (.isi ta [t]) else none
              | _, _ => none
            | _ => none
          else none
  else none
theorem call_ok {es : List Expr} {t : E} (hr : Snd T cl r) (K : CtxOk T cl N.R X) (S : ScOk c X) (h : trCall T r c x es = some t) : PE X (.Call (.Name x p) es [] pos) (tE N .val (evE cl t)) := by
  unfold trCall at h
  split at h
  rotate_left
  · cases h
  rename_i hg
  obtain ⟨g1, g2, g3⟩ := gl_ok S hg
  split at h
  · rename_i f n l hl
    obtain ⟨k, A, fd, ps, z1, z2, z3, z4, z5, z6⟩ := K.fns _ _ _ _ hl
    split at h
    rotate_left
    · cases h
    rename_i hh
    obtain ⟨hn, hne⟩ := hh
    cases es with
    | nil => exact absurd rfl hne
    | cons e es =>
    split at h
    · cases ht : trs r .top c (e :: es) with
      | none => rw [ht] at h; cases h
      | some ts =>
        rw [ht] at h; cases h
        obtain ⟨hs, hlen⟩ := trs_star ht
        simp only [List.all_cons, Bool.and_eq_true] at hs
        exact e_lend (E := E0) z1 z2 z3 z4 z5 pass0 (by rw [hlen, hn, z6]) g1 (trs_top hr K S ht) g2 (star_cons hs.1 _ _) (star_any hs.2 _ _)
    · cases ht : trs r .val c (e :: es) with
      | none => rw [ht] at h; cases h
      | some ts =>
        rw [ht] at h; cases h
        obtain ⟨hs, hlen⟩ := trs_star ht
        simp only [List.all_cons, Bool.and_eq_true] at hs
        exact e_call (E := E0) z1 z2 z3 z4 z5 pass0 (by rw [hlen, hn, z6]) g1 (trs_val hr K S ht) g2 (star_cons hs.1 _ _) (star_any hs.2 _ _)
  split at h
  · rename_i C f n hl
    obtain ⟨k, ca, A, fd, ps, z1, z2, z3, z4, z5, z6, z7⟩ := K.mks _ _ _ _ hl
    split at h
    rotate_left
    · cases h
    rename_i hh
    obtain ⟨hn, hne⟩ := hh
    cases es with
    | nil => exact absurd rfl hne
    | cons e es =>
    cases ht : trs r .val c (e :: es) with
    | none => rw [ht] at h; cases h
    | some ts =>
      rw [ht] at h; cases h
      obtain ⟨hs, hlen⟩ := trs_star ht
      simp only [List.all_cons, Bool.and_eq_true] at hs
      exact e_make (E := E0) K.ok z1 z2 z3 z4 z5 z6 pass0 (by rw [hlen, hn, z7]) g1 (trs_val hr K S ht) g2 (star_cons hs.1 _ _) (star_any hs.2 _ _)
  split at h
  · rename_i hx
    obtain ⟨rfl, _⟩ := hx
    split at h
    · rename_i e _
      split at h
      · rename_i hu
        cases ht : r .top c e with
        | none => rw [ht] at h; cases h
        | some t => rw [ht] at h; cases h; exact e_hlen g1 (K.blt "len" (by decide +kernel)) (by rfl) (hr _ _ _ _ ht N X K S) g3 g2 hu
      · cases h
    · cases h
  split at h
  · rename_i b tf id hb
    obtain ⟨m1, m2, m3⟩ := biOf_ok (N := N) K hb
    split at h
    · cases h
    rename_i hne
    cases es with
    | nil => exact absurd rfl hne
    | cons e es =>
    cases ht : trs r .top c (e :: es) with
    | none => rw [ht] at h; cases h
    | some ts =>
      rw [ht] at h; cases h
      obtain ⟨hs, hlen⟩ := trs_star ht
      simp only [List.all_cons, Bool.and_eq_true] at hs
      cases tf with
      | true => obtain ⟨w1, w2⟩ := m2 rfl; exact e_biT w2 g1 m1 w1 (trs_top hr K S ht) g3 g2 (star_cons hs.1 _ _) (star_any hs.2 _ _)
      | false => obtain ⟨w1, w2⟩ := m3 rfl; exact e_biB w2 g1 m1 w1 (trs_top hr K S ht) g3 g2 (star_cons hs.1 _ _) (star_any hs.2 _ _)
  split at h
  rotate_left
  · cases h
  rename_i hx
  subst hx
  have hb : bootBuiltins "isinstance" = some (.builtin "isinstance") := by rfl
  have hm := K.blt "isinstance" (by decide +kernel)
  split at h
  · rename_i a b1 b2 k3 pt
    split at h
    · rename_i ta t1 t2 q1 q2 q3
      split at h
      · rename_i hu
        cases h
        simp only [Bool.and_eq_true] at hu
        exact e_isi2 K.ok g1 hm hb (hr _ _ _ _ q1 N X K S) (tyOf_ok K S q2) (tyOf_ok K S q3) g3 g2 (star_cons hu.1.1 _ _) (star_cons rfl _ _) (star_cons hu.1.2 _ _) (star_cons hu.2 _ _) (star_any rfl _ _)
      · cases h
    · cases h
  · rename_i a b hno
    split at h
    · rename_i ta t1 q1 q2
      split at h
      · rename_i hu
        cases h
        simp only [Bool.and_eq_true] at hu
        exact e_isi1 K.ok g1 hm hb (hr _ _ _ _ q1 N X K S) (tyOf_ok K S q2) g3 g2 (star_cons hu.1 _ _) (star_cons hu.2 _ _) (star_any (by simp [hu.2]) _ _)
      · cases h
    · cases h
  · cases h
def trMeth (T : Tb) (r : Tr) (c : SC) (o : Expr) (m : Str) (es : List Expr) (l : Bool) : Option E :=
  if baseOk o && l then match T.mts.lookup m with
    | some (C, m', f, n) => if es.length + 1 = n ∧ es.length < 29 then match r .val c o, trs r .val c es with
      | some to, some ts => some (.meth C m' f to ts)
      | _, _ => none
      else none
    | none => if m = "join" then match es with
      | [e] => match r .val c o, r .top c e with | some to, some te => if unstar e then some (.bi .join [to, te]) else none | _, _ => none
      | _ => none
      else if m = "count" then match es with
      | [e] => match r .top c o, r .top c e with | some to, some te => if unstar e then some (.bi .count [to, te]) else none | _, _ => none
      | _ => none
      else none
  else none
theorem evEs0 {ρ : Env} {st : PSt} : evEs cl [] ρ st = some ([], ρ, st) := by unfold evEs; rfl
theorem meth_ok {o : Expr} {m : Str} {es : List Expr} {t : E} (hr : Snd T cl r) (K : CtxOk T cl N.R X) (S : ScOk c X) (h : trMeth T r c o m es (apos.endLine == pos.line) = some t) : PE X (.Call (.Attribute o m apos) es [] pos) (tE N .val (evE cl t)) := by
  unfold trMeth at h
  split at h
  rotate_left
  · cases h
  rename_i hh
  simp only [Bool.and_eq_true] at hh
  obtain ⟨hb, hl⟩ := hh
  split at h
  · rename_i C m' f n hk
    obtain ⟨rfl, k, cc, A, fd, ps, z1, z2, z3, z4, z5, z6, z7⟩ := K.mts _ _ _ _ _ hk
    split at h
    rotate_left
    · cases h
    rename_i hn
    split at h
    rotate_left
    · cases h
    rename_i to ts ho ht
    cases h
    obtain ⟨hs, hlen⟩ := trs_star ht
    have tree := meth_tree (m := nm m') (apos := apos) (pos := pos) (env := X.env) hb hl hs hn.2
    cases es with
    | nil =>
      have : ts = [] := by simpa using hlen
      subst this
      exact e_meth0 (E := E0) z1 z2 z3 z4 z5 z6 pass0 (by rw [← z7, ← hn.1]; rfl) (hr _ _ _ _ ho N X K S) tree
    | cons e es =>
      simp only [List.all_cons, Bool.and_eq_true] at hs
      exact e_meth (E := E0) z1 z2 z3 z4 z5 z6 pass0 (by rw [hlen, hn.1, z7]) (hr _ _ _ _ ho N X K S) (trs_val hr K S ht) (star_cons hs.1 _ _) (star_any hs.2 _ _) tree
  · split at h
    · rename_i hm
      subst hm
      split at h
      rotate_left
      · cases h
      split at h
      rotate_left
      · cases h
      rename_i to te ho he
      split at h
      rotate_left
      · cases h
      rename_i hu
      cases h
      exact e_join (hr _ _ _ _ ho N X K S) (hr _ _ _ _ he N X K S) (star_cons hu _ _) (base_of hb _ _ _) hl
    split at h
    rotate_left
    · cases h
    rename_i hm
    subst hm
    split at h
    rotate_left
    · cases h
    split at h
    rotate_left
    · cases h
    rename_i to te ho he
    split at h
    rotate_left
    · cases h
    rename_i hu
    cases h
    exact e_count K.ok (hr _ _ _ _ ho N X K S) (hr _ _ _ _ he N X K S) hu hb hl
end
end Ev
/-! Ev19 -/
/-! Ev19: walks, targets, list comprehensions. -/
namespace Ev
open PySem PySem.Spec PyProof.Rows L2

def tgNm (c : SC) (x : Str) : Option Nat := if isBad x then none else match c.sc.names.lookup x with
  | some .local => c.N.idxOf? x
  | some .cell => if c.fn x then c.N.idxOf? x else none
  | _ => none
def tgNms (c : SC) : List Expr → Option (List Nat)
  | [] => some []
  | .Name x _ :: es => match tgNm c x, tgNms c es with | some i, some is => some (i :: is) | _, _ => none
  | _ => none
def trG (c : SC) : Expr → Option Tg
  | .Name x _ => (tgNm c x).map .nm
  | .Tuple es _ _ => (tgNms c es).map .tp
  | _ => none
def isTup : Expr → Bool | .Tuple _ _ _ => true | _ => false
def trI (r : Tr) (c : SC) (tg : Expr) : Expr → Option (Sk × List E)
  | .Call (.Name x p) es [] pos => if glOf c x ∧ x = "range" then match es with
      | [e] => if unstar e then (r .val c e).map fun t => (.rng, [t]) else none
      | [e, e2] => if unstar e && unstar e2 then match r .val c e, r .val c e2 with | some t, some t2 => some (.rng, [t, t2]) | _, _ => none else none
      | _ => none
    else if glOf c x ∧ x = "enumerate" then match es with
      | [e] => if unstar e && isTup tg then (r .val c e).map fun t => (.enm, [t]) else none
      | _ => none
    else if glOf c x ∧ x = "zip" then match es with
      | [e, e2] => if unstar e && unstar e2 && isTup tg then match r .val c e, r .val c e2 with | some t, some t2 => some (.zp, [t, t2]) | _, _ => none else none
      | _ => none
    else (r .val c (.Call (.Name x p) es [] pos)).map fun t => (.seq, [t])
  | e => if noSet e then (r .val c e).map fun t => (.seq, [t]) else none
section
variable {T : Tb} {cl : Cl} {r : Tr} {c : SC} {N : RN} {X : Cx} {x : Str} {pos p apos : Pos}
theorem tgNm_ok {i : Nat} (S : ScOk c X) (h : tgNm c x = some i) : X.N[i]? = some x ∧ Loc X.env.scope x ∧ (X.fn x = true ∨ X.env.scope.names.lookup x = some .local) := by
  unfold tgNm at h
  split at h
  · cases h
  have key : ∀ {i}, c.N.idxOf? x = some i → X.N[i]? = some x := fun {i} h => by
    rw [S.N]
    rw [List.idxOf?_eq_some_iff] at h
    obtain ⟨h1, h2, _⟩ := h
    rw [List.getElem?_eq_getElem h1, h2]
  unfold L2.Loc
  rw [S.sc, S.fn]
  split at h
  · rename_i e; exact ⟨key h, .inl e, .inr e⟩
  · rename_i e
    split at h
    · rename_i f; exact ⟨key h, .inr e, .inl f⟩
    · cases h
  · cases h
theorem assignName {es : List Expr} {env : PySem.Env} : (assignEach (.Name x pos :: es) env).map (·.2) = assign (.Name x pos) env :: (assignEach es env).map (·.2) := by
  rfl
theorem tgNms_ok (ok : XOk N.R X) (S : ScOk c X) : ∀ {es : List Expr} {is : List Nat}, tgNms c es = some is → PGs X es (gNms is) ∧ (assignEach es X.env).length = is.length ∧ (assignEach es X.env).findIdx? (·.1) = none
  | [], is, h => by
    simp only [tgNms] at h; cases h
    exact ⟨pgs_nil, rfl, rfl⟩
  | .Name x pos :: es, is, h => by
    simp only [tgNms] at h
    split at h
    · rename_i i is' h1 h2
      cases h
      obtain ⟨k1, k2, k3⟩ := tgNm_ok S h1
      obtain ⟨m1, m2, m3⟩ := tgNms_ok ok S h2
      have e : assignEach (.Name x pos :: es) X.env = (false, assign (.Name x pos) X.env) :: assignEach es X.env := rfl
      refine ⟨pgs_cons (pg_name ok.nd k1 k2 k3) m1 assignName, by rw [e]; simp [m2], ?_⟩
      rw [e, List.findIdx?_cons, m3]
      rfl
    · cases h
  | .BoolOp .. :: _, is, h | .NamedExpr .. :: _, is, h | .BinOp .. :: _, is, h | .UnaryOp .. :: _, is, h | .Lambda .. :: _, is, h | .IfExp .. :: _, is, h | .Dict .. :: _, is, h | .Set .. :: _, is, h | .ListComp .. :: _, is, h | .SetComp .. :: _, is, h
  | .DictComp .. :: _, is, h | .GeneratorExp .. :: _, is, h | .Await .. :: _, is, h | .Yield .. :: _, is, h | .YieldFrom .. :: _, is, h | .Compare .. :: _, is, h | .Call .. :: _, is, h | .FormattedValue .. :: _, is, h | .JoinedStr .. :: _, is, h
  | .Constant .. :: _, is, h | .Attribute .. :: _, is, h | .Subscript .. :: _, is, h | .Starred .. :: _, is, h | .List .. :: _, is, h | .Tuple .. :: _, is, h | .Slice .. :: _, is, h => by simp only [tgNms] at h; cases h
theorem trG_ok {e : Expr} {t : Tg} (ok : XOk N.R X) (S : ScOk c X) (h : trG c e = some t) : PG X e (gOf N.R t) := by
  unfold trG at h
  split at h
  · rename_i x pos
    cases hi : tgNm c x with
    | none => rw [hi] at h; cases h
    | some i =>
      rw [hi] at h; cases h
      obtain ⟨k1, k2, k3⟩ := tgNm_ok S hi
      exact pg_name ok.nd k1 k2 k3
  · rename_i es k pos
    cases hi : tgNms c es with
    | none => rw [hi] at h; cases h
    | some is =>
      rw [hi] at h; cases h
      obtain ⟨m1, m2, m3⟩ := tgNms_ok ok S hi
      show PG X _ (gTup N.R.K is.length (gNms is))
      rw [← ok.K]
      exact pg_tup ok.calm m1 m2 m3
  · cases h
theorem star1 {e : Expr} {env : PySem.Env} (h : unstar e = true) : starEach [e] env = [(false, eval e env)] := star_cons h [] env
theorem trI_ok {tg e : Expr} {k : Sk} {ts : List E} (hr : Snd T cl r) (K : CtxOk T cl N.R X) (S : ScOk c X) (h : trI r c tg e = some (k, ts)) : PI X tg e (tI N (srcM cl k ts)) ∧ noSet e = true := by
  unfold trI at h
  split at h
  · rename_i x p es pos
    refine ⟨?_, rfl⟩
    split at h
    · rename_i q
      obtain ⟨hg, rfl⟩ := q
      obtain ⟨g1, g2, g3⟩ := gl_ok S hg
      have hm := K.blt "range" (by decide +kernel)
      split at h
      · rename_i e
        split at h
        · rename_i hu
          cases ht : r .val c e with
          | none => rw [ht] at h; cases h
          | some t => rw [ht] at h; cases h; exact i_rng1 g1 hm (hr _ _ _ _ ht N X K S) (star1 hu) (star_cons hu _ _)
        · cases h
      · rename_i e e2
        split at h
        · rename_i hu
          simp only [Bool.and_eq_true] at hu
          split at h
          · rename_i t t2 h1 h2
            cases h
            exact i_rng2 g1 hm (hr _ _ _ _ h1 N X K S) (hr _ _ _ _ h2 N X K S) (star_cons hu.2 _ _) (star_cons hu.1 _ _) ((star_cons hu.1 _ _).trans (by rw [star1 hu.2])) (star1 hu.2)
          · cases h
        · cases h
      · cases h
    split at h
    · rename_i q
      obtain ⟨hg, rfl⟩ := q
      obtain ⟨g1, g2, g3⟩ := gl_ok S hg
      have hm := K.blt "enumerate" (by decide +kernel)
      split at h
      · rename_i e
        split at h
        · rename_i hu
          simp only [Bool.and_eq_true] at hu
          cases ht : r .val c e with
          | none => rw [ht] at h; cases h
          | some t =>
            rw [ht] at h; cases h
            cases tg <;> first | (exact i_enum K.ok g1 hm (hr _ _ _ _ ht N X K S) (star1 hu.1) (star_cons hu.1 _ _)) | exact absurd hu.2 (by simp [isTup])
        · cases h
      · cases h
    split at h
    · rename_i q
      obtain ⟨hg, rfl⟩ := q
      obtain ⟨g1, g2, g3⟩ := gl_ok S hg
      have hm := K.blt "zip" (by decide +kernel)
      split at h
      · rename_i e e2
        split at h
        · rename_i hu
          simp only [Bool.and_eq_true] at hu
          split at h
          · rename_i t t2 h1 h2
            cases h
            cases tg <;> first | (exact i_zip K.ok g1 hm (hr _ _ _ _ h1 N X K S) (hr _ _ _ _ h2 N X K S) hu.1.1 hu.1.2) | exact absurd hu.2 (by simp [isTup])
          · cases h
        · cases h
      · cases h
    · cases ht : r .val c (.Call (.Name x p) es [] pos) with
      | none => rw [ht] at h; cases h
      | some t => rw [ht] at h; cases h; exact i_seq K.ok (hr _ _ _ _ ht N X K S)
  · split at h
    · rename_i hn
      cases ht : r .val c e with
      | none => rw [ht] at h; cases h
      | some t => rw [ht] at h; cases h; exact ⟨i_seq K.ok (hr _ _ _ _ ht N X K S), hn⟩
    · cases h
/-! ### a comprehension's block -/
def ownOf (c : SC) (scope : Scope) : List (Str × Nat) := scope.names.filterMap fun y => if y.2 = .local ∨ y.2 = .cell then (c.N.idxOf? y.1).map fun i => (y.1, i) else none
def blkB (N : List Str) (sc scope : Scope) (own : List (Str × Nat)) : Bool :=
  decide (scope.kind = .function) && scope.names.all (fun y => decide (scope.names.lookup y.1 = some y.2)) && own.all (fun p => decide (N[p.2]? = some p.1)) &&
  scope.names.all (fun y => !decide (y.2 = .free) || (decide (sc.names.lookup y.1 = some .cell) || decide (sc.names.lookup y.1 = some .free))) &&
  scope.names.all (fun y => (!(decide (y.2 = .local) || decide (y.2 = .cell))) || (decide (y.1 ∈ own.map (·.1)) || !decide (y.1 ∈ N)))
theorem blkB_ok {Ns : List Str} {sc scope : Scope} {own : List (Str × Nat)} (h : blkB Ns sc scope own = true) : BlkOk Ns sc scope own := by
  unfold blkB at h
  simp only [Bool.and_eq_true, decide_eq_true_eq, List.all_eq_true, Bool.or_eq_true, Bool.not_eq_true', decide_eq_false_iff_not, Bool.or_eq_false_iff] at h
  obtain ⟨⟨⟨⟨h1, h2⟩, h3⟩, h4⟩, h5⟩ := h
  refine ⟨h1, h2, h3, fun y hy e => ?_, fun y hy e => ?_⟩
  · rcases h4 y hy with z | z
    · exact absurd e z
    · exact z
  · rcases h5 y hy with z | z
    · rcases e with e | e
      · exact absurd e z.1
      · exact absurd e z.2
    · exact z
def blkC (c : SC) (scope : Scope) : SC := ⟨c.N, relS scope c.sc, fun x => scope.names.lookup x == some .cell, c.stn⟩
theorem CtxOk.blk {R : RC} (K : CtxOk T cl R X) (s : Shared) (H : Hp) (scope : Scope) (cenv : PySem.Env) (fp : List Addr) : CtxOk T cl R (X.blk s H scope cenv fp) :=
  ⟨⟨K.ok.K, K.ok.mg, K.ok.nd, K.ok.calm, K.ok.units⟩, K.blt, K.fns, K.mks, K.mts, K.cons, K.clss, K.flds, K.tyn⟩
theorem ScOk.blk (S : ScOk c X) (s : Shared) (H : Hp) (scope : Scope) (C : Addr) (cs : List (Str × Addr)) (fp : List Addr) : ScOk (blkC c scope) (X.blk s H scope (compEnvC scope cs C X.env) fp) :=
  ⟨S.N, by show relS scope X.env.scope = _; rw [S.sc]; rfl, rfl⟩
structure LcT where
  own : List Nat
  tg : Tg
  k : Sk
  src : List E
  c : Option E
  el : E
def LcT.t (l : LcT) : E := .lc l.own l.tg l.k l.src l.c l.el
def trLc (r : Tr) (c : SC) : Expr → Option LcT
  | .ListComp elt [⟨tg, iter, ifs, 0⟩] scope _ =>
    if blkB c.N c.sc scope (ownOf c scope) then match trI r c tg iter, trG (blkC c scope) tg, r .val (blkC c scope) elt with
      | some (k, src), some g, some el => if (tgIs g).all (fun i => decide (i ∈ (ownOf c scope).map (·.2))) then match ifs with
          | [] => some ⟨(ownOf c scope).map (·.2), g, k, src, none, el⟩
          | [t] => (r .tst (blkC c scope) t).map fun tt => ⟨(ownOf c scope).map (·.2), g, k, src, some tt, el⟩
          | _ => none
        else none
      | _, _, _ => none
    else none
  | _ => none
structure LcOk (cl : Cl) (c : SC) (N : RN) (X : Cx) (e : Expr) (l : LcT) : Prop where
  ex : ∃ elt tg iter ifs scope pos, ∃ own : List (Str × Nat), e = .ListComp elt [⟨tg, iter, ifs, 0⟩] scope pos ∧ l.own = own.map (·.2) ∧ PI X tg iter (tI N (srcM cl l.k l.src)) ∧ BlkOk X.N X.env.scope scope own ∧ (∀ i ∈ tgIs l.tg, i ∈ own.map (·.2)) ∧
    (∀ (s : Shared) (H : Hp) (C : Addr) (cs : List (Str × Addr)) (fp : List Addr), PG (X.blk s H scope (compEnvC scope cs C X.env) fp) tg (gOf N.R l.tg)) ∧
    (∀ (s : Shared) (H : Hp) (C : Addr) (cs : List (Str × Addr)) (fp : List Addr) (rs : Addr → Prop), PTs (X.blk s H scope (compEnvC scope cs C X.env) fp) ifs (tT (N.rz rs) (evO' cl l.c))) ∧
    (∀ (s : Shared) (H : Hp) (C : Addr) (cs : List (Str × Addr)) (fp : List Addr) (rs : Addr → Prop), PE (X.blk s H scope (compEnvC scope cs C X.env) fp) elt (tE (N.rz rs) .val (evE cl l.el))) ∧ ∀ x, foldedSetIterable iter X.env x = pure x
theorem trLc_ok {e : Expr} {l : LcT} (hr : Snd T cl r) (K : CtxOk T cl N.R X) (S : ScOk c X) (h : trLc r c e = some l) : LcOk cl c N X e l := by
  unfold trLc at h
  split at h
  rotate_left
  · cases h
  rename_i elt tg iter ifs scope pos
  split at h
  rotate_left
  · cases h
  rename_i hb
  split at h
  rotate_left
  · cases h
  rename_i k src g el h1 h2 h3
  split at h
  rotate_left
  · cases h
  rename_i hs
  have hb' : BlkOk X.N X.env.scope scope (ownOf c scope) := by rw [S.N, S.sc]; exact blkB_ok hb
  obtain ⟨hi, hn⟩ := trI_ok hr K S h1
  have hsub : ∀ i ∈ tgIs g, i ∈ (ownOf c scope).map (·.2) := fun i hi => by
    have := List.all_eq_true.mp hs i hi
    simpa using this
  split at h
  · cases h
    refine ⟨⟨elt, tg, iter, [], scope, pos, _, rfl, rfl, hi, hb', hsub, fun s H C cs fp => trG_ok (N := N) (K.blk s H scope _ fp).ok (S.blk s H scope C cs fp) h2, fun s H C cs fp rs => ?_, fun s H C cs fp rs => hr _ _ _ _ h3 (N.rz rs) _ (K.blk s H scope _ fp) (S.blk s H scope C cs fp), folded_of hn _⟩⟩
    exact pts_of pts_nil fun σ H' Q ⟨F, ρ, st, g', b, ρ', st', em, q⟩ => by
      unfold evO' at em
      cases em
      exact q _ _ (Go.refl _ _ _) g'
  · rename_i t
    cases ht : r .tst (blkC c scope) t with
    | none => rw [ht] at h; cases h
    | some tt =>
      rw [ht] at h; cases h
      refine ⟨⟨elt, tg, iter, [t], scope, pos, _, rfl, rfl, hi, hb', hsub, fun s H C cs fp => trG_ok (N := N) (K.blk s H scope _ fp).ok (S.blk s H scope C cs fp) h2, fun s H C cs fp rs => ?_, fun s H C cs fp rs => hr _ _ _ _ h3 (N.rz rs) _ (K.blk s H scope _ fp) (S.blk s H scope C cs fp), folded_of hn _⟩⟩
      refine pts_of (pts_one (hr _ _ _ _ ht (N.rz rs) _ (K.blk s H scope _ fp) (S.blk s H scope C cs fp))) fun σ H' Q ⟨F, ρ, st, g', b, ρ', st', em, q⟩ => ⟨F, ρ, st, g', b, ρ', st', by unfold evO' at em; exact em, q⟩
  · cases h
theorem LcOk.e {e : Expr} {l : LcT} (ok : XOk N.R X) (h : LcOk cl c N X e l) : PE X e (tE N .own (evE cl l.t)) := by
  obtain ⟨elt, tg, iter, ifs, scope, pos, own, rfl, ho, h1, h2, h3, h4, h5, h6, h7⟩ := h.ex
  unfold LcT.t
  rw [ho]
  exact e_lc ok h1 h2 h3 h4 h5 h6 h7
end
end Ev
/-! Ev20 -/
/-! Ev20: the translator of expressions. -/
namespace Ev
open PySem PySem.Spec PyProof.Rows L2

def trO (T : Tb) (r : Tr) (c : SC) : Expr → Option E
  | .ListComp elt gs scope pos => (trLc r c (.ListComp elt gs scope pos)).map LcT.t
  | .List es _ => if es.length ≤ 1000 then (trs r .val c es).map .lst else none
  | .IfExp t a b _ => match r .tst c t, r .own c a, r .own c b with | some x, some y, some z => some (.ite x y z) | _, _, _ => none
  | .Call (.Name x _) [.Call (.Name y p2) [a, b] [] pos2] [] _ => if glOf c x ∧ x = "list" ∧ glOf c y ∧ y = "zip" ∧ unstar a = true ∧ unstar b = true then match r .val c a, r .val c b with | some ta, some tb => some (.lzip ta tb) | _, _ => none
    else if glOf c x ∧ x = "list" then (r .top c (.Call (.Name y p2) [a, b] [] pos2)).map fun t => .bf .list [t] else none
  | .Call (.Name x _) [e] [] _ => if glOf c x ∧ x = "list" ∧ unstar e = true then (r .top c e).map fun t => if isH T e then .hkeys t else .bf .list [t] else if glOf c x ∧ x = "sorted" ∧ unstar e = true then (r .top c e).map fun t => .bf .sorted [t] else none
  | _ => none
def trBo (r : Tr) (md1 md2 : Md) (c : SC) (op : BoolOp) : List Expr → Option E
  | [] => none
  | [a] => r md2 c a
  | a :: b :: rest => match r md1 c a, trBo r md1 md2 c op (b :: rest) with
    | some x, some y => some (match op with | .And => .and x y | .Or => .or x y)
    | _, _ => none
def trCmp (T : Tb) (r : Tr) (c : SC) (a : Expr) (op : CmpOp) (b : Expr) : Option E :=
  match op, b with
  | .Is, .Constant .none _ _ => (r .top c a).map .isN
  | .IsNot, .Constant .none _ _ => (r .top c a).map .ntN
  | op, b => match cmOf op, r .top c a, r .top c b with
    | some o, some x, some y => if noSet b then (if isH T b then match o with | .inn => some (.hin false x y) | .nin => some (.hin true x y) | _ => none else some (.cmp o x y)) else none
    | _, _, _ => none
/-- the drawing state -/
def trSt (c : SC) : Expr → Option E
  | .Subscript (.Name x _) (.Constant (.int k) _ _) _ => if decide (x ∈ c.stn) && decide (0 ≤ k) then (slotOf c x).map fun i => .sget i k.toNat else none
  | .Call (.Attribute (.Subscript (.Name x _) (.Constant (.int k) _ _) _) m apos) [.Constant (.int k2) _ _] [] pos => if decide (x ∈ c.stn) && decide (k = 0) && decide (k2 = 0) && decide (m = "pop") && (apos.endLine == pos.line) then (slotOf c x).map .spop else none
  | _ => none
def trSnz (c : SC) : Expr → Option E
  | .Compare (.Subscript (.Name x _) (.Constant (.int k) _ _) _) [.NotEq] [.List [] _] _ => if decide (x ∈ c.stn) && decide (k = 0) then (slotOf c x).map .snz else none
  | _ => none
def trPart (r : Tr) (c : SC) : Option Expr → Option (Option E)
  | none => some none
  | some e => (r .top c e).map some
def trC (T : Tb) (r : Tr) (c : SC) : Expr → Option E
  | .Name x _ => trName T c true x
  | .Constant (.int i) _ _ => some (.int i)
  | .Constant (.bool b) _ _ => some (.bl b)
  | .Constant .none _ _ => some .non
  | .Constant (.str s) _ _ => some (.str s.cps.toList)
  | .BinOp a o b _ => match opOf o, r .top c a, r .top c b with | some o, some x, some y => some (.bin o x y) | _, _, _ => none
  | .UnaryOp .Not a _ => (r .top c a).map .not
  | .UnaryOp .USub a _ => (r .top c a).map .neg
  | .UnaryOp .Invert a _ => (r .top c a).map .inv
  | .BoolOp op es _ => trBo r .top .val c op es
  | .IfExp t a b _ => match r .tst c t, r .val c a, r .val c b with | some x, some y, some z => some (.ite x y z) | _, _, _ => none
  | .Compare a [.NotEq] [.Dict [] [] _] _ => if isH T a then (r .top c a).map .hne else none
  | .Compare a [op] [b] _ => trCmp T r c a op b
  | .Call (.Name x _) es [] _ => trCall T r c x es
  | .Call (.Attribute o m apos) es [] pos => trMeth T r c o m es (apos.endLine == pos.line)
  | .Attribute o m _ => if baseOk o then match T.flds.lookup m with | some f => (r .top c o).map fun t => .fld t f | none => none else none
  | .Subscript a (.Slice lo hi none _) _ => match r .top c a, trPart r c lo, trPart r c hi with | some x, some l, some h => some (.sl x l h) | _, _, _ => none
  | .Subscript a b _ => if noSlice b then match r .top c a, r .top c b with | some x, some y => some (.idx x y) | _, _ => none else none
  | .Tuple es _ _ => if es.length ≤ 1000 then (trs r .val c es).map .tup else none
  | _ => none
def trV (T : Tb) (r : Tr) (c : SC) (e : Expr) : Option E := match trO T r c e with | some t => some t | none => match trSt c e with | some t => some t | none => trC T r c e
def trT (T : Tb) (r : Tr) (c : SC) (e : Expr) : Option E := match e with
  | .Name x _ => trName T c false x
  | e => trV T r c e
def trB0 (T : Tb) (r : Tr) (c : SC) (e : Expr) : Option E := match e with
  | .UnaryOp .Not a _ => (r .tst c a).map .not
  | .BoolOp op es _ => trBo r .tst .tst c op es
  | .Compare a [op] [b] _ => trCmp T r c a op b
  | e => if plainTest e then trT T r c e else none
def trB (T : Tb) (r : Tr) (c : SC) (e : Expr) : Option E := match trSnz c e with | some t => some t | none => trB0 T r c e
def step (T : Tb) (r : Tr) : Tr := fun md c e => match md with | .val => trV T r c e | .top => trT T r c e | .own => trO T r c e | .tst => trB T r c e
def tr (T : Tb) : Nat → Tr
  | 0 => fun _ _ _ => none
  | n + 1 => step T (tr T n)
section
variable {T : Tb} {cl : Cl} {r : Tr} {c : SC} {N : RN} {X : Cx} {x : Str} {pos p apos : Pos}
theorem trO_ok {e : Expr} {t : E} (hr : Snd T cl r) (K : CtxOk T cl N.R X) (S : ScOk c X) (h : trO T r c e = some t) : PE X e (tE N .own (evE cl t)) := by
  unfold trO at h
  split at h
  · rename_i elt gs scope pos
    cases hl : trLc r c (.ListComp elt gs scope pos) with
    | none => rw [hl] at h; cases h
    | some l => rw [hl] at h; cases h; exact (trLc_ok hr K S hl).e K.ok
  · rename_i es pos
    split at h
    rotate_left
    · cases h
    rename_i hl
    cases ht : trs r .val c es with
    | none => rw [ht] at h; cases h
    | some ts => rw [ht] at h; cases h; exact e_lst (trs_val hr K S ht) (by rw [(trs_star ht).2]; exact hl)
  · split at h
    rotate_left
    · cases h
    rename_i h1 h2 h3
    cases h
    exact e_ite (hr _ _ _ _ h1 N X K S) (hr _ _ _ _ h2 N X K S) (hr _ _ _ _ h3 N X K S)
  · rename_i x p y p2 a b pos2 pos
    split at h
    · rename_i q
      obtain ⟨hg, rfl, hg2, rfl, hu, hu2⟩ := q
      split at h
      · rename_i ta tb h1 h2
        cases h
        exact e_lzip K.ok (gl_ok S hg).1 (K.blt "list" (by decide +kernel)) (gl_ok S hg2).1 (K.blt "zip" (by decide +kernel)) (hr _ _ _ _ h1 N X K S) (hr _ _ _ _ h2 N X K S) hu hu2
      · cases h
    split at h
    · rename_i q
      obtain ⟨hg, rfl⟩ := q
      obtain ⟨g1, g2, g3⟩ := gl_ok S hg
      cases ht : r .top c (.Call (.Name y p2) [a, b] [] pos2) with
      | none => rw [ht] at h; cases h
      | some t =>
        rw [ht] at h; cases h
        exact e_listOf K.ok g1 (K.blt "list" (by decide +kernel)) (by rfl) (a_top (hr _ _ _ _ ht N X K S) a_nil (star_cons rfl _ _)) g3 g2 (star_cons rfl _ _) rfl
    · cases h
  · rename_i x p e pos _
    split at h
    rotate_left
    · split at h
      rotate_left
      · cases h
      rename_i q
      obtain ⟨hg, rfl, hu⟩ := q
      obtain ⟨g1, g2, g3⟩ := gl_ok S hg
      cases ht : r .top c e with
      | none => rw [ht] at h; cases h
      | some t => rw [ht] at h; cases h; exact e_sorted K.ok g1 (K.blt "sorted" (by decide +kernel)) (by rfl) (hr _ _ _ _ ht N X K S) g3 g2 hu
    rename_i q
    obtain ⟨hg, rfl, hu⟩ := q
    obtain ⟨g1, g2, g3⟩ := gl_ok S hg
    cases ht : r .top c e with
    | none => rw [ht] at h; cases h
    | some t =>
      rw [ht] at h; cases h
      show PE X _ (tE N .own (evE cl (if isH T e = true then .hkeys t else .bf .list [t])))
      split
      · exact e_hkeys K.ok g1 (K.blt "list" (by decide +kernel)) (by rfl) (hr _ _ _ _ ht N X K S) g3 g2 hu
      · exact e_listOf K.ok g1 (K.blt "list" (by decide +kernel)) (by rfl) (a_top (hr _ _ _ _ ht N X K S) a_nil (star_cons hu _ _)) g3 g2 (star_cons hu _ _) rfl
  · cases h
theorem bo_val (hr : Snd T cl r) (K : CtxOk T cl N.R X) (S : ScOk c X) {op : BoolOp} : ∀ {es : List Expr} {t : E}, trBo r .top .val c op es = some t → PE X (.BoolOp op es pos) (tE N .val (evE cl t))
  | [], t, h => by simp only [trBo] at h; cases h
  | [a], t, h => by simp only [trBo] at h; exact e_one (hr _ _ _ _ h N X K S)
  | a :: b :: rest, t, h => by
    simp only [trBo] at h
    split at h
    · rename_i x y h1 h2
      cases h
      cases op with
      | And => exact e_and (hr _ _ _ _ h1 N X K S) (bo_val hr K S h2)
      | Or => exact e_or (hr _ _ _ _ h1 N X K S) (bo_val hr K S h2)
    · cases h
theorem bo_tst (hr : Snd T cl r) (K : CtxOk T cl N.R X) (S : ScOk c X) {op : BoolOp} : ∀ {es : List Expr} {t : E}, trBo r .tst .tst c op es = some t → PW X (.BoolOp op es pos) (tT N (evE cl t))
  | [], t, h => by simp only [trBo] at h; cases h
  | [a], t, h => by simp only [trBo] at h; exact w_one (hr _ _ _ _ h N X K S)
  | a :: b :: rest, t, h => by
    simp only [trBo] at h
    split at h
    · rename_i x y h1 h2
      cases h
      cases op with
      | And => exact w_and (hr _ _ _ _ h1 N X K S) (bo_tst hr K S h2)
      | Or => exact w_or (hr _ _ _ _ h1 N X K S) (bo_tst hr K S h2)
    · cases h
theorem cmOf_in {op : CmpOp} (h : cmOf op = some .inn) : op = .In := by
  cases op <;> first | rfl | cases h
theorem cmOf_nin {op : CmpOp} (h : cmOf op = some .nin) : op = .NotIn := by
  cases op <;> first | rfl | cases h
theorem trCmp_ok {a b : Expr} {op : CmpOp} {t : E} (hr : Snd T cl r) (K : CtxOk T cl N.R X) (S : ScOk c X) (h : trCmp T r c a op b = some t) :
    PE X (.Compare a [op] [b] pos) (tE N .val (evE cl t)) ∧ PT X (.Compare a [op] [b] pos) (tT N (evE cl t)) := by
  unfold trCmp at h
  split at h
  · cases ht : r .top c a with
    | none => rw [ht] at h; cases h
    | some x => rw [ht] at h; cases h; exact ⟨e_isN (hr _ _ _ _ ht N X K S), t_isN (hr _ _ _ _ ht N X K S)⟩
  · cases ht : r .top c a with
    | none => rw [ht] at h; cases h
    | some x => rw [ht] at h; cases h; exact ⟨e_ntN (hr _ _ _ _ ht N X K S), t_ntN (hr _ _ _ _ ht N X K S)⟩
  · split at h
    rotate_left
    · cases h
    rename_i o x y h1 h2 h3
    split at h
    · rename_i hn
      split at h
      · rename_i hh
        split at h
        · cases h
          have ho := cmOf_in h1
          subst ho
          exact ⟨e_hin K.ok (hr _ _ _ _ h2 N X K S) (hr _ _ _ _ h3 N X K S) (marks_of hn _), t_hin K.ok (hr _ _ _ _ h2 N X K S) (hr _ _ _ _ h3 N X K S) (marks_of hn _)⟩
        · cases h
          have ho := cmOf_nin h1
          subst ho
          exact ⟨e_hnin K.ok (hr _ _ _ _ h2 N X K S) (hr _ _ _ _ h3 N X K S) (marks_of hn _), t_hnin K.ok (hr _ _ _ _ h2 N X K S) (hr _ _ _ _ h3 N X K S) (marks_of hn _)⟩
        · cases h
      · cases h
        exact cmp_ok K.ok h1 (hr _ _ _ _ h2 N X K S) (hr _ _ _ _ h3 N X K S) hn
    · cases h
theorem trC_ok {e : Expr} {t : E} (hr : Snd T cl r) (K : CtxOk T cl N.R X) (S : ScOk c X) (h : trC T r c e = some t) : PE X e (tE N .val (evE cl t)) := by
  have v : ∀ {e t}, r .val c e = some t → PE X e (tE N .val (evE cl t)) := fun h => hr _ _ _ _ h N X K S
  have tp : ∀ {e t}, r .top c e = some t → PE X e (tE N .top (evE cl t)) := fun h => hr _ _ _ _ h N X K S
  have ts : ∀ {e t}, r .tst c e = some t → PT X e (tT N (evE cl t)) := fun h => hr _ _ _ _ h N X K S
  unfold trC at h
  split at h
  · exact name_ok (v := true) K S h
  · cases h; exact e_int
  · cases h; exact e_bl
  · cases h; exact e_non
  · cases h; exact e_str rfl
  · split at h
    · rename_i h1 h2 h3; cases h; exact bin_ok h1 (tp h2) (tp h3)
    · cases h
  · rename_i a pos
    cases ht : r .top c a with
    | none => rw [ht] at h; cases h
    | some x => rw [ht] at h; cases h; exact e_not (tp ht)
  · rename_i a pos
    cases ht : r .top c a with
    | none => rw [ht] at h; cases h
    | some x => rw [ht] at h; cases h; exact e_neg (tp ht)
  · rename_i a pos
    cases ht : r .top c a with
    | none => rw [ht] at h; cases h
    | some x => rw [ht] at h; cases h; exact e_inv (tp ht)
  · exact bo_val hr K S h
  · split at h
    · rename_i h1 h2 h3; cases h; exact e_ite (ts h1) (v h2) (v h3)
    · cases h
  · rename_i a p pos
    split at h
    · cases ht : r .top c a with
      | none => rw [ht] at h; cases h
      | some x => rw [ht] at h; cases h; exact e_hne K.ok (tp ht)
    · cases h
  · exact (trCmp_ok hr K S h).1
  · exact call_ok hr K S h
  · exact meth_ok hr K S h
  · rename_i o m pos
    split at h
    rotate_left
    · cases h
    rename_i hb
    split at h
    rotate_left
    · cases h
    rename_i f hf
    obtain ⟨rfl, k⟩ := K.flds _ _ hf
    cases ht : r .top c o with
    | none => rw [ht] at h; cases h
    | some x => rw [ht] at h; cases h; exact e_fld (tp ht) k K.ok (base_of hb _ _ _)
  · rename_i a lo hi p2 pos
    split at h
    rotate_left
    · cases h
    rename_i x l z h1 h2 h3
    cases h
    have part : ∀ {o : Option Expr} {l : Option E}, trPart r c o = some l → ∃ tl, PO X o tl ∧ ∀ σ H Q F ρ st l' ρ' st', Gd N F H σ ρ st → evO cl l ρ st = some (l', ρ', st') → (∀ F' H', Go N.R F H F' H' → Gd N F' H' σ ρ' st' → Q l' H') → tl σ H Q := fun {o l} h => by
      cases o with
      | none => cases h; exact ⟨_, o_none, fun σ H Q F ρ st l' ρ' st' g e k => k_none g e k⟩
      | some e =>
        replace h : (r .top c e).map some = some l := h
        cases ht : r .top c e with
        | none => rw [ht] at h; cases h
        | some y => rw [ht] at h; cases h; exact ⟨_, po_some (tp ht), fun σ H Q F ρ st l' ρ' st' g e k => k_some g e k⟩
    obtain ⟨tl, l1, l2⟩ := part h2
    obtain ⟨th, m1, m2⟩ := part h3
    exact e_slice (tp h1) l1 m1 l2 m2
  · split at h
    rotate_left
    · cases h
    rename_i hn
    split at h
    · rename_i h1 h2; cases h; exact e_idx K.ok (tp h1) (tp h2) (plainIx_of hn) (noSl_of hn)
    · cases h
  · rename_i es k pos
    split at h
    rotate_left
    · cases h
    rename_i hl
    cases ht : trs r .val c es with
    | none => rw [ht] at h; cases h
    | some ts => rw [ht] at h; cases h; exact e_tup (trs_val hr K S ht) (by rw [(trs_star ht).2]; exact hl)
  · cases h
theorem trSt_ok {e : Expr} {t : E} (S : ScOk c X) (h : trSt c e = some t) : PE X e (tE N .val (evE cl t)) := by
  unfold trSt at h
  split at h
  · rename_i x p k j p2 p3
    split at h
    rotate_left
    · cases h
    rename_i hq
    simp only [Bool.and_eq_true, decide_eq_true_eq] at hq
    cases hs : slotOf c x with
    | none => rw [hs] at h; cases h
    | some i =>
      rw [hs] at h; cases h
      obtain ⟨k1, k2, k3, k4⟩ := slot_ok S hs
      obtain ⟨n, rfl⟩ := Int.eq_ofNat_of_zero_le hq.2
      exact e_sget k1 k2 k3 k4
  · rename_i x p k j p2 p3 m apos k2 j2 p4 pos
    split at h
    rotate_left
    · cases h
    rename_i hq
    simp only [Bool.and_eq_true, decide_eq_true_eq] at hq
    obtain ⟨⟨⟨⟨q1, rfl⟩, rfl⟩, rfl⟩, q5⟩ := hq
    cases hs : slotOf c x with
    | none => rw [hs] at h; cases h
    | some i =>
      rw [hs] at h; cases h
      obtain ⟨k1, k2, k3, k4⟩ := slot_ok S hs
      exact e_spop k1 k2 k3 k4 q5
  · cases h
theorem trSnz_ok {e : Expr} {t : E} (ok : XOk N.R X) (S : ScOk c X) (h : trSnz c e = some t) : PT X e (tT N (evE cl t)) := by
  unfold trSnz at h
  split at h
  · split at h
    rotate_left
    · cases h
    rename_i x p k j p2 p3 p4 p5 hq
    simp only [Bool.and_eq_true, decide_eq_true_eq] at hq
    obtain ⟨q1, rfl⟩ := hq
    cases hs : slotOf c x with
    | none => rw [hs] at h; cases h
    | some i =>
      rw [hs] at h; cases h
      obtain ⟨k1, k2, k3, k4⟩ := slot_ok S hs
      exact t_snz ok k1 k2 k3 k4
  · cases h
theorem trV_ok {e : Expr} {t : E} (hr : Snd T cl r) (K : CtxOk T cl N.R X) (S : ScOk c X) (h : trV T r c e = some t) : PE X e (tE N .val (evE cl t)) := by
  unfold trV at h
  split at h
  · rename_i ho; cases h; exact e_frz (trO_ok hr K S ho)
  · split at h
    · rename_i hs; cases h; exact trSt_ok S hs
    · exact trC_ok hr K S h
theorem trT_ok {e : Expr} {t : E} (hr : Snd T cl r) (K : CtxOk T cl N.R X) (S : ScOk c X) (h : trT T r c e = some t) : PE X e (tE N .top (evE cl t)) := by
  unfold trT at h
  split at h
  · exact name_ok (v := false) K S h
  · exact e_top (trV_ok hr K S h)
theorem trB0_ok {e : Expr} {t : E} (hr : Snd T cl r) (K : CtxOk T cl N.R X) (S : ScOk c X) (h : trB0 T r c e = some t) : PT X e (tT N (evE cl t)) := by
  unfold trB0 at h
  split at h
  · rename_i a pos
    cases ht : r .tst c a with
    | none => rw [ht] at h; cases h
    | some x => rw [ht] at h; cases h; exact t_not (hr _ _ _ _ ht N X K S)
  · exact (bo_tst hr K S h).pt
  · exact (trCmp_ok hr K S h).2
  · split at h
    · rename_i hp; exact t_val (trT_ok hr K S h) (isTrue_of hp X.env)
    · cases h
theorem trB_ok {e : Expr} {t : E} (hr : Snd T cl r) (K : CtxOk T cl N.R X) (S : ScOk c X) (h : trB T r c e = some t) : PT X e (tT N (evE cl t)) := by
  unfold trB at h
  split at h
  · rename_i hs; cases h; exact trSnz_ok K.ok S hs
  · exact trB0_ok hr K S h
theorem step_ok (hr : Snd T cl r) : Snd T cl (step T r) := fun md c e t h N X K S => by
  unfold step at h
  cases md with
  | val => exact trV_ok hr K S h
  | top => exact trT_ok hr K S h
  | own => exact trO_ok hr K S h
  | tst => exact trB_ok hr K S h
theorem tr_ok : ∀ n, Snd T cl (tr T n)
  | 0 => fun md c e t h => by cases h
  | n + 1 => step_ok (tr_ok n)
end
end Ev
/-! Ev21 -/
/-! Ev21: the translator of statements. -/
namespace Ev
open PySem PySem.Spec PyProof.Rows L2

section
variable {X : Cx} {o e : Expr} {apos pos : Pos}
theorem meth_list {m : Str} {id : String} {r : V → List V → Hp → VK → Prop} (slot : PySem.Slot "list" m id) (hty : typeOf (.builtin id) = pure (.type "method_descriptor")) (hm : MtR X id r) (hb : baseOk o = true) (hl : (apos.endLine == pos.line) = true) (hu : unstar e = true) : MethL X o m r e apos pos := fun {to t} ho ha =>
  pe_bm (cpos := pos) (apos := apos) PySem.F.plainAttrs_list slot hty hm ho ha (base_of hb _ _ _) (by rw [star_all (by simp [hu])]; rfl) hl (star_cons hu _ _) rfl
end
/-- a def's own names, and what its scope tells -/
structure SS2 where
  c : SC
  ow : List Str
def isOw (s : SS2) (x : Str) : Bool := decide (x ∈ s.ow)
abbrev TrS := SS2 → Stmt → Option S
def trLs (r : TrS) (s : SS2) : List Stmt → Option (List S)
  | [] => some []
  | a :: as => match r s a, trLs r s as with | some x, some y => some (x :: y) | _, _ => none
def lcSwap (c : SC) (x : Str) (p' : Pos) : Expr → Bool
  | .ListComp _ _ scope pos => decide (c.sc.kind = .function) && decide (c.sc.names.lookup x = some .local) && (p'.line == pos.line) && !(scope.names.any fun (n, k) => n == x && (k == .local || k == .cell))
  | _ => false
def locNm (c : SC) (x : Str) : Bool := decide (c.sc.names.lookup x = some .local)
/-- a, b = .. : the stores are exchanged -/
def swB (c : SC) (x y : Str) (px py : Pos) (a b : Expr) : Bool :=
  decide (c.sc.kind = .function) && locNm c x && locNm c y && !(x == y) && (py.line == px.line) && unstar a && unstar b && !(foldedForSure 8 a && foldedForSure 8 b) && !(constantsAlone 8 a && constantsAlone 8 b)
def notTup : Expr → Bool | .Tuple _ _ _ => false | _ => true
def trAsg (T : Tb) (r : Tr) (s : SS2) (t e : Expr) (pos : Pos) : Option S :=
  match t with
  | .Name x p' => match tgNm s.c x with
    | none => none
    | some i => if noComp e then (if isOw s x then (r .own s.c e).map (.own i) else (r .val s.c e).map (.set i))
      else if lcSwap s.c x p' e then (trLc r s.c e).map fun l => if !isOw s x then .set i l.t else .own i l.t
      else none
  | .Tuple [.Name x px, .Name y py] kt pt => match e with
    | .Tuple [a, b] k2 pt2 => if swB s.c x y px py a b then match tgNm s.c x, tgNm s.c y, r (if isOw s x then .own else .val) s.c a, r (if isOw s y then .own else .val) s.c b with
        | some i, some j, some ta, some tb => if i ≠ j then some (.par (isOw s x) (isOw s y) i j ta tb) else none
        | _, _, _, _ => none
      else if foldedForSure 8 a && foldedForSure 8 b && unstar a && unstar b then match tgNms s.c [.Name x px, .Name y py], r .val s.c e with
        | some is, some te => some (.tset is te)
        | _, _ => none
      else none
    | e => if notTup e && noComp e then match tgNms s.c [.Name x px, .Name y py], r .val s.c e with
        | some is, some te => some (.tset is te)
        | _, _ => none
      else none
  | .Tuple es _ _ => if notTup e && noComp e then match tgNms s.c es, r .val s.c e with
        | some is, some te => some (.tset is te)
        | _, _ => none
      else none
  | .Attribute (.Name x p) f _ => match slotOf s.c x, T.flds.lookup f, r .val s.c e with
    | some i, some g, some te => some (.fst i g te)
    | _, _, _ => none
  | .Subscript (.Name x p) (.Constant (.int k) _ _) _ => if decide (x ∈ s.c.stn) && decide (0 ≤ k) && notTup e then match slotOf s.c x, r .val s.c e with
      | some i, some te => some (.sput i k.toNat te)
      | _, _ => none
    else match slotOf s.c x, r .val s.c e with
    | some i, some te => if notTup e then some (.put i (.int k) te) else none
    | _, _ => none
  | .Subscript (.Name x p) ix _ => match slotOf s.c x, r .top s.c ix, r .val s.c e with
    | some i, some ti, some te => if noSlice ix && notTup e then some (.put i ti te) else none
    | _, _, _ => none
  | .Subscript o ix _ => if isH T o then match r .top s.c o, r .top s.c ix, r .val s.c e with
      | some to, some ti, some te => some (.hput to ti te)
      | _, _, _ => none
    else none
  | _ => none
def trEx (T : Tb) (r : Tr) (s : SS2) (e : Expr) : Option S :=
  match e with
  | .Call (.Attribute (.Attribute o f fp) m apos) [b] [] pos => if isH T (.Attribute o f fp) && isH T b && decide (m = "update") && (apos.endLine == pos.line) then match r .top s.c (.Attribute o f fp), r .top s.c b with
      | some ta, some tb => some (.hupd ta tb)
      | _, _ => none
    else (r .top s.c e).map .ex
  | .Call (.Attribute (.Name x p) m apos) [a] [] pos =>
    if isOw s x && (apos.endLine == pos.line) && unstar a then
      if m = "append" then match a with
        | .Call (.Attribute (.Name y py) "pop" apos2) [b] [] pos2 => if isOw s y && (apos2.endLine == pos2.line) && unstar b then match slotOf s.c x, slotOf s.c y, r .val s.c b with
            | some i, some j, some tb => some (.appPop i j tb)
            | _, _, _ => none
          else none
        | a => match slotOf s.c x, r .val s.c a with | some i, some ta => some (.app i ta) | _, _ => none
      else if m = "extend" then match slotOf s.c x, r .val s.c a with | some i, some ta => some (.ext i ta) | _, _ => none
      else none
    else if noComp e then (r .top s.c e).map .ex else none
  | e => if noComp e then (r .top s.c e).map .ex else none
def stepS (T : Tb) (n : Nat) (r : TrS) : TrS := fun s st => match st with
  | .Assign [t] e pos => trAsg T (tr T n) s t e pos
  | .Expr e _ => trEx T (tr T n) s e
  | .If c a b _ => match tr T n .tst s.c c, trLs r s a, trLs r s b with | some x, some y, some z => some (.ite x y z) | _, _, _ => none
  | .While c b [] _ => match tr T n .tst s.c c, trLs r s b with | some x, some y => some (.whl x y) | _, _ => none
  | .For tg it b [] _ => match trI (tr T n) s.c tg it, trG s.c tg, trLs r s b with | some (k, src), some g, some y => some (.for g k src y) | _, _, _ => none
  | .Return (some e) _ => (tr T n .val s.c e).map .ret
  | .Return none _ => some (.ret .non)
  | .Pass _ => some .pass
  | .Raise _ _ _ => some .never
  | _ => none
def trS (T : Tb) (n : Nat) : Nat → TrS
  | 0 => fun _ _ => none
  | m + 1 => stepS T n (trS T n m)
section
variable {T : Tb} {cl : Cl} {wf : Nat} {r : Tr} {s : SS2} {N : RN} {X : Cx} {x : Str} {pos p apos : Pos}
def SndS (T : Tb) (cl : Cl) (wf : Nat) (r : TrS) : Prop := ∀ s st t, r s st = some t → ∀ N X, CtxOk T cl N.R X → ScOk s.c X → X.xe = (fun _ _ => False) → PS X st (tS N (exS cl wf t))
theorem trLs_ok {r : TrS} (hr : SndS T cl wf r) (K : CtxOk T cl N.R X) (S : ScOk s.c X) (hx : X.xe = fun _ _ => False) : ∀ {as : List Stmt} {ts : List Ev.S}, trLs r s as = some ts → PSs X as (tS N (exL cl wf ts))
  | [], ts, h => by simp only [trLs] at h; cases h; exact l_nil
  | a :: as, ts, h => by
    simp only [trLs] at h
    split at h
    · rename_i x y h1 h2
      cases h
      exact l_cons (hr _ _ _ h1 N X K S hx) (trLs_ok hr K S hx h2)
    · cases h
theorem star_m : ∀ {a : Expr}, unstar a = true → (match a with | .Starred _ _ => true | _ => false) = false := by
  intro a h6
  cases a <;> first | rfl | cases h6
theorem swB_ok {x y : Str} {px py pt pt2 : Pos} {kt k2 l : Nat} {a b : Expr} (S : ScOk s.c X) (h : swB s.c x y px py a b = true) :
    swappedStores [.Tuple [.Name x px, .Name y py] kt pt] (.Tuple [a, b] k2 pt2) X.env = pure (some [x, y]) ∧ X.env.scope.names.lookup x = some .local ∧ X.env.scope.names.lookup y = some .local ∧ unstar a = true ∧ unstar b = true := by
  unfold swB locNm at h
  simp only [Bool.and_eq_true, decide_eq_true_eq, Bool.not_eq_true'] at h
  obtain ⟨⟨⟨⟨⟨⟨⟨⟨h1, h2⟩, h3⟩, h4⟩, h5⟩, h6⟩, h7⟩, h8⟩, h9⟩ := h
  rw [← S.sc] at h1 h2 h3
  refine ⟨?_, h2, h3, h6, h7⟩
  have kx : X.env.kindOf x = some .local := h2
  have ky : X.env.kindOf y = some .local := h3
  have hb : X.env.blockKind = .function := by unfold PySem.Env.blockKind; rw [h1]; rfl
  have sa := star_m h6
  have sb := star_m h7
  have nd : [x, y].eraseDups = [x, y] := by
    have : (y == x) = false := by rw [beq_eq_false_iff_ne] at h4 ⊢; exact fun z => h4 z.symm
    simp [List.eraseDups_cons, this]
  unfold swappedStores
  simp only [List.any_cons, List.any_nil, Bool.or_false, List.all_cons, List.all_nil, Bool.and_true, hb, kx, ky, h5, h8, h9, List.filterMap_cons, List.filterMap_nil, List.length_cons, List.length_nil, List.head?_cons, Option.map_some, Option.getD_some, Expr.pos, beq_self_eq_true, Bool.and_self, nd, if_true]
  rw [if_neg (by decide), if_neg (fun z => ?_)]
  · rfl
  rw [Bool.or_eq_true] at z
  rcases z with z | z
  · exact Bool.false_ne_true (sa.symm.trans z)
  · exact Bool.false_ne_true (sb.symm.trans z)
theorem swF_ok {x y : Str} {px py pt pt2 : Pos} {kt k2 : Nat} {a b : Expr} (S : ScOk s.c X) (h : (foldedForSure 8 a && foldedForSure 8 b && unstar a && unstar b) = true) :
    swappedStores [.Tuple [.Name x px, .Name y py] kt pt] (.Tuple [a, b] k2 pt2) X.env = pure none := by
  simp only [Bool.and_eq_true] at h
  obtain ⟨⟨⟨h1, h2⟩, h6⟩, h7⟩ := h
  have sa := star_m h6
  have sb := star_m h7
  unfold swappedStores
  simp only [List.any_cons, List.any_nil, Bool.or_false, List.all_cons, List.all_nil, Bool.and_true, sa, sb, h1, h2, Bool.and_self, if_true]
  repeat' split
  all_goals rfl
theorem swN_ok {ts : List Expr} {e : Expr} {env : PySem.Env} (h : notTup e = true) : swappedStores ts e env = pure none := by
  unfold swappedStores
  split <;> first | exact absurd h Bool.false_ne_true | rfl | skip
  all_goals (rename_i q; split at q <;> first | exact absurd h Bool.false_ne_true | cases q | rfl)
theorem asg_tree {o ix : Expr} {px : Pos} {env : PySem.Env} : (assignEach [.Subscript o ix px] env).map (·.2) = [assign (.Subscript o ix px) env] := rfl
theorem asg_tup {es : List Expr} {k : Nat} {px : Pos} {env : PySem.Env} : (assignEach [.Tuple es k px] env).map (·.2) = [assign (.Tuple es k px) env] := rfl
theorem lcSwap_ok {x : Str} {p' : Pos} {e : Expr} {l : LcT} {i : Nat} {fz : Bool} {spos : Pos} (ok : XOk N.R X) (S : ScOk s.c X) (hi : X.N[i]? = some x) (h : lcSwap s.c x p' e = true) (L : LcOk cl s.c N X e l) : PS X (.Assign [.Name x p'] e spos) (tS N (exS cl wf (if fz then .set i l.t else .own i l.t))) := by
  obtain ⟨elt, tg, iter, ifs, scope, pos, own, rfl, ho, h1, h2, h3, h4, h5, h6, h7⟩ := L.ex
  unfold lcSwap at h
  simp only [Bool.and_eq_true, decide_eq_true_eq, Bool.not_eq_true'] at h
  obtain ⟨⟨⟨q1, q2⟩, q3⟩, q4⟩ := h
  rw [← S.sc] at q1 q2
  unfold LcT.t
  rw [ho]
  exact s_setLc fz ok hi q2 (sw_true q1 q2 q3 q4) h1 h2 h3 h4 h5 h6 h7
theorem sub_ok {r : TrS} {n : Nat} {t e : Expr} {st : Ev.S} (K : CtxOk T cl N.R X) (S : ScOk s.c X) (h : trAsg T (tr T n) s t e pos = some st) : PS X (.Assign [t] e pos) (tS N (exS cl wf st)) := by
  have hr := tr_ok (T := T) (cl := cl) n
  generalize hg : tr T n = r at h hr
  clear hg
  have tset : ∀ {es : List Expr} {k : Nat} {p' : Pos} {is : List Nat} {te : E}, tgNms s.c es = some is → r .val s.c e = some te → swappedStores [.Tuple es k p'] e X.env = pure none → noComp e = true → PS X (.Assign [.Tuple es k p'] e pos) (tS N (exS cl wf (.tset is te))) := fun {es k p' is te} h1 h2 h3 h4 =>
    s_tset K.ok (hr _ _ _ _ h2 N X K S) (trG_ok (t := .tp is) K.ok S (by show (tgNms s.c es).map Tg.tp = _; rw [h1]; rfl)) (pg_unl K.ok.calm (tgNms_ok K.ok S h1).1 (tgNms_ok K.ok S h1).2.1 (tgNms_ok K.ok S h1).2.2) (by unfold swapsWithSole; exact swaps_of h4 _ _ _) h3 asg_tup
  unfold trAsg at h
  split at h
  · rename_i x p'
    split at h
    · cases h
    rename_i i hi
    obtain ⟨k1, k2, k3⟩ := tgNm_ok S hi
    split at h
    · rename_i hn
      split at h
      · cases ht : r .own s.c e with
        | none => rw [ht] at h; cases h
        | some t => rw [ht] at h; cases h; exact s_own K.ok k1 k2 (hr _ _ _ _ ht N X K S) (swaps_of hn _ _ _) k3
      · cases ht : r .val s.c e with
        | none => rw [ht] at h; cases h
        | some t => rw [ht] at h; cases h; exact s_set K.ok k1 k2 (hr _ _ _ _ ht N X K S) (swaps_of hn _ _ _) k3
    split at h
    · rename_i hw
      cases hl : trLc r s.c e with
      | none => rw [hl] at h; cases h
      | some l =>
        rw [hl] at h
        have := lcSwap_ok (wf := wf) (spos := pos) (fz := !isOw s x) K.ok S k1 hw (trLc_ok hr K S hl)
        cases h
        exact this
    · cases h
  · rename_i x px y py kt pt
    split at h
    · rename_i a b k2 pt2
      split at h
      · rename_i hw
        obtain ⟨w1, w2, w3, w4, w5⟩ := swB_ok (kt := kt) (k2 := k2) (pt := pt) (pt2 := pt2) (l := 0) S hw
        split at h
        rotate_left
        · cases h
        rename_i i j ta tb h1 h2 h3 h4
        split at h
        rotate_left
        · cases h
        rename_i hij
        cases h
        obtain ⟨k1, _, _⟩ := tgNm_ok S h1
        obtain ⟨k2', _, _⟩ := tgNm_ok S h2
        have ha : PE X a (tE N (kd (isOw s x)) (evE cl ta)) := by
          have := hr _ _ _ _ h3 N X K S
          revert this
          cases isOw s x <;> exact fun h => h
        have hb : ∀ rs, PE X b (tE (N.rz rs) (kd (isOw s y)) (evE cl tb)) := fun rs => by
          have := hr _ _ _ _ h4 (N.rz rs) X K S
          revert this
          cases isOw s y <;> exact fun h => h
        exact s_par K.ok k1 k2' hij w2 w3 ha hb (star_cons w4 _ _) (star_cons w5 _ _) w1 (by unfold swapsWithSole; exact swaps_of rfl _ _ _)
      split at h
      · rename_i hf
        split at h
        · rename_i is te h1 h2
          cases h
          exact tset h1 h2 (swF_ok (s := s) S hf) rfl
        · cases h
      · cases h
    · split at h
      · rename_i hq
        simp only [Bool.and_eq_true] at hq
        split at h
        · rename_i is te h1 h2
          cases h
          exact tset h1 h2 (swN_ok hq.1) hq.2
        · cases h
      · cases h
  · split at h
    · rename_i hq
      simp only [Bool.and_eq_true] at hq
      split at h
      · rename_i is te h1 h2
        cases h
        exact tset h1 h2 (swN_ok hq.1) hq.2
      · cases h
    · cases h
  · rename_i x p f pos'
    split at h
    · rename_i i g te h1 h2 h3
      cases h
      obtain ⟨k1, k2, k3, k4⟩ := slot_ok S h1
      obtain ⟨rfl, kf⟩ := K.flds _ _ h2
      exact s_fst K.ok k1 k2 k3 k4 (hr _ _ _ _ h3 N X K S) kf (swaps_of2 _ _)
    · cases h
  · rename_i x p k j p2 px
    split at h
    · rename_i hq
      simp only [Bool.and_eq_true, decide_eq_true_eq] at hq
      obtain ⟨⟨q1, q2⟩, q3⟩ := hq
      split at h
      · rename_i i te h1 h3
        cases h
        obtain ⟨k1, k2, k3, k4⟩ := slot_ok S h1
        obtain ⟨n, rfl⟩ := Int.eq_ofNat_of_zero_le q2
        exact s_sput K.ok k1 k2 k3 k4 (hr _ _ _ _ h3 N X K S) (fun es k p z => by subst z; cases q3) (swN_ok q3)
      · cases h
    · split at h
      · rename_i i te h1 h3
        split at h
        · rename_i hq
          cases h
          obtain ⟨k1, k2, k3, k4⟩ := slot_ok S h1
          exact s_put K.ok k1 k2 k3 k4 (hr _ _ _ _ h3 N X K S) (e_top e_int) (swaps_of3 _ _) (by unfold swapsWithSole; exact swaps_of3 _ _) (swN_ok hq) asg_tree (assignSub _ _ _ _ rfl)
        · cases h
      · cases h
  · rename_i x p ix px
    split at h
    · rename_i i ti te h1 h2 h3
      split at h
      · rename_i hq
        simp only [Bool.and_eq_true] at hq
        cases h
        obtain ⟨k1, k2, k3, k4⟩ := slot_ok S h1
        exact s_put K.ok k1 k2 k3 k4 (hr _ _ _ _ h3 N X K S) (hr _ _ _ _ h2 N X K S) (swaps_of3 _ _) (by unfold swapsWithSole; exact swaps_of3 _ _) (swN_ok hq.2) asg_tree (assignSub _ _ _ _ hq.1)
      · cases h
    · cases h
  · rename_i o ix px _ _
    split at h
    · split at h
      · rename_i to ti te h1 h2 h3
        cases h
        exact s_hput K.ok (hr _ _ _ _ h3 N X K S) (hr _ _ _ _ h1 N X K S) (hr _ _ _ _ h2 N X K S)
      · cases h
    · cases h
  · cases h
theorem ex_ok {n : Nat} {e : Expr} {st : Ev.S} (K : CtxOk T cl N.R X) (S : ScOk s.c X) (h : trEx T (tr T n) s e = some st) : PS X (.Expr e pos) (tS N (exS cl wf st)) := by
  have hr := tr_ok (T := T) (cl := cl) n
  generalize hg : tr T n = r at h hr
  clear hg
  have gen : ∀ {e : Expr}, (if noComp e then (r .top s.c e).map Ev.S.ex else none) = some st → PS X (.Expr e pos) (tS N (exS cl wf st)) := fun {e} h => by
    split at h
    · rename_i hn
      cases ht : r .top s.c e with
      | none => rw [ht] at h; cases h
      | some t => rw [ht] at h; cases h; exact s_ex (hr _ _ _ _ ht N X K S) (swaps_of hn _ _ _)
    · cases h
  unfold trEx at h
  split at h
  · rename_i o f fp m apos b cpos
    split at h
    · rename_i hq
      simp only [Bool.and_eq_true, decide_eq_true_eq] at hq
      obtain ⟨⟨⟨q1, q2⟩, rfl⟩, q4⟩ := hq
      split at h
      · rename_i ta tb h1 h2
        cases h
        have hb : unstar b = true := by cases b <;> first | rfl | exact absurd q2 Bool.false_ne_true
        exact s_hupd K.ok (hr _ _ _ _ h1 N X K S) (hr _ _ _ _ h2 N X K S) hb rfl q4
      · cases h
    · exact gen h
  · rename_i x p m apos a cpos
    split at h
    rotate_left
    · exact gen h
    rename_i hq
    simp only [Bool.and_eq_true] at hq
    obtain ⟨⟨_, hl⟩, hu⟩ := hq
    split at h
    · rename_i hm
      subst hm
      split at h
      · rename_i y py apos2 b pos2
        split at h
        rotate_left
        · cases h
        rename_i hq2
        simp only [Bool.and_eq_true] at hq2
        obtain ⟨⟨_, hl2⟩, hu2⟩ := hq2
        split at h
        · rename_i i j tb h1 h2 h3
          cases h
          obtain ⟨k1, k2, k3, k4⟩ := slot_ok S h1
          obtain ⟨m1, m2, m3, m4⟩ := slot_ok S h2
          exact s_appPop k1 k2 k3 k4 m1 m2 m3 m4 (hr _ _ _ _ h3 N X K S) (meth_list PySem.F.slot_list_append PySem.F.type_list_append mt_append rfl hl hu) (star_cons hu _ _) (meth_list PySem.F.slot_list_pop PySem.F.type_list_pop mt_popAt rfl hl2 hu2) (star_cons hu2 _ _) (swaps_of rfl _ _ _)
        · cases h
      · split at h
        · rename_i i ta h1 h2
          cases h
          obtain ⟨k1, k2, k3, k4⟩ := slot_ok S h1
          exact s_app k1 k2 k3 k4 (hr _ _ _ _ h2 N X K S) (meth_list PySem.F.slot_list_append PySem.F.type_list_append mt_append rfl hl hu) (star_cons hu _ _) (swaps_of rfl _ _ _)
        · cases h
    split at h
    · rename_i hm
      subst hm
      split at h
      · rename_i i ta h1 h2
        cases h
        obtain ⟨k1, k2, k3, k4⟩ := slot_ok S h1
        exact s_ext k1 k2 k3 k4 (hr _ _ _ _ h2 N X K S) (meth_list PySem.F.slot_list_extend PySem.F.type_list_extend mt_extend rfl hl hu) (star_cons hu _ _) (swaps_of rfl _ _ _)
      · cases h
    · cases h
  · exact gen h
theorem stepS_ok {n : Nat} {r : TrS} (hr : SndS T cl wf r) : SndS T cl wf (stepS T n r) := fun s st t h N X K S hx => by
  have he := tr_ok (T := T) (cl := cl) n
  have hp : PassesOwn (model X.prog X.w) X.A X.env X.xe := by rw [hx]; exact PySem.PassesOwn.never
  unfold stepS at h
  split at h
  · exact sub_ok (r := r) K S h
  · exact ex_ok K S h
  · split at h
    · rename_i h1 h2 h3; cases h; exact s_ite (he _ _ _ _ h1 N X K S) (trLs_ok hr K S hx h2) (trLs_ok hr K S hx h3)
    · cases h
  · split at h
    · rename_i h1 h2; cases h; exact s_whl hp (he _ _ _ _ h1 N X K S) (trLs_ok hr K S hx h2)
    · cases h
  · split at h
    · rename_i k src g y h1 h2 h3
      cases h
      obtain ⟨i1, i2⟩ := trI_ok he K S h1
      exact s_for K.ok hp i1 (trG_ok K.ok S h2) (trLs_ok hr K S hx h3) (folded_of i2 _)
    · cases h
  · rename_i e pos
    cases ht : tr T n .val s.c e with
    | none => rw [ht] at h; cases h
    | some t => rw [ht] at h; cases h; exact s_ret (he _ _ _ _ ht N X K S)
  · cases h; exact s_retN
  · cases h; exact s_pass
  · cases h; exact s_never
  · cases h
theorem trS_ok {n : Nat} : ∀ m, SndS T cl wf (trS T n m)
  | 0 => fun s st t h => by cases h
  | m + 1 => stepS_ok (trS_ok m)
end
/-- a def's body -/
def trDef (T : Tb) (n : Nat) (Ns ow stn : List Str) (st : Stmt) : Option (List S) := trLs (trS T n n) ⟨⟨Ns, defScope st, fun _ => true, stn⟩, ow⟩ (defBody st)
theorem trDef_ok {T : Tb} {cl : Cl} {wf n k : Nat} {R : RC} {P : Program} {w : World} {base : Heap} {Ns ow stn : List Str} {st : Stmt} {body : List S} (h : trDef T n Ns ow stn st = some body)
    (K : ∀ X : Cx, X.prog = P → X.w = w → X.base = base → XOk R X → Room k X.A → CtxOk T cl R X) : BodyOk R P w base k cl wf st Ns body := fun X N h1 h2 h3 h4 h5 h6 h7 h8 h9 h10 => by
  subst h10
  exact trLs_ok (trS_ok n) (K X h1 h2 h3 h6 h7) ⟨h4, h5, h9⟩ h8 h
end Ev
/-! Ev22 -/
/-! Ev22: all defs of a text at every depth. -/
namespace Ev
open PySem PySem.Spec PyProof.Rows L2

inductive DK where | fn | ini (C : String) | mt (C m : String)
structure DefE where
  key : String
  k : DK
  x : Str
  q : Str
  st : Stmt
  Ns : List Str
  ps : List Str
  ow : List Str
  stn : List Str
  body : List S
def DefE.cls (e : DefE) : Option String := match e.k with | .ini C => some C | _ => none
def DefE.fn (e : DefE) : Fn := ⟨e.ps.length, e.Ns.length, e.body, e.cls⟩
def defOf (L : List DefE) (f : String) : Option Fn := (L.find? fun e => e.key == f).map DefE.fn
/-- the table of a text: prims by their names, and their numbers of parameters -/
def tabOf (L : List DefE) (prims : List (String × Nat)) (lend : List String) (cons : List (Str × D)) (clss : List (Str × String)) (flds : List (Str × String)) (hfl : List Str) : Tb where
  fns := (prims.map fun p => (nm p.1, (p.1, (p.2, decide (p.1 ∈ lend))))) ++ L.filterMap fun e => match e.k with | .fn => some (nm e.key, (e.key, (e.ps.length, decide (e.key ∈ lend)))) | _ => none
  mks := L.filterMap fun e => match e.k with | .ini C => some (nm C, (C, (e.key, e.ps.length))) | _ => none
  mts := L.filterMap fun e => match e.k with | .mt C m => some (nm m, (C, (m, (e.key, e.ps.length)))) | _ => none
  cons := cons
  clss := clss
  flds := flds
  hfl := hfl
/-- a def as it stands in the written part -/
structure DFact (K : PySem.W.Frag) (mg : Str → Option Value) (cs : List String) (e : DefE) : Prop where
  ex : ∃ (A : Addr) (fd : FuncData), Fun K e.x e.q e.st A fd ∧ Binds K fd e.ps [] ∧ match e.k with
    | .fn => mg (nm e.key) = some (.ref A)
    | .ini C => ∃ c, Mk K c A ∧ mg (nm C) = some (.ref c) ∧ C ∈ cs ∧ InsC K c
    | .mt C m => ∃ c, mg (nm C) = some (.ref c) ∧ Cls K c ∧ Meth K c (nm m) A
/-- what the text's form tells, checked by the kernel -/
def textOk (T : Tb) (n : Nat) (L : List DefE) : Prop := ∀ e ∈ L, trDef T n e.Ns e.ow e.stn e.st = some e.body ∧ FnScope e.Ns e.ps (defScope e.st) ∧ e.ps.length ≤ e.Ns.length
/-- the table's facts of constants, classes, fields -/
structure TabOk (T : Tb) (R : RC) : Prop where
  cons : ∀ x d, T.cons.lookup x = some d → ∃ v u, R.mg x = some u ∧ RelV v u ∧ ∀ F, Rep R F d v
  clss : ∀ x t, T.clss.lookup x = some t → ∃ ct, R.mg x = some (.ref ct) ∧ ClsV (.ref ct) (.ref ct) ∧ (∀ S ∈ tys, PySem.W.kitOne R.K (.type S) (.ref ct) = some (isa S t)) ∧ ∀ C c, R.cls C c → InsC R.K c → PySem.W.kitOne R.K (.ref c) (.ref ct) = some (isa C t)
  flds : ∀ x f, T.flds.lookup x = some f → x = nm f ∧ ∀ C c, R.cls C c → InsC R.K c → NoAttr R.K c (nm f)
  tyn : ∀ C c, R.cls C c → InsC R.K c → ∀ t ∈ tys, isa C t = false
  blt : ∀ x ∈ blts, R.mg x = none
abbrev Pr := String → Option (List D → PSt → Option (D × PSt))
/-- a def that keeps its promise at a level -/
def PrimOk (P : Program) (w : World) (base : Heap) (R : RC) (k : Nat) (f : String) (n : Nat) (g : List D → PSt → Option (D × PSt)) : Prop :=
  ∃ (A : Addr) (fd : FuncData) (ps : List Str), FnOk P w R.K R.mg base CX0 k A fd ps (spV R g ps.length) ∧ R.mg (nm f) = some (.ref A) ∧ PySem.W.keepIn R.K (.ref A) = true ∧ Binds R.K fd ps [] ∧ n = ps.length
def LvOk (P : Program) (w : World) (base : Heap) (R : RC) (k : Nat) (cl : Cl) (e : DefE) : Prop :=
  ∃ (A : Addr) (fd : FuncData), Binds R.K fd e.ps [] ∧ PySem.W.keepIn R.K (.ref A) = true ∧ match e.k with
    | .fn => R.mg (nm e.key) = some (.ref A) ∧ FnOk P w R.K R.mg base CX0 k A fd e.ps (spV R (cl e.key) e.ps.length)
    | .ini C => ∃ c, Mk R.K c A ∧ R.mg (nm C) = some (.ref c) ∧ (R.cls C c ∧ InsC R.K c) ∧ FnOk P w R.K R.mg base CX0 k A fd e.ps (spI R C (cl e.key) e.ps.length)
    | .mt C m => ∃ c, R.mg (nm C) = some (.ref c) ∧ Cls R.K c ∧ Meth R.K c (nm m) A ∧ FnOk P w R.K R.mg base CX0 k A fd e.ps (spV R (cl e.key) e.ps.length)
theorem defOf_mem : ∀ {L : List DefE} {e : DefE}, (L.map DefE.key).Nodup → e ∈ L → defOf L e.key = some e.fn
  | a :: L, e, h, m => by
    rw [List.map_cons, List.nodup_cons] at h
    unfold defOf
    rw [List.find?_cons]
    rcases List.mem_cons.mp m with rfl | m
    · rw [beq_self_eq_true]; rfl
    · have : (a.key == e.key) = false := by
        rw [beq_eq_false_iff_ne]
        exact fun z => h.1 (z ▸ List.mem_map_of_mem m)
      rw [this]
      exact defOf_mem h.2 m
section
variable {P : Program} {w : World} {base : Heap} {R : RC} {L : List DefE} {prims : List (String × Nat)} {lend : List String} {cons : List (Str × D)} {clss : List (Str × String)} {flds : List (Str × String)} {hfl : List Str} {Pp : Pr} {wf N lp : Nat}
theorem ctx_of {n : Nat} {X : Cx} {cl : Cl} (hT : TabOk (tabOf L prims lend cons clss flds hfl) R) (h1 : X.prog = P) (h2 : X.w = w) (h3 : X.base = base) (ok : XOk R X) (hr : Room (n + 1) X.A)
    (hp : ∀ p ∈ prims, PrimOk P w base R (n + 1) p.1 p.2 (cl p.1)) (hL : ∀ e ∈ L, LvOk P w base R n cl e) : CtxOk (tabOf L prims lend cons clss flds hfl) cl R X := by
  subst h1 h2 h3
  refine ⟨ok, fun x hx => by rw [ok.mg]; exact hT.blt x hx, fun x f k l h => ?_, fun x C f k h => ?_, fun x C m f k h => ?_, fun x d h => by rw [ok.mg]; exact hT.cons x d h, fun x t h => by rw [ok.mg]; exact hT.clss x t h, hT.flds, hT.tyn⟩
  · have hm := PySem.mem_of_lookup h
    rcases List.mem_append.mp hm with hm | hm
    · obtain ⟨p, hp', e⟩ := List.mem_map.mp hm
      cases e
      obtain ⟨A, fd, ps, k1, k2, k3, k4, k5⟩ := hp p hp'
      exact ⟨n + 1, A, fd, ps, by rw [ok.K, ok.mg]; exact k1, hr, by rw [ok.mg]; exact k2, by rw [ok.K]; exact k3, by rw [ok.K]; exact k4, k5⟩
    · obtain ⟨e, he, ee⟩ := List.mem_filterMap.mp hm
      have hl := hL e he
      unfold LvOk at hl
      cases hk : e.k with
      | fn =>
        rw [hk] at ee hl
        cases ee
        obtain ⟨A, fd, k1, k2, k3, k4⟩ := hl
        exact ⟨n, A, fd, e.ps, by rw [ok.K, ok.mg]; exact k4, hr.mono (Nat.le_succ n), by rw [ok.mg]; exact k3, by rw [ok.K]; exact k2, by rw [ok.K]; exact k1, rfl⟩
      | ini C => rw [hk] at ee; cases ee
      | mt C m => rw [hk] at ee; cases ee
  · have hm := PySem.mem_of_lookup h
    obtain ⟨e, he, ee⟩ := List.mem_filterMap.mp hm
    have hl := hL e he
    unfold LvOk at hl
    cases hk : e.k with
    | ini C =>
      rw [hk] at ee hl
      cases ee
      obtain ⟨A, fd, k1, k2, c, k3, k4, k5, k6⟩ := hl
      exact ⟨n, c, A, fd, e.ps, by rw [ok.K]; exact k3, by rw [ok.K, ok.mg]; exact k6, hr, by rw [ok.mg]; exact k4, k5, by rw [ok.K]; exact k1, rfl⟩
    | fn => rw [hk] at ee; cases ee
    | mt C m => rw [hk] at ee; cases ee
  · have hm := PySem.mem_of_lookup h
    obtain ⟨e, he, ee⟩ := List.mem_filterMap.mp hm
    have hl := hL e he
    unfold LvOk at hl
    cases hk : e.k with
    | mt C m =>
      rw [hk] at ee hl
      cases ee
      obtain ⟨A, fd, k1, k2, c, k3, k4, k5, k6⟩ := hl
      exact ⟨rfl, n, c, A, fd, e.ps, k3, by rw [ok.K]; exact k4, by rw [ok.K]; exact k5, by rw [ok.K, ok.mg]; exact k6, hr.mono (Nat.le_succ n), by rw [ok.K]; exact k1, rfl⟩
    | fn => rw [hk] at ee; cases ee
    | ini C => rw [hk] at ee; cases ee
/-- every def of the text keeps its promise, to every depth -/
theorem tower (hnd : (L.map DefE.key).Nodup) (hP : ∀ e ∈ L, Pp e.key = none) (htx : textOk (tabOf L prims lend cons clss flds hfl) N L) (hT : TabOk (tabOf L prims lend cons clss flds hfl) R) (hF : ∀ e ∈ L, DFact R.K R.mg R.cs e)
    (hp : ∀ p ∈ prims, ∃ g, Pp p.1 = some g ∧ PrimOk P w base R lp p.1 p.2 g) : ∀ (n : Nat), ∀ e ∈ L, LvOk P w base R (lp + 2 * n) (call wf Pp (defOf L) n) e := by
  have prim : ∀ (n : Nat) (p : String × Nat), p ∈ prims → PrimOk P w base R (lp + 2 * n + 1) p.1 p.2 (call wf Pp (defOf L) n p.1) := fun n p hp' => by
    obtain ⟨g, k1, A, fd, ps, k2, k3, k4, k5, k6⟩ := hp p hp'
    refine ⟨A, fd, ps, (k2.mono (by omega)).imp fun vs H Q E h => ?_, k3, k4, k5, k6⟩
    cases n with
    | zero =>
      obtain ⟨_, F, ds, st, _, _, _, d, st', e, _⟩ := h
      unfold call at e; cases e
    | succ n =>
      obtain ⟨h0, F, ds, st, h1, h2, h3, d, st', e, h4⟩ := h
      refine ⟨h0, F, ds, st, h1, h2, h3, d, st', ?_, h4⟩
      unfold call at e
      rw [k1] at e
      exact e
  intro n
  induction n with
  | zero =>
    intro e he
    obtain ⟨A, fd, k1, k2, k3⟩ := (hF e he).ex
    refine ⟨A, fd, k2, k1.kp, ?_⟩
    have nv : ∀ vs H Q E, ¬ spV R (call wf Pp (defOf L) 0 e.key) e.ps.length vs H Q E := fun vs H Q E h => by
      obtain ⟨_, F, ds, st, _, _, _, d, st', e, _⟩ := h
      unfold call at e; cases e
    cases hk : e.k with
    | fn =>
      rw [hk] at k3
      exact ⟨k3, ⟨fun vs H Q E h => h.1, fun A outer s H args us vs Q E hr he hb hv hs => (nv _ _ _ _ hs).elim⟩⟩
    | ini C =>
      rw [hk] at k3
      obtain ⟨c, m1, m2, m3, m4⟩ := k3
      refine ⟨c, m1, m2, ⟨⟨m2, m3⟩, m4⟩, ⟨fun vs H Q E h => h.1, fun A outer s H args us vs Q E hr he hb hv hs => ?_⟩⟩
      obtain ⟨_, F, ds, st, a, us, _, _, _, _, _, _, _, d, st', e, _⟩ := hs
      unfold call at e; cases e
    | mt C m =>
      rw [hk] at k3
      obtain ⟨c, m1, m2, m3⟩ := k3
      exact ⟨c, m1, m2, m3, ⟨fun vs H Q E h => h.1, fun A outer s H args us vs Q E hr he hb hv hs => (nv _ _ _ _ hs).elim⟩⟩
  | succ n ih =>
    intro e he
    obtain ⟨A, fd, k1, k2, k3⟩ := (hF e he).ex
    obtain ⟨t1, t2, t3⟩ := htx e he
    have body : BodyOk R P w base (lp + 2 * n + 1) (call wf Pp (defOf L) n) wf e.st e.Ns e.body := trDef_ok t1 fun X h1 h2 h3 ok hr => ctx_of hT h1 h2 h3 ok hr (prim n) ih
    have ce : ∀ ds st, call wf Pp (defOf L) (n + 1) e.key ds st = match e.cls with | none => runFn wf (call wf Pp (defOf L) n) e.fn ds st | some C => runIni wf (call wf Pp (defOf L) n) e.fn C ds st := fun ds st => by
      rw [call, hP e he]
      simp only [defOf_mem hnd he]
      rfl
    refine ⟨A, fd, k2, k1.kp, ?_⟩
    have lvl : lp + 2 * (n + 1) = (lp + 2 * n + 1) + 1 := by omega
    rw [lvl]
    cases hk : e.k with
    | fn =>
      rw [hk] at k3
      refine ⟨k3, (fn_ok k1 t2 t3 body).imp fun vs H Q E h => ?_⟩
      obtain ⟨h0, F, ds, st, h1, h2, h3, d, st', ee, h4⟩ := h
      refine ⟨h0, F, ds, st, h1, h2, h3, d, st', ?_, h4⟩
      rw [ce] at ee
      have : e.cls = none := by unfold DefE.cls; rw [hk]
      rw [this] at ee
      have ef : e.fn = ⟨e.ps.length, e.Ns.length, e.body, none⟩ := by unfold DefE.fn; rw [this]
      rw [ef] at ee
      exact ee
    | mt C m =>
      rw [hk] at k3
      obtain ⟨c, m1, m2, m3⟩ := k3
      refine ⟨c, m1, m2, m3, (fn_ok k1 t2 t3 body).imp fun vs H Q E h => ?_⟩
      obtain ⟨h0, F, ds, st, h1, h2, h3, d, st', ee, h4⟩ := h
      refine ⟨h0, F, ds, st, h1, h2, h3, d, st', ?_, h4⟩
      rw [ce] at ee
      have : e.cls = none := by unfold DefE.cls; rw [hk]
      rw [this] at ee
      have ef : e.fn = ⟨e.ps.length, e.Ns.length, e.body, none⟩ := by unfold DefE.fn; rw [this]
      rw [ef] at ee
      exact ee
    | ini C =>
      rw [hk] at k3
      obtain ⟨c, m1, m2, m3, m4⟩ := k3
      refine ⟨c, m1, m2, ⟨⟨m2, m3⟩, m4⟩, (ini_ok (C := C) k1 t2 t3 body).imp fun vs H Q E h => ?_⟩
      obtain ⟨h0, F, ds, st, a, us, h1, h2, h3, h4, h5, h6, h7, d, st', ee, h8⟩ := h
      refine ⟨h0, F, ds, st, a, us, h1, h2, h3, h4, h5, h6, h7, d, st', ?_, h8⟩
      rw [ce] at ee
      have : e.cls = some C := by unfold DefE.cls; rw [hk]
      rw [this] at ee
      have ef : e.fn = ⟨e.ps.length, e.Ns.length, e.body, some C⟩ := by unfold DefE.fn; rw [this]
      rw [ef] at ee
      exact ee
end
end Ev
/-! Spread0 -/
/-! Spread0: what stays the same when the handles or the classes of a run are others. -/
namespace Ev
open PySem PySem.Spec PyProof.Rows L2

mutual
def plainD : D → Bool
  | .non => true | .bl _ => true | .int _ => true | .str _ => true
  | .lst xs => plainDs xs | .tup xs => plainDs xs
  | _ => false
def plainDs : List D → Bool
  | [] => true
  | d :: ds => plainD d && plainDs ds
end
mutual
theorem Rep.other {R R' : RC} {F : Hp} (hK : R'.K = R.K) : ∀ (d : D) (v : V), plainD d = true → Rep R F d v → Rep R' F d v
  | .non, v, _, h => by simpa [Rep] using h
  | .bl b, v, _, h => by simpa [Rep] using h
  | .int i, v, _, h => by simpa [Rep] using h
  | .str l, v, _, h => by simpa [Rep] using h
  | .lst ds, v, p, h => by
    simp only [Rep] at h ⊢
    obtain ⟨a, vs, h1, h2, h3⟩ := h
    exact ⟨a, vs, h1, h2, Reps.other hK ds vs (by simpa [plainD] using p) h3⟩
  | .tup ds, v, p, h => by
    simp only [Rep] at h ⊢
    obtain ⟨a, vs, h1, h2, h3⟩ := h
    exact ⟨a, vs, h1, by rw [hK]; exact h2, Reps.other hK ds vs (by simpa [plainD] using p) h3⟩
  | .dct _ _, v, p, h => by simp [plainD] at p
  | .dcT _ _, v, p, h => by simp [plainD] at p
  | .ins _ _ _, v, p, h => by simp [plainD] at p
  | .fn _, v, p, h => by simp [plainD] at p
  | .cls _, v, p, h => by simp [plainD] at p
  | .ty _, v, p, h => by simp [plainD] at p
  | .stt, v, p, h => by simp [plainD] at p
  | .hnd _, v, p, h => by simp [plainD] at p
  | .dks _, v, p, h => by simp [plainD] at p
theorem Reps.other {R R' : RC} {F : Hp} (hK : R'.K = R.K) : ∀ (ds : List D) (vs : List V), plainDs ds = true → Reps R F ds vs → Reps R' F ds vs
  | [], vs, _, h => by simpa [Reps] using h
  | d :: ds, vs, p, h => by
    simp only [plainDs, Bool.and_eq_true] at p
    simp only [Reps] at h ⊢
    obtain ⟨x, xs, h1, h2, h3⟩ := h
    exact ⟨x, xs, h1, Rep.other hK d x p.1 h2, Reps.other hK ds xs p.2 h3⟩
end
end Ev
/-! Spread1 -/
/-! Spread1: one turn of a spread: a new dict for what is fresh, then the evaluator. -/
namespace Ev
open PySem PySem.Spec PyProof.Rows L2
def RS (K : PySem.W.Frag) (mg : Str → Option Value) (sa : Option (Addr × Addr)) (hs : List Addr) : RC := ⟨K, mg, sa, ["Spread"], hs⟩
def sfs : List String := ["size", "whole", "tables", "origins", "fresh"]
def sV (sz wh : Int) (tv : V) (o f : Addr) : List V := [.int sz, .int wh, tv, .ref o, .ref f]
def sF (sz wh : Int) (tv : V) (o f : Addr) : List (Str × V) := (sfs.map nm).zip (sV sz wh tv o f)
def sD (sz wh : Int) (ts : List D) : D := .ins "Spread" sfs [.int sz, .int wh, .lst ts, .hnd 0, .hnd 1]
theorem sF_put (sz wh : Int) (tv : V) (o f q : Addr) : putF (nm "fresh") (.ref q) (sF sz wh tv o f) = sF sz wh tv o q := by
  have h1 : ¬ (nm "size" = nm "fresh") := by decide +kernel
  have h2 : ¬ (nm "whole" = nm "fresh") := by decide +kernel
  have h3 : ¬ (nm "tables" = nm "fresh") := by decide +kernel
  have h4 : ¬ (nm "origins" = nm "fresh") := by decide +kernel
  show (if nm "size" = nm "fresh" then _ else (nm "size", V.int sz) :: (if nm "whole" = nm "fresh" then _ else (nm "whole", V.int wh) :: (if nm "tables" = nm "fresh" then _ else (nm "tables", tv) :: (if nm "origins" = nm "fresh" then _ else (nm "origins", V.ref o) :: (if nm "fresh" = nm "fresh" then (nm "fresh", V.ref q) :: [] else _))))) = _
  rw [if_neg h1, if_neg h2, if_neg h3, if_neg h4, if_pos rfl]
  rfl
/-- a dict whose keys are told -/
def KsAt (H : Hp) (ks : List Ky) (a : Addr) : Prop := ∃ vs, H a = some (.dK ((ks.map ky).zip vs)) ∧ ks.length = vs.length
/-- a spread at p, its origins' dict at o; F: what is frozen -/
structure SpAt (K : PySem.W.Frag) (mg : Str → Option Value) (sa : Option (Addr × Addr)) (F H : Hp) (st : PSt) (p c dx o f : Addr) (sz wh : Int) (ts : List D) (tv : V) (ok : List Ky) : Prop where
  sub : Same F H
  cls : (RS K mg sa []).cls "Spread" c ∧ InsC K c
  Fp : F p = none
  Fo : F o = none
  po : p ≠ o
  pb : ∀ q, sa = some q → p ≠ q.1 ∧ p ≠ q.2 ∧ o ≠ q.1 ∧ o ≠ q.2
  at_ : H p = some (.ins c dx (sF sz wh tv o f))
  tv : Rep (RS K mg sa []) F (.lst ts) tv
  pl : plainDs ts = true
  ks : KsAt H ok o
  so : StOk (RS K mg sa []) F H st
  hd : st.hd = []
  ff : ∃ fk, KsAt H fk f ∧ F f = none ∧ p ≠ f ∧ o ≠ f ∧ ∀ q, sa = some q → f ≠ q.1 ∧ f ≠ q.2
def spTurn (K : PySem.W.Frag) (mg : Str → Option Value) (cl : Cl) (wf : Nat) (body : List S) (m : Nat) : Sp := fun vs H Q _ => ∃ (sa : Option (Addr × Addr)) (F : Hp) (st : PSt) (p c dx o f : Addr) (sz wh : Int) (ts : List D) (tv : V) (ok : List Ky), vs = [.ref p] ∧ SpAt K mg sa F H st p c dx o f sz wh ts tv ok ∧
  ∃ b ok' fk ρ' st', exL cl wf body (some (false, sD sz wh ts) :: List.replicate m none) { st with hd := [.dks ok, .dks []] } = some (.rt (.bl b), ρ', st') ∧ st'.hd = [.dks ok', .dks fk] ∧
  ∀ H' f', H f' = none → (∀ x u, H x = some u → x = p ∨ x = o ∨ (RS K mg sa []).bad x ∨ H' x = some u) → SpAt K mg sa F H' { st' with hd := [] } p c dx o f' sz wh ts tv ok' → Q (.bl b) H'
theorem pss_ex {α : Type} {X : Cx} {s : List Stmt} {t : α → TS} (h : ∀ a, PSs X s (t a)) : PSs X s (fun D σ H => ∃ a, t a D σ H) :=
  ⟨fun pins s σ H D I ⟨a, q⟩ => (h a).run pins s σ H D I q⟩
theorem turn_ok {P : Program} {w : World} {K : PySem.W.Frag} {mg : Str → Option Value} {base : Heap} {k m n : Nat} {cl : Cl} {wf : Nat} {T : Tb} {sT : Stmt} {fA : Addr} {fd : FuncData} {Ns : List Str} {body : List S}
    (Fn : Fun K "turn" "Spread.turn" sT fA fd) (Sc : FnScope Ns ["self"] (defScope sT)) (hm : Ns.length = m + 1) (tb : trLs (trS T n n) ⟨⟨Ns, defScope sT, fun _ => true, []⟩, []⟩ ((defBody sT).drop 1) = some body)
    (hb : ∃ p1 p2 p3 p4, defBody sT = .Assign [.Attribute (.Name (nm "self") p1) (nm "fresh") p2] (.Dict [] [] p3) p4 :: (defBody sT).drop 1) (hna : ∀ c, (RS K mg none []).cls "Spread" c → InsC K c → NoAttr K c (nm "fresh"))
    (hctx : ∀ (sa : Option (Addr × Addr)) (hs : List Addr) (X : Cx), X.prog = P → X.w = w → X.base = base → XOk (RS K mg sa hs) X → Room k X.A → CtxOk T cl (RS K mg sa hs) X) : FnOk P w K mg base CX0 (k + 1) fA fd ["self"] (spTurn K mg cl wf body m) := by
  refine Fn.ok Sc (fun vs H Q E h => ?_) (fun cdv A outer s H vs Q E hr hsp => ?_)
  · obtain ⟨_, _, _, _, _, _, _, _, _, _, _, _, _, rfl, _⟩ := h
    rfl
  obtain ⟨sa, F, st, p, c, dx, o, f, sz, wh, ts, tv, ok, rfl, sp, b, ok', fk, ρ', st', hev, hhd, kQ⟩ := hsp
  obtain ⟨p1, p2, p3, p4, hb⟩ := hb
  have h0 : Ns[0]? = some (nm "self") := by
    have := Sc.pre
    cases Ns with
    | nil => cases hm
    | cons a r => simp at this; rw [this]; rfl
  have hv : Vis (defScope sT) (nm "self") := by
    rcases Sc.par (nm "self") (by exact List.mem_cons_self) with z | z
    · exact .inl z
    · exact .inr (.inl z)
  have hd1 : (nm "self" == ("__debug__" : Str)) = false := by decide +kernel
  have hd2 : (nm "self" == ("__classdict__" : Str)) = false := by decide +kernel
  refine ⟨tSeq (sFld K (tVar 0) tDNewK (nm "fresh")) (fun D σ H => ∃ a : Option (Addr × Addr) × List Addr × Hp × Hp, tS ⟨RS K mg a.1 a.2.1, a.2.2.1, a.2.2.2, fun _ => False, 0⟩ (exL cl wf body) D σ H), ?_, ?_⟩
  · rw [hb]
    refine pss_cons (ps_fld (pe_var h0 hv hd1 hd2) pe_dnewK (swaps_of2 _ _)) (pss_ex fun a => ?_)
    exact trLs_ok (s := ⟨⟨Ns, defScope sT, fun _ => true, []⟩, []⟩) (trS_ok n) (hctx _ _ _ rfl rfl rfl ⟨rfl, rfl, Sc.nd, rfl, hr.units⟩ hr) ⟨rfl, rfl, rfl⟩ rfl tb
  intro q hq
  have npq : p ≠ q := ne_of_none sp.at_ hq
  obtain ⟨ov, ho1, ho2⟩ := sp.ks
  have noq : o ≠ q := ne_of_none ho1 hq
  have sfl : (sF sz wh tv o f).length = 5 := rfl
  refine ⟨_, rfl, p, c, dx, sF sz wh tv o f, rfl, by rw [upd_ne npq]; exact sp.at_, sp.cls.2.cl, hna c sp.cls.1 sp.cls.2, by rw [sfl]; decide, ?_⟩
  rw [sF_put]
  have sub1 : Same F (upd F p (.ins c dx (sF sz wh tv o q))) := fun b u h => by rw [upd_ne (ne_of_none h sp.Fp)]; exact h
  have key : ∀ {x u}, upd F p (.ins c dx (sF sz wh tv o q)) x = some u → upd (upd H q (.dK [])) p (.ins c dx (sF sz wh tv o q)) x = some u := fun {x u} h => by
    by_cases z : x = p
    · subst z; rw [upd_same] at h ⊢; exact h
    · rw [upd_ne z] at h ⊢
      rw [upd_ne (ne_of_none (sp.sub _ _ h) hq)]; exact sp.sub _ _ h
  have qb : ∀ r, sa = some r → q ≠ r.1 ∧ q ≠ r.2 := fun r hr' => by
    obtain ⟨_, _, _, e1, e2, _⟩ := sp.so.sa r hr'
    exact ⟨(ne_of_none e1 hq).symm, (ne_of_none e2 hq).symm⟩
  have st1 : StOk (RS K mg sa [o, q]) (upd F p (.ins c dx (sF sz wh tv o q))) (upd (upd H q (.dK [])) p (.ins c dx (sF sz wh tv o q))) { st with hd := [.dks ok, .dks []] } := by
    refine ⟨fun r hr' => ?_, rfl, ?_, fun r hr' => ?_, fun i a d h1 h2 => ?_⟩
    · obtain ⟨e1, e2, e3, e4, e5, e6⟩ := sp.so.sa r hr'
      obtain ⟨n1, n2, n3, n4⟩ := sp.pb r hr'
      obtain ⟨n5, n6⟩ := qb r hr'
      rw [upd_ne n1.symm, upd_ne n2.symm, upd_ne n1.symm, upd_ne n2.symm, upd_ne n5.symm, upd_ne n6.symm]
      exact ⟨e1, e2, e3, e4, e5, e6⟩
    · show [o, q].Nodup
      simp [noq]
    · obtain ⟨n1, n2, n3, n4⟩ := sp.pb r hr'
      obtain ⟨n5, n6⟩ := qb r hr'
      show r.1 ∉ [o, q] ∧ r.2 ∉ [o, q]
      simp [n3.symm, n4.symm, n5.symm, n6.symm]
    · match i, h1, h2 with
      | 0, h1, h2 =>
        cases h1; cases h2
        refine ⟨by rw [upd_ne sp.po.symm]; exact sp.Fo, ov, ?_, ho2⟩
        rw [upd_ne sp.po.symm, upd_ne noq]; exact ho1
      | 1, h1, h2 =>
        cases h1; cases h2
        refine ⟨by rw [upd_ne npq.symm]; exact sp.sub.free hq, [], ?_, rfl⟩
        rw [upd_ne npq.symm, upd_same]; rfl
      | i + 2, h1, h2 => cases h2
  have hl : (L2.start Ns [V.ref p]).length = Ns.length := by
    unfold L2.start; simp [hm]
  have slot0 : Rep (RS K mg sa [o, q]) (upd F p (.ins c dx (sF sz wh tv o q))) (sD sz wh ts) (.ref p) := by
    unfold sD
    simp only [Rep]
    refine ⟨p, dx, c, sV sz wh tv o q, rfl, ⟨sp.cls.1, sp.cls.2⟩, upd_same, rfl, ?_⟩
    refine Reps.cons (by simp [Rep]) (Reps.cons (by simp [Rep]) (Reps.cons (Rep.other (R := RS K mg sa []) (R' := RS K mg sa [o, q]) rfl _ _ (by simpa [plainD] using sp.pl) (Rep.mono sub1 _ _ sp.tv)) (Reps.cons ?_ (Reps.one ?_))))
    · show Rep _ _ (.hnd 0) _
      simp only [Rep]; exact ⟨o, rfl, rfl⟩
    · show Rep _ _ (.hnd 1) _
      simp only [Rep]; exact ⟨q, rfl, rfl⟩
  have no : ∀ (j : Nat) (e : D), (some (false, sD sz wh ts) :: List.replicate m (none : Slot))[j]? = some (some (true, e)) → False := fun j e z => by
    match j, z with
    | 0, z => cases z
    | j + 1, z =>
      rw [List.getElem?_cons_succ] at z
      have := List.mem_of_getElem? z
      rw [List.mem_replicate] at this
      cases this.2
  refine ⟨(sa, [o, q], upd F p (.ins c dx (sF sz wh tv o q)), upd (upd H q (.dK [])) p (.ins c dx (sF sz wh tv o q))), upd F p (.ins c dx (sF sz wh tv o q)), some (false, sD sz wh ts) :: List.replicate m none, { st with hd := [.dks ok, .dks []] }, ?_, _, _, _, hev, fun F' H' v e hs hst r => ?_⟩
  · refine ⟨⟨fun x u h => key h, st1, ?_, fun j s x z1 z2 => ?_, fun j k d e a _ z _ _ _ => (no j d z).elim⟩, Ext.refl _ _ _, fun j d a z _ => (no j d z).elim, fun a z => z.elim, fun j d a z _ => (no j d z).elim⟩
    · rw [hl, hm]; simp
    · match j, z1 with
      | 0, z1 =>
        cases z1
        have : (L2.start Ns [V.ref p])[0]? = some (some (.ref p)) := start_v rfl
        rw [this] at z2; cases z2
        exact ⟨.ref p, rfl, slot0⟩
      | j + 1, z1 =>
        rw [List.getElem?_cons_succ] at z1
        have := List.mem_of_getElem? z1
        rw [List.mem_replicate] at this
        rw [this.2]
        trivial
  have ev : v = .bl b := by simpa [Rep] using r
  subst ev
  obtain ⟨a1, a2, a3, a4, a5⟩ := hst
  obtain ⟨b1, b2⟩ := a5 0 o (.dks ok') rfl (by rw [hhd]; rfl)
  have hp' : H' p = some (.ins c dx (sF sz wh tv o q)) := hs _ _ (e.fz _ _ upd_same)
  have dn : ∀ x, F' x = none → F x = none := fun x hx => by
    cases z : F x with
    | none => rfl
    | some u => have := e.fz _ _ (sub1 _ _ z); rw [hx] at this; cases this
  refine kQ H' q hq (fun x u hx => ?_) ⟨fun x u h => hs _ _ (e.fz _ _ (sub1 _ _ h)), sp.cls, sp.Fp, sp.Fo, sp.po, sp.pb, hp', sp.tv, sp.pl, b2, ⟨fun r hr' => ?_, rfl, by show ([] : List Addr).Nodup; simp, fun r _ => by show r.1 ∉ [] ∧ r.2 ∉ []; simp, fun i a d h1 _ => by cases h1⟩, rfl, fk, ?_⟩
  · by_cases z : x = p
    · exact .inl z
    · have : upd (upd H q (.dK [])) p (.ins c dx (sF sz wh tv o q)) x = some u := by
        rw [upd_ne z, upd_ne (ne_of_none hx hq)]; exact hx
      rcases e.kp x u this with (⟨r, hr', w⟩ | w) | w
      · exact .inr (.inr (.inl (.inl ⟨r, hr', w⟩)))
      · rcases List.mem_cons.mp w with w | w
        · exact .inr (.inl w)
        · rw [List.mem_singleton] at w
          exact absurd w (ne_of_none hx hq)
      · exact .inr (.inr (.inr w))
  · obtain ⟨e1, e2, e3, e4, e5, e6⟩ := a1 r hr'
    exact ⟨e1, dn _ e2, dn _ e3, e4, e5, e6⟩
  · obtain ⟨c1, c2⟩ := a5 1 q (.dks fk) rfl (by rw [hhd]; rfl)
    exact ⟨c2, sp.sub.free hq, npq, noq, qb⟩
end Ev
/-! Spread2 -/
/-! Spread2: a spread's turns to their end; the answer's rows. -/
namespace Ev
open PySem PySem.Spec PyProof.Rows L2
def turnE (cl : Cl) (wf : Nat) (body : List S) (m : Nat) (sz wh : Int) (ts : List D) (ok : List Ky) (st : PSt) : Option (Bool × List Ky × PSt) :=
  match exL cl wf body (some (false, sD sz wh ts) :: List.replicate m none) { st with hd := [.dks ok, .dks []] } with
  | some (.rt (.bl b), _, st') => match st'.hd with
    | [.dks ok', .dks _] => some (b, ok', { st' with hd := [] })
    | _ => none
  | _ => none
def loopE (cl : Cl) (wf : Nat) (body : List S) (m : Nat) (sz wh : Int) (ts : List D) : Nat → List Ky → PSt → Option (List Ky × PSt)
  | 0, _, _ => none
  | n + 1, ok, st => match turnE cl wf body m sz wh ts ok st with
    | some (true, ok', st') => loopE cl wf body m sz wh ts n ok' st'
    | some (false, ok', st') => some (ok', st')
    | none => none
theorem turnE_sp {K : PySem.W.Frag} {mg : Str → Option Value} {cl : Cl} {wf m : Nat} {body : List S} {sa : Option (Addr × Addr)} {F H : Hp} {st st' : PSt} {p c dx o f : Addr} {sz wh : Int} {ts : List D} {tv : V} {ok ok' : List Ky} {b : Bool} {Q : VK} {E : XK}
    (sp : SpAt K mg sa F H st p c dx o f sz wh ts tv ok) (e : turnE cl wf body m sz wh ts ok st = some (b, ok', st'))
    (k : ∀ H' f', H f' = none → (∀ x u, H x = some u → x = p ∨ x = o ∨ (RS K mg sa []).bad x ∨ H' x = some u) → SpAt K mg sa F H' st' p c dx o f' sz wh ts tv ok' → Q (.bl b) H') : spTurn K mg cl wf body m [.ref p] H Q E := by
  unfold turnE at e
  split at e
  · rename_i b1 ρ1 st1 h1
    split at e
    · rename_i ok1 fk h2
      cases e
      exact ⟨sa, F, st, p, c, dx, o, f, sz, wh, ts, tv, ok, rfl, sp, b, ok', fk, ρ1, st1, h1, h2, k⟩
    · cases e
  · cases e
def spSpread (K : PySem.W.Frag) (mg : Str → Option Value) (cl : Cl) (wf : Nat) (body rest : List S) (m m2 : Nat) : Sp := fun vs H Q _ => ∃ (sa : Option (Addr × Addr)) (F : Hp) (st : PSt) (p c dx o f : Addr) (sz wh : Int) (ts : List D) (tv : V) (ok : List Ky), vs = [.ref p] ∧ SpAt K mg sa F H st p c dx o f sz wh ts tv ok ∧
  ∃ n ok' st1, loopE cl wf body m sz wh ts n ok st = some (ok', st1) ∧ ∃ d st2, plainD d = true ∧ (∀ fk, ∃ ρ', exL cl wf rest (some (false, sD sz wh ts) :: List.replicate m2 none) { st1 with hd := [.dks ok', .dks fk] } = some (.rt d, ρ', { st2 with hd := [.dks ok', .dks fk] })) ∧ st2.hd = [] ∧
  ∀ F' H' v, Same F F' → Same F' H' → (∀ y, (∃ u, H y = some u) → y ≠ p → y ≠ o → ¬ (RS K mg sa []).bad y → F y = none → F' y = none) → (∀ x u, H x = some u → x = p ∨ x = o ∨ (RS K mg sa []).bad x ∨ H' x = some u) → StOk (RS K mg sa []) F' H' st2 → Rep (RS K mg sa []) F' d v → Q v H'
/-- the run's own state where a spread's object is frozen -/
theorem gd_sp {K : PySem.W.Frag} {mg : Str → Option Value} {sa : Option (Addr × Addr)} {F H : Hp} {st : PSt} {p c dx o f : Addr} {sz wh : Int} {ts : List D} {tv : V} {ok fk : List Ky} {Ns : List Str} {m : Nat} (sp : SpAt K mg sa F H st p c dx o f sz wh ts tv ok) (hf : KsAt H fk f) (hF : F f = none) (pf : p ≠ f) (of : o ≠ f) (fb : ∀ q, sa = some q → f ≠ q.1 ∧ f ≠ q.2) (hm : Ns.length = m + 1) :
    Same F (upd F p (.ins c dx (sF sz wh tv o f))) ∧ Gd ⟨RS K mg sa [o, f], upd F p (.ins c dx (sF sz wh tv o f)), H, fun _ => False, 0⟩ (upd F p (.ins c dx (sF sz wh tv o f))) H (L2.start Ns [V.ref p]) (some (false, sD sz wh ts) :: List.replicate m none) { st with hd := [.dks ok, .dks fk] } := by
  obtain ⟨ov, ho1, ho2⟩ := sp.ks
  obtain ⟨fv, hf1, hf2⟩ := hf
  have sub1 : Same F (upd F p (.ins c dx (sF sz wh tv o f))) := fun b u h => by rw [upd_ne (ne_of_none h sp.Fp)]; exact h
  have key : ∀ {x u}, upd F p (.ins c dx (sF sz wh tv o f)) x = some u → H x = some u := fun {x u} h => by
    by_cases z : x = p
    · subst z; rw [upd_same] at h; cases h; exact sp.at_
    · rw [upd_ne z] at h; exact sp.sub _ _ h
  have st1 : StOk (RS K mg sa [o, f]) (upd F p (.ins c dx (sF sz wh tv o f))) H { st with hd := [.dks ok, .dks fk] } := by
    refine ⟨fun r hr' => ?_, rfl, ?_, fun r hr' => ?_, fun i a d h1 h2 => ?_⟩
    · obtain ⟨e1, e2, e3, e4, e5, e6⟩ := sp.so.sa r hr'
      obtain ⟨n1, n2, n3, n4⟩ := sp.pb r hr'
      rw [upd_ne n1.symm, upd_ne n2.symm]
      exact ⟨e1, e2, e3, e4, e5, e6⟩
    · show [o, f].Nodup
      simp [of]
    · obtain ⟨n1, n2, n3, n4⟩ := sp.pb r hr'
      obtain ⟨n5, n6⟩ := fb r hr'
      show r.1 ∉ [o, f] ∧ r.2 ∉ [o, f]
      simp [n3.symm, n4.symm, n5.symm, n6.symm]
    · match i, h1, h2 with
      | 0, h1, h2 =>
        cases h1; cases h2
        exact ⟨by rw [upd_ne sp.po.symm]; exact sp.Fo, ov, ho1, ho2⟩
      | 1, h1, h2 =>
        cases h1; cases h2
        exact ⟨by rw [upd_ne pf.symm]; exact hF, fv, hf1, hf2⟩
      | i + 2, h1, h2 => cases h2
  have hl : (L2.start Ns [V.ref p]).length = Ns.length := by
    unfold L2.start; simp [hm]
  have slot0 : Rep (RS K mg sa [o, f]) (upd F p (.ins c dx (sF sz wh tv o f))) (sD sz wh ts) (.ref p) := by
    unfold sD
    simp only [Rep]
    refine ⟨p, dx, c, sV sz wh tv o f, rfl, ⟨sp.cls.1, sp.cls.2⟩, upd_same, rfl, ?_⟩
    refine Reps.cons (by simp [Rep]) (Reps.cons (by simp [Rep]) (Reps.cons (Rep.other (R := RS K mg sa []) (R' := RS K mg sa [o, f]) rfl _ _ (by simpa [plainD] using sp.pl) (Rep.mono sub1 _ _ sp.tv)) (Reps.cons ?_ (Reps.one ?_))))
    · show Rep _ _ (.hnd 0) _
      simp only [Rep]; exact ⟨o, rfl, rfl⟩
    · show Rep _ _ (.hnd 1) _
      simp only [Rep]; exact ⟨f, rfl, rfl⟩
  have no : ∀ (j : Nat) (e : D), (some (false, sD sz wh ts) :: List.replicate m (none : Slot))[j]? = some (some (true, e)) → False := fun j e z => by
    match j, z with
    | 0, z => cases z
    | j + 1, z =>
      rw [List.getElem?_cons_succ] at z
      have := List.mem_of_getElem? z
      rw [List.mem_replicate] at this
      cases this.2
  refine ⟨sub1, ⟨fun x u h => key h, st1, ?_, fun j s x z1 z2 => ?_, fun j k d e a _ z _ _ _ => (no j d z).elim⟩, Ext.refl _ _ _, fun j d a z _ => (no j d z).elim, fun a z => z.elim, fun j d a z _ => (no j d z).elim⟩
  · rw [hl, hm]; simp
  · match j, z1 with
    | 0, z1 =>
      cases z1
      have : (L2.start Ns [V.ref p])[0]? = some (some (.ref p)) := start_v rfl
      rw [this] at z2; cases z2
      exact ⟨.ref p, rfl, slot0⟩
    | j + 1, z1 =>
      rw [List.getElem?_cons_succ] at z1
      have := List.mem_of_getElem? z1
      rw [List.mem_replicate] at this
      rw [this.2]
      trivial
end Ev
/-! Spread3 -/
/-! Spread3: the method spread. -/
namespace Ev
open PySem PySem.Spec PyProof.Rows L2
theorem spread_ok {P : Program} {w : World} {K : PySem.W.Frag} {mg : Str → Option Value} {base : Heap} {k m m2 n : Nat} {cl : Cl} {wf : Nat} {T : Tb} {sS : Stmt} {fA c0 fT : Addr} {fd fdT : FuncData} {Ns : List Str} {body rest : List S}
    (Fn : Fun K "spread" "Spread.spread" sS fA fd) (Sc : FnScope Ns ["self"] (defScope sS)) (hm : Ns.length = m2 + 1) (tb : trLs (trS T n n) ⟨⟨Ns, defScope sS, fun _ => true, []⟩, []⟩ ((defBody sS).drop 1) = some rest)
    (hb : ∃ p1 p2 p3 p4 p5, (p2.endLine == p3.line) = true ∧ defBody sS = .While (.Call (.Attribute (.Name (nm "self") p1) (nm "turn") p2) [] [] p3) [.Pass p4] [] p5 :: (defBody sS).drop 1)
    (hC : mg (nm "Spread") = some (.ref c0)) (hcl : Cls K c0) (hmt : Meth K c0 (nm "turn") fT) (FT : FnOk P w K mg base CX0 k fT fdT ["self"] (spTurn K mg cl wf body m)) (bT : Binds K fdT ["self"] [])
    (hctx : ∀ (sa : Option (Addr × Addr)) (hs : List Addr) (X : Cx), X.prog = P → X.w = w → X.base = base → XOk (RS K mg sa hs) X → Room k X.A → CtxOk T cl (RS K mg sa hs) X) : FnOk P w K mg base CX0 (k + 1) fA fd ["self"] (spSpread K mg cl wf body rest m m2) := by
  refine Fn.ok Sc (fun vs H Q E h => ?_) (fun cdv A outer s H vs Q E hr hsp => ?_)
  · obtain ⟨_, _, _, _, _, _, _, _, _, _, _, _, _, rfl, _⟩ := h
    rfl
  obtain ⟨sa, F, st, p, c, dx, o, f, sz, wh, ts, tv, ok, rfl, sp, nn, ok', st1, hloop, d, st2, pd, hev, hhd, kQ⟩ := hsp
  obtain ⟨p1, p2, p3, p4, p5, hl, hb⟩ := hb
  have h0 : Ns[0]? = some (nm "self") := by
    have := Sc.pre
    cases Ns with
    | nil => cases hm
    | cons a r => simp at this; rw [this]; rfl
  have hv : Vis (defScope sS) (nm "self") := by
    rcases Sc.par (nm "self") (by exact List.mem_cons_self) with z | z
    · exact .inl z
    · exact .inr (.inl z)
  have hd1 : (nm "self" == ("__debug__" : Str)) = false := by decide +kernel
  have hd2 : (nm "self" == ("__classdict__" : Str)) = false := by decide +kernel
  have noT : ∀ f', (sF sz wh tv o f').lookup (nm "turn") = none := fun f' => look_no (fs := sfs) (vs := sV sz wh tv o f') (f := "turn") (by decide)
  refine ⟨tSeq (tWhile (tB (tMeth c0 (nm "turn") (spTurn K mg cl wf body m) [] E0 (tVar 0) tNil)) tNext) (fun D σ H => ∃ a : Option (Addr × Addr) × List Addr × Hp × Hp, tS ⟨RS K mg a.1 a.2.1, a.2.2.1, a.2.2.2, fun _ => False, 0⟩ (exL cl wf rest) D σ H), ?_, ?_⟩
  · rw [hb]
    refine pss_cons (ps_while PySem.PassesOwn.never (pt_val (pe_meth0 (pe_var h0 hv hd1 hd2) hcl hmt FT hr bT .nil pass0 (meth_tree rfl hl rfl (by decide))) (isTrue_of rfl _)) (pss_one ps_pass)) (pss_ex fun a => ?_)
    exact trLs_ok (s := ⟨⟨Ns, defScope sS, fun _ => true, []⟩, []⟩) (trS_ok n) (hctx _ _ _ rfl rfl rfl ⟨rfl, rfl, Sc.nd, rfl, hr.units⟩ hr) ⟨rfl, rfl, rfl⟩ rfl tb
  have ec : c = c0 := by
    have := sp.cls.1.1
    rw [show (RS K mg sa []).mg (nm "Spread") = mg (nm "Spread") from rfl, hC] at this
    cases this; rfl
  subst ec
  refine ⟨fun i σ H' => σ = L2.start Ns [V.ref p] ∧ ∃ f' ok1 st', loopE cl wf body m sz wh ts i ok1 st' = some (ok', st1) ∧ SpAt K mg sa F H' st' p c dx o f' sz wh ts tv ok1 ∧ ∀ x u, H x = some u → x = p ∨ x = o ∨ (RS K mg sa []).bad x ∨ H' x = some u, ⟨nn, rfl, f, ok, st, hloop, sp, fun x u h => .inr (.inr (.inr h))⟩, ?_⟩
  rintro i σ H1 ⟨rfl, f', ok1, st', hlp, sp1, kp⟩
  cases i with
  | zero => cases hlp
  | succ i =>
  unfold loopE at hlp
  refine ⟨.ref p, start_v rfl, p, dx, sF sz wh tv o f', rfl, sp1.at_, noT f', ?_⟩
  unfold tNil
  have fin : ∀ {Q0 : VK} {E1 : XK}, spTurn K mg cl wf body m [.ref p] H1 Q0 E1 → spTurn K mg cl wf body m (V.ref p :: ([] ++ [])) H1 Q0 E1 := fun h => h
  have kk : ∀ {H2 : Hp}, (∀ x u, H1 x = some u → x = p ∨ x = o ∨ (RS K mg sa []).bad x ∨ H2 x = some u) → ∀ x u, H x = some u → x = p ∨ x = o ∨ (RS K mg sa []).bad x ∨ H2 x = some u := fun h x u hx => by
    rcases kp x u hx with z | z | z | z
    · exact .inl z
    · exact .inr (.inl z)
    · exact .inr (.inr (.inl z))
    · exact h x u z
  split at hlp
  · rename_i ok2 st3 ht
    refine fin (turnE_sp sp1 ht fun H2 f2 kn k2 sp2 => ⟨true, rfl, fun σ' H' => (σ' = L2.start Ns [V.ref p] ∧ ∃ f' ok1 st', loopE cl wf body m sz wh ts i ok1 st' = some (ok', st1) ∧ SpAt K mg sa F H' st' p c dx o f' sz wh ts tv ok1 ∧ ∀ x u, H x = some u → x = p ∨ x = o ∨ (RS K mg sa []).bad x ∨ H' x = some u), fun σ' H' h => ⟨i, Nat.lt_succ_self i, h⟩, rfl, f2, ok2, st3, hlp, sp2, kk k2⟩)
  · rename_i ok2 st3 ht
    cases hlp
    refine fin (turnE_sp sp1 ht fun H2 f2 kn k2 sp2 => ⟨false, rfl, ?_⟩)
    obtain ⟨fk, hf, hF, pf, of, fb⟩ := sp2.ff
    obtain ⟨s1, g1⟩ := gd_sp sp2 hf hF pf of fb hm
    obtain ⟨ρ', hev⟩ := hev fk
    refine ⟨(sa, [o, f2], upd F p (.ins c dx (sF sz wh tv o f2)), H2), _, _, _, g1, _, _, _, hev, fun F' H' v e hs hst r => ?_⟩
    refine kQ F' H' v (s1.trans e.fz) hs (fun y hy n1 n2 n3 hF => ?_) (fun x u hx => ?_) ⟨hst.sa, by rw [hhd]; rfl, by show ([] : List Addr).Nodup; simp, fun r _ => by show r.1 ∉ [] ∧ r.2 ∉ []; simp, fun i a d h1 _ => by cases h1⟩ (Rep.other (R := RS K mg sa [o, f2]) (R' := RS K mg sa []) rfl _ _ pd r)
    · obtain ⟨u, hy⟩ := hy
      refine e.un y ⟨u, ?_⟩ (by show upd F p (.ins c dx (sF sz wh tv o f2)) y = none; rw [upd_ne n1]; exact hF)
      rcases kk k2 y u hy with z | z | z | z
      · exact absurd z n1
      · exact absurd z n2
      · exact absurd z n3
      · exact z
    rcases kk k2 x u hx with z | z | z | z
    · exact .inl z
    · exact .inr (.inl z)
    · exact .inr (.inr (.inl z))
    · rcases e.kp x u z with (⟨r, hr', w⟩ | w) | w
      · exact .inr (.inr (.inl (.inl ⟨r, hr', w⟩)))
      · rcases List.mem_cons.mp w with w | w
        · exact .inr (.inl w)
        · rw [List.mem_singleton] at w
          subst w
          rcases kp x u hx with z | z | z | z
          · exact absurd z.symm pf
          · exact absurd z.symm of
          · rcases z with ⟨r, hr', z | z⟩ | z
            · exact absurd z (fb r hr').1
            · exact absurd z (fb r hr').2
            · cases z
          · rw [kn] at z; cases z
      · exact .inr (.inr (.inr w))
  · cases hlp
end Ev
/-! Spread4 -/
/-! Spread4: {int(row, 2): None for row in rows}. -/
namespace Ev
open PySem PySem.Spec PyProof.Rows L2
abbrev addW (ks : List Ky) (l : List Nat) : List Ky := addK ks (.inl ((EvBin.worth l : Nat) : Int))
def keysOf (ls : List (List Nat)) : List Ky := ls.foldl addW []
abbrev rBit : List V → Hp → VK → Prop := fun xs H Q => ∃ l : List Nat, xs = [.str ⟨l.toArray⟩, .int 2] ∧ l ≠ [] ∧ l.length ≤ 640 ∧ (∀ c ∈ l, EvBin.Bit c) ∧ Q (.int ((EvBin.worth l : Nat) : Int)) H
theorem addK_len (ks : List Ky) (k : Ky) : (addK ks k).length ≤ ks.length + 1 := by
  unfold addK
  split
  · omega
  · simp
theorem fold_len : ∀ (ls : List (List Nat)) (ks : List Ky), (ls.foldl addW ks).length ≤ ks.length + ls.length
  | [], ks => by simp
  | l :: ls, ks => by
    have h1 := fold_len ls (addW ks l)
    have h2 := addK_len ks (.inl ((EvBin.worth l : Nat) : Int))
    simp only [List.foldl_cons, List.length_cons]
    show (ls.foldl addW (addW ks l)).length ≤ _
    have h3 : (addW ks l).length ≤ ks.length + 1 := h2
    omega
theorem dc_rows {K : PySem.W.Frag} {i j : Nat} {σ : L2.St} {H : Hp} {Q : VK} {a : Addr} {ls : List (List Nat)} (hij : i ≠ j) (hi : σ[i]? = some (some (.ref a))) (hj : j < σ.length) (ha : SqL K H a (ls.map fun l => V.str (tx l))) (hb : ∀ l ∈ ls, l ≠ [] ∧ l.length ≤ 640 ∧ ∀ c ∈ l, EvBin.Bit c) (hn : ls.length < sizeLine)
    (hQ : ∀ D vs, H D = none → (keysOf ls).length = vs.length → Q (.ref D) (upd H D (.dK (((keysOf ls).map ky).zip vs)))) :
    tDc (iList K (tVar i)) (gName j) tYes (tCB rBit (tCons (tVar j) (tCons (tC (.int 2)) tNil))) (tC .non) [j] σ H Q := by
  refine ⟨.ref a, hi, a, rfl, ⟨_, ha⟩, fun D hD => ?_⟩
  refine ⟨fun n m H' => m = ls.length - n ∧ n ≤ ls.length ∧ ∃ vs, H' = upd H D (.dK ((((ls.take n).foldl addW []).map ky).zip vs)) ∧ ((ls.take n).foldl addW []).length = vs.length, ⟨ls.length, rfl, Nat.zero_le _, [], by simp, by simp⟩, ?_⟩
  rintro n m H' ⟨rfl, hn', vs, rfl, hl⟩
  have haD : SqL K (upd H D (.dK ((((ls.take n).foldl addW []).map ky).zip vs))) a (ls.map fun l => V.str (tx l)) := by
    rcases ha with ha | ha
    · rcases ha with ha | ⟨o, ha⟩
      · exact .inl (.inl (by rw [upd_ne (ne_of_none ha hD)]; exact ha))
      · exact .inl (.inr ⟨o, by rw [upd_ne (ne_of_none ha hD)]; exact ha⟩)
    · exact .inr ha
  by_cases hlt : n < ls.length
  · refine .inr ⟨⟨_, V.str (tx ls[n]), haD, by rw [List.getElem?_map, List.getElem?_eq_getElem hlt]; rfl⟩, fun H' => ∃ vs, H' = upd H D (.dK ((((ls.take (n + 1)).foldl addW []).map ky).zip vs)) ∧ ((ls.take (n + 1)).foldl addW []).length = vs.length, fun H' h => ⟨ls.length - (n + 1), by omega, rfl, hlt, h⟩, ?_⟩
    rintro x H' ⟨rfl, hx⟩
    have hx := hx _ haD
    rw [List.getElem?_map, List.getElem?_eq_getElem hlt] at hx
    cases hx
    obtain ⟨b1, b2, b3⟩ := hb _ (List.getElem_mem hlt)
    refine ⟨by simp [wipe], ?_⟩
    simp only [tYes, if_true]
    refine ⟨V.str (tx ls[n]), ?_, ls[n], rfl, b1, b2, b3, ?_⟩
    · show ((wipe σ [j]).set j (some (V.str (tx ls[n]))))[j]? = _
      rw [List.getElem?_set_self (by rw [wipe_length]; exact hj)]
    obtain ⟨vs', e1, e2⟩ := put_dks (k := .inl ((EvBin.worth ls[n] : Nat) : Int)) (v := V.non) hl
    refine ⟨_, ky (.inl ((EvBin.worth ls[n] : Nat) : Int)), rfl, upd_same, ?_, vs', ?_, ?_⟩
    · rw [List.length_zip, List.length_map, ← hl, Nat.min_self]
      have := fold_len (ls.take n) []
      rw [List.length_take] at this
      simp only [List.length_nil] at this
      omega
    · rw [upd_upd, e1, List.take_add_one, List.getElem?_eq_getElem hlt, List.foldl_append]
      rfl
    · rw [List.take_add_one, List.getElem?_eq_getElem hlt, List.foldl_append]
      exact e2
  · have e : n = ls.length := by omega
    subst e
    rw [List.take_length] at hl haD ⊢
    exact .inl ⟨⟨_, haD, by simp⟩, hQ D vs hD hl⟩
end Ev
/-! Spread5 -/
/-! Spread5: __init__ of a spread. -/
namespace Ev
open PySem PySem.Spec PyProof.Rows L2
def spSInit (K : PySem.W.Frag) (mg : Str → Option Value) (dbl : List D → PSt → Option (D × PSt)) : Sp := fun vs H Q _ => ∃ (sa : Option (Addr × Addr)) (F : Hp) (st : PSt) (p c dx a : Addr) (ts : List D) (tv : V) (ls : List (List Nat)) (l0 : List Nat) (wh : Int) (st' : PSt),
  vs = [.ref p, tv, .ref a] ∧ Same F H ∧ F p = none ∧ ((RS K mg sa []).cls "Spread" c ∧ InsC K c) ∧ H p = some (.ins c dx []) ∧ (∀ q, sa = some q → p ≠ q.1 ∧ p ≠ q.2) ∧ Rep (RS K mg sa []) F (.lst ts) tv ∧ plainDs ts = true ∧
  F a = some (.lst (ls.map fun l => V.str (tx l))) ∧ ls[0]? = some l0 ∧ l0.length ≤ lim ∧ (∀ l ∈ ls, l ≠ [] ∧ l.length ≤ 640 ∧ ∀ c ∈ l, EvBin.Bit c) ∧ ls.length < lim ∧ StOk (RS K mg sa []) F H st ∧ st.hd = [] ∧ dbl [.int l0.length] st = some (.int (wh + 1), st') ∧ st'.hd = [] ∧
  ∀ F' H' o f, Same F F' → (∀ y, (∃ u, H y = some u) → F y = none → F' y = none) → (∀ x u, H x = some u → x = p ∨ (RS K mg sa []).bad x ∨ H' x = some u) → H o = none → SpAt K mg sa F' H' st' p c dx o f l0.length wh ts tv (keysOf ls) → Q .non H'
theorem f0_put (sz : Int) : putF (nm "size") (.int sz) [] = [(nm "size", .int sz)] := rfl
theorem f1_put (sz wh : Int) : putF (nm "whole") (.int wh) [(nm "size", .int sz)] = [(nm "size", .int sz), (nm "whole", .int wh)] := by
  have h1 : ¬ (nm "size" = nm "whole") := by decide +kernel
  show (if nm "size" = nm "whole" then _ else (nm "size", V.int sz) :: [(nm "whole", V.int wh)]) = _
  rw [if_neg h1]
theorem f2_put (sz wh : Int) (tv : V) : putF (nm "tables") tv [(nm "size", .int sz), (nm "whole", .int wh)] = [(nm "size", .int sz), (nm "whole", .int wh), (nm "tables", tv)] := by
  have h1 : ¬ (nm "size" = nm "tables") := by decide +kernel
  have h2 : ¬ (nm "whole" = nm "tables") := by decide +kernel
  show (if nm "size" = nm "tables" then _ else (nm "size", V.int sz) :: (if nm "whole" = nm "tables" then _ else (nm "whole", V.int wh) :: [(nm "tables", tv)])) = _
  rw [if_neg h1, if_neg h2]
theorem f3_put (sz wh : Int) (tv : V) (o : Addr) : putF (nm "origins") (.ref o) [(nm "size", .int sz), (nm "whole", .int wh), (nm "tables", tv)] = [(nm "size", .int sz), (nm "whole", .int wh), (nm "tables", tv), (nm "origins", .ref o)] := by
  have h1 : ¬ (nm "size" = nm "origins") := by decide +kernel
  have h2 : ¬ (nm "whole" = nm "origins") := by decide +kernel
  have h3 : ¬ (nm "tables" = nm "origins") := by decide +kernel
  show (if nm "size" = nm "origins" then _ else (nm "size", V.int sz) :: (if nm "whole" = nm "origins" then _ else (nm "whole", V.int wh) :: (if nm "tables" = nm "origins" then _ else (nm "tables", tv) :: [(nm "origins", V.ref o)]))) = _
  rw [if_neg h1, if_neg h2, if_neg h3]
theorem f4_put (sz wh : Int) (tv : V) (o f : Addr) : putF (nm "fresh") (.ref f) [(nm "size", .int sz), (nm "whole", .int wh), (nm "tables", tv), (nm "origins", .ref o)] = sF sz wh tv o f := by
  have h1 : ¬ (nm "size" = nm "fresh") := by decide +kernel
  have h2 : ¬ (nm "whole" = nm "fresh") := by decide +kernel
  have h3 : ¬ (nm "tables" = nm "fresh") := by decide +kernel
  have h4 : ¬ (nm "origins" = nm "fresh") := by decide +kernel
  show (if nm "size" = nm "fresh" then _ else (nm "size", V.int sz) :: (if nm "whole" = nm "fresh" then _ else (nm "whole", V.int wh) :: (if nm "tables" = nm "fresh" then _ else (nm "tables", tv) :: (if nm "origins" = nm "fresh" then _ else (nm "origins", V.ref o) :: [(nm "fresh", V.ref f)])))) = _
  rw [if_neg h1, if_neg h2, if_neg h3, if_neg h4]
  rfl
/-- the term of the five statements -/
abbrev tSInit (K : PySem.W.Frag) (mg : Str → Option Value) (dbl : List D → PSt → Option (D × PSt)) : TS :=
  tSeq (sFld K (tVar 0) (tCB (fun xs H Q => ∃ z : Str, xs = [.str z] ∧ z.length ≤ sizeLine ∧ Q (.int z.length) H) (tCons (tOp (rIxL K) (tVar 2) (tC (.int 0))) tNil)) (nm "size"))
  (tSeq (sFld K (tVar 0) (tOp (rI0 fun i j => .int (i - j)) (fun σ H Q => ∃ sa, tCall (spV (RS K mg sa []) dbl 1) [] E0 (tCons (tFld K (tVar 0) (nm "size")) tNil) σ H Q) (tC (.int 1))) (nm "whole"))
  (tSeq (sFld K (tVar 0) (tVar 1) (nm "tables"))
  (tSeq (sFld K (tVar 0) (tDc (iList K (tVar 2)) (gName 3) tYes (tCB rBit (tCons (tVar 3) (tCons (tC (.int 2)) tNil))) (tC .non) [3]) (nm "origins"))
  (tSeq (sFld K (tVar 0) tDNewK (nm "fresh")) tNext))))
theorem sinit_pure {K : PySem.W.Frag} {mg : Str → Option Value} {dbl : List D → PSt → Option (D × PSt)} {vs : List V} {H : Hp} {Q : VK} {E : XK} {c0 : Addr} (hC : mg (nm "Spread") = some (.ref c0)) (hcl : Cls K c0) (hna : ∀ f ∈ sfs, NoAttr K c0 (nm f)) (h : spSInit K mg dbl vs H Q E) :
    ∀ σ : L2.St, σ.length = 4 → (∀ (j : Nat) (v : V), vs[j]? = some v → σ[j]? = some (some v)) → tSInit K mg dbl { nx := fun _ H' => Q .non H', rt := Q } σ H := by
  intro σ hσ hs
  obtain ⟨sa, F, st, p, c, dx, a, ts, tv, ls, l0, wh, st', rfl, s0, pF, hc, hp, pb, rtv, ptv, ha, hl0, hlen, hbit, hln, so, hhd, hd, hhd', kQ⟩ := h
  have e0 := hs 0 _ rfl
  have e1 := hs 1 _ rfl
  have e2 := hs 2 _ rfl
  have ec : c = c0 := by
    have := hc.1.1
    rw [show (RS K mg sa []).mg (nm "Spread") = mg (nm "Spread") from rfl, hC] at this
    cases this; rfl
  subst ec
  have n1 := hna "size" (by decide)
  have n2 := hna "whole" (by decide)
  have n3 := hna "tables" (by decide)
  have n4 := hna "origins" (by decide)
  have n5 := hna "fresh" (by decide)
  have hz : ((ls.map fun l => V.str (tx l)))[0]? = some (V.str (tx l0)) := by rw [List.getElem?_map, hl0]; rfl
  refine ⟨.ref a, e2, a, _, 0, _, rfl, rfl, SqL.of (s0 _ _ ha), atI_nat hz, tx l0, rfl, by rw [tx_len, line_lim]; exact hlen, ?_⟩
  refine ⟨.ref p, e0, p, c, dx, [], rfl, hp, hcl, n1, by decide, ?_⟩
  rw [f0_put, tx_len]
  -- self.whole
  have s1 : Same F (upd H p (.ins c dx [(nm "size", .int l0.length)])) := fun b u h => by rw [upd_ne (ne_of_none h pF)]; exact s0 _ _ h
  have nbp : ¬ (RS K mg sa []).bad p := fun z => by
    rcases z with ⟨q, hq, z | z⟩ | z
    · exact (pb q hq).1 z
    · exact (pb q hq).2 z
    · cases z
  have so1 : StOk (RS K mg sa []) F (upd H p (.ins c dx [(nm "size", .int l0.length)])) st := so.keep (Same.refl _) fun b hb => by
    have n : b ≠ p := fun z => nbp (z ▸ hb)
    rw [upd_ne n]
    exact ⟨rfl, rfl⟩
  refine ⟨sa, .ref p, e0, p, c, dx, _, .int l0.length, rfl, upd_same, hcl, n1, by simp [List.lookup], ?_⟩
  refine ⟨rfl, F, [.int l0.length], st, s1, so1, Reps.one (by simp [Rep]), .int (wh + 1), st', hd, fun F2 H2 v x hs2 hst2 r2 => ?_⟩
  have ev : v = .int (wh + 1) := by simpa [Rep] using r2
  subst ev
  refine ⟨_, _, rfl, rfl, ?_⟩
  have hp2 : H2 p = some (.ins c dx [(nm "size", .int l0.length)]) := by
    rcases x.kp p _ upd_same with z | z
    · exact absurd z nbp
    · exact z
  have pF2 : F2 p = none := x.un p ⟨_, upd_same⟩ pF
  refine ⟨.ref p, e0, p, c, dx, _, rfl, hp2, hcl, n2, by show 1 < 1000; decide, ?_⟩
  rw [f1_put, show wh + 1 - 1 = wh by omega]
  -- self.tables
  refine ⟨tv, e1, .ref p, e0, p, c, dx, _, rfl, upd_same, hcl, n3, by show 2 < 1000; decide, ?_⟩
  rw [f2_put, upd_upd]
  -- self.origins
  have ha2 : SqL K (upd H2 p (.ins c dx [(nm "size", .int l0.length), (nm "whole", .int wh), (nm "tables", tv)])) a (ls.map fun l => V.str (tx l)) := by
    have h1 : F2 a = _ := x.fz _ _ ha
    refine SqL.of ?_
    rw [upd_ne (ne_of_none h1 pF2)]
    exact hs2 _ _ h1
  show tDc (iList K (tVar 2)) (gName 3) tYes (tCB rBit (tCons (tVar 3) (tCons (tC (.int 2)) tNil))) (tC .non) [3] σ (upd H2 p (.ins c dx [(nm "size", .int l0.length), (nm "whole", .int wh), (nm "tables", tv)])) (fun y H1 => (tVar 0) σ H1 fun x H2 => ∃ a C dx fs, x = .ref a ∧ H2 a = some (.ins C dx fs) ∧ Cls K C ∧ NoAttr K C (nm "origins") ∧ fs.length < 1000 ∧ (tSeq (sFld K (tVar 0) tDNewK (nm "fresh")) tNext { nx := fun _ H' => Q .non H', rt := Q }) σ (upd H2 a (.ins C dx (putF (nm "origins") y fs))))
  refine dc_rows (i := 2) (j := 3) (by decide) e2 (by rw [hσ]; decide) ha2 hbit (by rw [line_lim]; exact hln) fun o vs hO hl => ?_
  have npo : p ≠ o := ne_of_none upd_same hO
  refine ⟨.ref p, e0, p, c, dx, _, rfl, by rw [upd_ne npo]; exact upd_same, hcl, n4, by show 3 < 1000; decide, ?_⟩
  rw [f3_put]
  -- self.fresh
  intro f hf
  have npf : p ≠ f := ne_of_none upd_same hf
  have nof : o ≠ f := by
    refine ne_of_none (o := .dK (((keysOf ls).map ky).zip vs)) ?_ hf
    rw [upd_ne npo.symm, upd_same]
  refine ⟨.ref p, e0, p, c, dx, _, rfl, by rw [upd_ne npf]; exact upd_same, hcl, n5, by show 4 < 1000; decide, ?_⟩
  rw [f4_put]
  have hO2 : H2 o = none := by rw [upd_ne npo.symm] at hO; exact hO
  have hf2 : H2 f = none := by
    rw [upd_ne npf.symm, upd_ne nof.symm, upd_ne npf.symm] at hf; exact hf
  have far : ∀ {x u}, H2 x = some u → x ≠ o ∧ x ≠ f := fun h => ⟨ne_of_none h hO2, ne_of_none h hf2⟩
  have fin : ∀ {x u}, x ≠ p → H2 x = some u → upd (upd (upd (upd H2 p (.ins c dx [(nm "size", .int l0.length), (nm "whole", .int wh), (nm "tables", tv)])) o (.dK (((keysOf ls).map ky).zip vs))) p (.ins c dx [(nm "size", .int l0.length), (nm "whole", .int wh), (nm "tables", tv), (nm "origins", .ref o)])) f (.dK []) x = some u := fun {x u} hx h => by
    obtain ⟨h1, h2⟩ := far h
    rw [upd_ne h2, upd_ne hx, upd_ne h1, upd_ne hx]; exact h
  have qo : ∀ q, sa = some q → q.1 ≠ o ∧ q.2 ≠ o ∧ q.1 ≠ f ∧ q.2 ≠ f := fun q hq => by
    obtain ⟨_, _, _, k1, k2, _⟩ := hst2.sa q hq
    exact ⟨(far k1).1, (far k2).1, (far k1).2, (far k2).2⟩
  show Q .non _
  refine kQ F2 _ o f x.fz (fun y hy hF => ?_) (fun y u hy => ?_) ?_ ⟨fun y u hy => ?_, hc, pF2, hs2.free hO2, npo, fun q hq => ⟨(pb q hq).1, (pb q hq).2, (qo q hq).1.symm, (qo q hq).2.1.symm⟩, upd_same, Rep.mono x.fz _ _ rtv, ptv, ⟨vs, ?_, hl⟩, ⟨fun q hq => ?_, hst2.len, hst2.nd, hst2.ap, fun i a d h1 _ => by cases h1⟩, hhd', [], ⟨[], ?_, rfl⟩, hs2.free hf2, npf, nof, fun q hq => ⟨(qo q hq).2.2.1.symm, (qo q hq).2.2.2.symm⟩⟩
  · by_cases z : y = p
    · subst z; exact pF2
    · obtain ⟨u, hy⟩ := hy
      exact x.un y ⟨u, by rw [upd_ne z]; exact hy⟩ hF
  · by_cases z : y = p
    · exact .inl z
    · rcases x.kp y u (by rw [upd_ne z]; exact hy) with w | w
      · exact .inr (.inl w)
      · exact .inr (.inr (by rw [upd_ne z]; exact fin z w))
  · cases w : H o with
    | none => rfl
    | some u =>
      by_cases z : o = p
      · exact absurd z.symm npo
      · rcases x.kp o u (by rw [upd_ne z]; exact w) with v | v
        · rcases v with ⟨q, hq, v | v⟩ | v
          · exact absurd v.symm (qo q hq).1
          · exact absurd v.symm (qo q hq).2.1
          · cases v
        · rw [hO2] at v; cases v
  · have z : y ≠ p := ne_of_none hy pF2
    rw [upd_ne z]
    exact fin z (hs2 _ _ hy)
  · rw [upd_ne npo.symm, upd_ne nof, upd_ne npo.symm, upd_same]
  · obtain ⟨k1, k2, k3, k4, k5, k6⟩ := hst2.sa q hq
    have m1 : q.1 ≠ p := (pb q hq).1.symm
    have m2 : q.2 ≠ p := (pb q hq).2.symm
    rw [upd_ne m1, upd_ne m2]
    exact ⟨k1, k2, k3, fin m1 k4, fin m2 k5, k6⟩
  · rw [upd_ne npf.symm, upd_same]; rfl
end Ev
/-! Spread6 -/
/-! Spread6: closed_rows: a spread is made and spread. -/
namespace Ev
open PySem PySem.Spec PyProof.Rows L2
/-- what closed_rows needs of the evaluator's runs: the answer d at tables ts, rows ls -/
structure ClosedAt (dbl : List D → PSt → Option (D × PSt)) (cl : Cl) (wf : Nat) (body rest : List S) (m m2 : Nat) (ts : List D) (ls : List (List Nat)) (d : D) (st st2 : PSt) : Prop where
  ex : ∃ (l0 : List Nat) (wh : Int) (st' st1 : PSt) (n : Nat) (ok' : List Ky), plainDs ts = true ∧ ls[0]? = some l0 ∧ l0.length ≤ lim ∧ (∀ l ∈ ls, l ≠ [] ∧ l.length ≤ 640 ∧ ∀ c ∈ l, EvBin.Bit c) ∧ ls.length < lim ∧ st.hd = [] ∧ dbl [.int l0.length] st = some (.int (wh + 1), st') ∧ st'.hd = [] ∧
    loopE cl wf body m l0.length wh ts n (keysOf ls) st' = some (ok', st1) ∧ plainD d = true ∧ (∀ fk, ∃ ρ', exL cl wf rest (some (false, sD l0.length wh ts) :: List.replicate m2 none) { st1 with hd := [.dks ok', .dks fk] } = some (.rt d, ρ', { st2 with hd := [.dks ok', .dks fk] })) ∧ st2.hd = []
theorem StOk.other {R R' : RC} {F H : Hp} {st : PSt} (h1 : R'.sa = R.sa) (h2 : R.hs = []) (h3 : R'.hs = []) (h : StOk R F H st) : StOk R' F H st :=
  ⟨fun p hp => h.sa p (by rw [← h1]; exact hp), by rw [h.len, h2, h3], by rw [h3]; simp, fun p hp => by rw [h3]; simp, fun i a d k1 _ => by rw [h3] at k1; cases k1⟩
theorem strs_vs {R : RC} {F : Hp} {rs : List D} {vs : List V} {ls : List (List Nat)} (h : Reps R F rs vs) (e : strsD rs = some ls) : vs = ls.map fun l => V.str (tx l) := by
  rw [reps_str h e, List.map_map]
  rfl
theorem closed_pure {K : PySem.W.Frag} {mg : Str → Option Value} {dbl : List D → PSt → Option (D × PSt)} {cl : Cl} {wf m m2 : Nat} {body rest : List S} {R : RC} {f : List D → PSt → Option (D × PSt)} {vs : List V} {H : Hp} {Q : VK} {E : XK} {c0 : Addr}
    (hK : R.K = K) (hm : R.mg = mg) (hh : R.hs = []) (hC : mg (nm "Spread") = some (.ref c0)) (hI : InsC K c0)
    (hf : ∀ ds st d st2, f ds st = some (d, st2) → ∃ ts rs ls, ds = [.lst ts, .lst rs] ∧ strsD rs = some ls ∧ ClosedAt dbl cl wf body rest m m2 ts ls d st st2) (h : spV R f 2 vs H Q E) :
    ∀ σ : L2.St, (∀ (j : Nat) (v : V), vs[j]? = some v → σ[j]? = some (some v)) →
      tRet (tMeth c0 (nm "spread") (spSpread K mg cl wf body rest m m2) [] E0 (tMake c0 (spSInit K mg dbl) [] E0 (tCons (tVar 0) (tCons (tVar 1) tNil))) tNil) { nx := fun _ H' => Q .non H', rt := Q } σ H := by
  intro σ hs
  obtain ⟨hl, F, ds, st, s0, so, rr, d, st2, e, k⟩ := h
  obtain ⟨ts, rs, ls, rfl, hst, ⟨l0, wh, st', st1, n, ok', p1, p2, p3, p4, p5, p6, p7, p8, p9, p10, p11, p12⟩⟩ := hf _ _ _ _ e
  simp only [Reps] at rr
  obtain ⟨tv, _, rfl, r1, rv, _, rfl, r2, rfl⟩ := rr
  simp only [Rep] at r2
  obtain ⟨a, us, rfl, a1, a2⟩ := r2
  have := strs_vs a2 hst
  subst this
  have e0 := hs 0 _ rfl
  have e1 := hs 1 _ rfl
  refine ⟨tv, e0, .ref a, e1, ?_⟩
  intro x dx hx hdx ndx
  subst hK hm
  have old : ∀ {y u}, H y = some u → y ≠ x ∧ y ≠ dx := fun h => ⟨ne_of_none h hx, ne_of_none h hdx⟩
  have up : ∀ {y u}, H y = some u → upd (upd H dx (.own x)) x (.ins c0 dx []) y = some u := fun {y u} h => by
    obtain ⟨h1, h2⟩ := old h
    rw [upd_ne h1, upd_ne h2]; exact h
  have so0 : StOk (RS R.K R.mg R.sa []) F (upd (upd H dx (.own x)) x (.ins c0 dx [])) st := by
    refine StOk.other (R := R) rfl hh rfl (so.keep (Same.refl _) fun b hb => ⟨rfl, ?_⟩)
    obtain ⟨_, u, hu⟩ := so.bad b hb
    rw [up hu, hu]
  have noS : ∀ (tv : V) (o f : Addr), (sF l0.length wh tv o f).lookup (nm "spread") = none := fun tv o f => look_no (fs := sfs) (vs := sV l0.length wh tv o f) (f := "spread") (by decide)
  refine ⟨R.sa, F, st, x, c0, dx, a, ts, tv, ls, l0, wh, st', rfl, fun y u h => up (s0 _ _ h), s0.free hx, ⟨⟨hC, by simp [RS]⟩, hI⟩, upd_same, fun q hq => ?_, Rep.other (R := R) (R' := RS R.K R.mg R.sa []) rfl _ _ (by simpa [plainD] using p1) r1, p1, a1, p2, p3, p4, p5, so0, p6, p7, p8, fun F2 H2 o f2 k1 k2 k3 k4 sp => ⟨rfl, ?_⟩⟩
  · obtain ⟨_, _, _, w1, w2, _⟩ := so.sa q hq
    exact ⟨(old w1).1.symm, (old w2).1.symm⟩
  refine ⟨x, dx, _, rfl, sp.at_, noS tv o f2, ?_⟩
  unfold tNil
  have fin : ∀ {Q0 : VK} {E1 : XK}, spSpread R.K R.mg cl wf body rest m m2 [.ref x] H2 Q0 E1 → spSpread R.K R.mg cl wf body rest m m2 (V.ref x :: ([] ++ [])) H2 Q0 E1 := fun h => h
  refine fin ⟨R.sa, F2, st', x, c0, dx, o, f2, l0.length, wh, ts, tv, keysOf ls, rfl, sp, n, ok', st1, p9, d, st2, p10, p11, p12, fun F' H' v m1 m3 m4 m5 m6 m7 => ?_⟩
  have noo : ∀ {y u}, H y = some u → y ≠ o := fun {y u} h z => by
    subst z
    rw [up h] at k4; cases k4
  have bb : ∀ {y}, (RS R.K R.mg R.sa []).bad y → R.bad y := fun {y} z => by
    rcases z with z | z
    · exact .inl z
    · cases z
  refine k F' H' v ⟨k1.trans m1, fun y u h => ?_, fun y hy hF => ?_⟩ m3 (StOk.other (R := RS R.K R.mg R.sa []) rfl rfl hh m6) (Rep.other (R := RS R.K R.mg R.sa []) (R' := R) rfl _ _ p10 m7)
  · rcases k3 y u (up h) with z | z | z
    · exact absurd z (old h).1
    · exact .inl (bb z)
    · rcases m5 y u z with z | z | z | z
      · exact absurd z (old h).1
      · exact absurd z (noo h)
      · exact .inl (bb z)
      · exact .inr z
  · obtain ⟨u, h⟩ := hy
    have hF2 : F2 y = none := k2 y ⟨u, up h⟩ hF
    by_cases hb : (RS R.K R.mg R.sa []).bad y
    · exact (m6.bad y hb).1
    · rcases k3 y u (up h) with z | z | z
      · exact absurd z (old h).1
      · exact absurd z hb
      · exact m4 y ⟨u, z⟩ (old h).1 (noo h) hb hF2
end Ev
/-! Pu1 -/
/-! Pu1: runs of the evaluator beside one another: other calls, other states. -/
namespace Ev

mutual
/-- the calls are of some names; s: the drawing state may be touched -/
def okE (p : String → Bool) (s : Bool) : E → Bool
  | .var _ => true | .mv _ => true | .int _ => true | .bl _ => true | .non => true | .str _ => true | .glb _ => true
  | .bin _ a b => okE p s a && okE p s b
  | .neg a => okE p s a
  | .inv a => okE p s a
  | .cmp _ a b => okE p s a && okE p s b
  | .isN a => okE p s a
  | .ntN a => okE p s a
  | .chain _ _ a b c => okE p s a && (okE p s b && okE p s c)
  | .and a b => okE p s a && okE p s b
  | .or a b => okE p s a && okE p s b
  | .not a => okE p s a
  | .ite c a b => okE p s c && (okE p s a && okE p s b)
  | .tup es => okEs p s es
  | .lst es => okEs p s es
  | .call f es => p f && okEs p s es
  | .lend f es => p f && okEs p s es
  | .meth _ _ f o es => p f && (okE p s o && okEs p s es)
  | .fld o _ => okE p s o
  | .bi _ es => okEs p s es
  | .bf _ es => okEs p s es
  | .isi a _ => okE p s a
  | .idx a b => okE p s a && okE p s b
  | .sl a lo hi => okE p s a && (okO p s lo && okO p s hi)
  | .sget _ _ => s | .snz _ => s | .spop _ => s
  | .lzip a b => okE p s a && okE p s b
  | .hin _ a h => s && (okE p s a && okE p s h)
  | .hlen h => s && okE p s h
  | .hkeys h => s && okE p s h
  | .hne h => s && okE p s h
  | .lc _ _ _ src c el => okEs p s src && (okO p s c && okE p s el)
def okEs (p : String → Bool) (s : Bool) : List E → Bool
  | [] => true
  | e :: es => okE p s e && okEs p s es
def okO (p : String → Bool) (s : Bool) : Option E → Bool
  | none => true
  | some e => okE p s e
end
mutual
def okS (p : String → Bool) (s : Bool) : S → Bool
  | .set _ e => okE p s e
  | .own _ e => okE p s e
  | .tset _ e => okE p s e
  | .par _ _ _ _ a b => okE p s a && okE p s b
  | .app _ e => okE p s e
  | .ext _ e => okE p s e
  | .appPop _ _ e => okE p s e
  | .put _ k v => okE p s k && okE p s v
  | .sput _ _ e => s && okE p s e
  | .hput h k v => s && (okE p s h && (okE p s k && okE p s v))
  | .hupd a b => s && (okE p s a && okE p s b)
  | .fst _ _ e => okE p s e
  | .ite c a b => okE p s c && (okL p s a && okL p s b)
  | .whl c b => okE p s c && okL p s b
  | .for _ _ src b => okEs p s src && okL p s b
  | .ret e => okE p s e
  | .ex e => okE p s e
  | .pass => true
  | .never => true
def okL (p : String → Bool) (s : Bool) : List S → Bool
  | [] => true
  | x :: r => okS p s x && okL p s r
end
/-- how two runs' states may stand to one another, and go on -/
structure RelS (s : Bool) where
  I : PSt → PSt → Prop
  T : PSt → PSt → PSt → PSt → Prop
  hd : ∀ {a b}, I a b → a.hd = b.hd
  rf : ∀ {a b}, I a b → T a b a b
  tr : ∀ {a b c d e f}, T a b c d → T c d e f → T a b e f
  kp : ∀ {a b c d}, I a b → T a b c d → I c d
  st : ∀ {a b}, s = true → I a b → a = b
  an : ∀ {a b}, s = true → T a a b b
def RelS.eq : RelS true := ⟨fun a b => a = b, fun a b c d => a = b → c = d, fun h => by rw [h], fun h => fun _ => h, fun h k z => k (h z), fun h k => k h, fun _ h => h, fun _ _ => rfl⟩
def RelS.pure : RelS false := ⟨fun a b => a.hd = b.hd, fun a b c d => c = a ∧ d = b, fun h => h, fun _ => ⟨rfl, rfl⟩, fun h k => by rw [k.1, k.2]; exact h, fun h k => by rw [k.1, k.2]; exact h, fun h => by (cases h), fun h => by (cases h)⟩
section
variable {s : Bool} (r : RelS s)
abbrev SimC (p : String → Bool) (cl cl' : Cl) : Prop := ∀ f, p f = true → ∀ ds a b d a', r.I a b → cl f ds a = some (d, a') → ∃ b', cl' f ds b = some (d, b') ∧ r.T a b a' b'
abbrev SimF {α : Type} (m m' : Env → PSt → Option (α × Env × PSt)) : Prop := ∀ ρ a b x ρ' a', r.I a b → m ρ a = some (x, ρ', a') → ∃ b', m' ρ b = some (x, ρ', b') ∧ r.T a b a' b'
theorem lcLoop_sim {f f' : D → Env → PSt → Option (Option D × Env × PSt)} (h : ∀ d, SimF r (f d) (f' d)) : ∀ ds, SimF r (lcLoop f ds) (lcLoop f' ds)
  | [], ρ, a, b, x, ρ', a', i, e => by
    simp only [lcLoop] at e ⊢
    cases e
    exact ⟨b, rfl, r.rf i⟩
  | d :: ds, ρ, a, b, x, ρ', a', i, e => by
    simp only [lcLoop] at e ⊢
    cases h1 : f d ρ a with
    | none => rw [h1] at e; cases e
    | some q =>
      obtain ⟨x1, ρ1, a1⟩ := q
      obtain ⟨b1, e1, t1⟩ := h d ρ a b _ _ _ i h1
      rw [h1] at e
      simp only [e1] at e ⊢
      cases h2 : lcLoop f ds ρ1 a1 with
      | none => rw [h2] at e; cases e
      | some q =>
        obtain ⟨x2, ρ2, a2⟩ := q
        obtain ⟨b2, e2, t2⟩ := lcLoop_sim h ds ρ1 a1 b1 _ _ _ (r.kp i t1) h2
        rw [h2] at e
        simp only [e2] at e ⊢
        cases e
        exact ⟨b2, rfl, r.tr t1 t2⟩
theorem forL_sim {f f' : D → Env → PSt → Option (Out × Env × PSt)} (h : ∀ d, SimF r (f d) (f' d)) : ∀ ds, SimF r (forL f ds) (forL f' ds)
  | [], ρ, a, b, x, ρ', a', i, e => by
    simp only [forL] at e ⊢
    cases e
    exact ⟨b, rfl, r.rf i⟩
  | d :: ds, ρ, a, b, x, ρ', a', i, e => by
    simp only [forL] at e ⊢
    cases h1 : f d ρ a with
    | none => rw [h1] at e; cases e
    | some q =>
      obtain ⟨x1, ρ1, a1⟩ := q
      obtain ⟨b1, e1, t1⟩ := h d ρ a b _ _ _ i h1
      rw [h1] at e
      cases x1 with
      | nx =>
        simp only [e1] at e ⊢
        obtain ⟨b2, e2, t2⟩ := forL_sim h ds ρ1 a1 b1 _ _ _ (r.kp i t1) e
        exact ⟨b2, e2, r.tr t1 t2⟩
      | rt v =>
        simp only [e1] at e ⊢
        cases e
        exact ⟨b1, rfl, t1⟩
theorem whlL_sim {c c' : Env → PSt → Option (D × Env × PSt)} {f f' : Env → PSt → Option (Out × Env × PSt)} (hc : SimF r c c') (h : SimF r f f') : ∀ n, SimF r (whlL c f n) (whlL c' f' n)
  | 0, ρ, a, b, x, ρ', a', i, e => by simp only [whlL] at e; cases e
  | n + 1, ρ, a, b, x, ρ', a', i, e => by
    simp only [whlL] at e ⊢
    split at e
    · rename_i ρ1 a1 h1
      obtain ⟨b1, e1, t1⟩ := hc ρ a b _ _ _ i h1
      simp only [e1]
      split at e
      · cases e
      · rename_i ρ2 a2 h2
        obtain ⟨b2, e2, t2⟩ := h ρ1 a1 b1 _ _ _ (r.kp i t1) h2
        simp only [e2]
        obtain ⟨b3, e3, t3⟩ := whlL_sim hc h n ρ2 a2 b2 _ _ _ (r.kp (r.kp i t1) t2) e
        exact ⟨b3, e3, r.tr (r.tr t1 t2) t3⟩
      · rename_i v ρ2 a2 h2
        obtain ⟨b2, e2, t2⟩ := h ρ1 a1 b1 _ _ _ (r.kp i t1) h2
        simp only [e2]
        cases e
        exact ⟨b2, rfl, r.tr t1 t2⟩
    · rename_i ρ1 a1 h1
      obtain ⟨b1, e1, t1⟩ := hc ρ a b _ _ _ i h1
      simp only [e1]
      cases e
      exact ⟨b1, rfl, t1⟩
    · cases e
end
end Ev
/-! Pu2 -/
/-! Pu2: the evaluator's runs beside one another. -/
namespace Ev
section
variable {s : Bool} (r : RelS s) {cl cl' : Cl}
theorem lcBody_sim (own : List Nat) (tg : Tg) (c : Option E) (hc : SimF r (evO' cl c) (evO' cl' c)) (el : E) (he : SimF r (evE cl el) (evE cl' el)) (d : D) :
    SimF r (fun ρ st => match bindD tg d ρ with | none => none | some ρ1 => match evO' cl c ρ1 st with | some (.bl true, ρ2, st2) => (match evE cl el ρ2 st2 with | none => none | some (y, ρ3, st3) => some (some y, wipeE ρ3 own, st3)) | some (.bl false, ρ2, st2) => some (none, wipeE ρ2 own, st2) | _ => none)
      (fun ρ st => match bindD tg d ρ with | none => none | some ρ1 => match evO' cl' c ρ1 st with | some (.bl true, ρ2, st2) => (match evE cl' el ρ2 st2 with | none => none | some (y, ρ3, st3) => some (some y, wipeE ρ3 own, st3)) | some (.bl false, ρ2, st2) => some (none, wipeE ρ2 own, st2) | _ => none) := by
  intro ρ0 a0 b0 x ρ' a' i0 e
  simp only at e ⊢
  cases hb : bindD tg d ρ0 with
  | none => rw [hb] at e; cases e
  | some ρb =>
  rw [hb] at e
  simp only at e ⊢
  cases h1 : evO' cl c ρb a0 with
  | none => rw [h1] at e; cases e
  | some q1 =>
  obtain ⟨x1, ρ1, a1⟩ := q1
  obtain ⟨b1, e1, t1⟩ := hc ρb a0 b0 _ _ _ i0 h1
  have i1 := r.kp i0 t1
  rw [h1] at e
  simp only [e1] at e ⊢
  cases x1 with
  | bl z =>
    cases z with
    | true =>
      simp only at e ⊢
      cases h2 : evE cl el ρ1 a1 with
      | none => rw [h2] at e; cases e
      | some q2 =>
      obtain ⟨x2, ρ2, a2⟩ := q2
      obtain ⟨b2, e2, t2⟩ := he ρ1 a1 b1 _ _ _ i1 h2
      rw [h2] at e
      simp only [e2] at e ⊢
      cases e
      exact ⟨b2, rfl, r.tr t1 t2⟩
    | false =>
      simp only at e ⊢
      cases e
      exact ⟨b1, rfl, t1⟩
  | _ => simp only at e; cases e
end
section
variable {s : Bool} (r : RelS s) {p : String → Bool} {cl cl' : Cl} (hc : SimC r p cl cl')
include hc
mutual
theorem evE_sim : ∀ (e : E), okE p s e = true → SimF r (evE cl e) (evE cl' e)
  | .var j, o, ρ0, a0, b0, x, ρ', a', i0, e => by
    simp only [evE] at e ⊢
    split at e
    · rename_i z d hz; cases e; exact ⟨b0, rfl, r.rf i0⟩
    · cases e
  | .mv j, o, ρ0, a0, b0, x, ρ', a', i0, e => by
    simp only [evE] at e ⊢
    split at e
    · rename_i z d hz; cases e; exact ⟨b0, rfl, r.rf i0⟩
    · cases e
  | .int j, o, ρ0, a0, b0, x, ρ', a', i0, e => by
    simp only [evE] at e ⊢
    cases e
    exact ⟨b0, rfl, r.rf i0⟩
  | .bl j, o, ρ0, a0, b0, x, ρ', a', i0, e => by
    simp only [evE] at e ⊢
    cases e
    exact ⟨b0, rfl, r.rf i0⟩
  | .non, o, ρ0, a0, b0, x, ρ', a', i0, e => by
    simp only [evE] at e ⊢
    cases e
    exact ⟨b0, rfl, r.rf i0⟩
  | .str j, o, ρ0, a0, b0, x, ρ', a', i0, e => by
    simp only [evE] at e ⊢
    cases e
    exact ⟨b0, rfl, r.rf i0⟩
  | .glb j, o, ρ0, a0, b0, x, ρ', a', i0, e => by
    simp only [evE] at e ⊢
    cases e
    exact ⟨b0, rfl, r.rf i0⟩
  | .bin f a b, o, ρ0, a0, b0, x, ρ', a', i0, e => by
    simp only [evE] at e ⊢
    simp only [okE, Bool.and_eq_true] at o
    cases h1 : evE cl a ρ0 a0 with
    | none => rw [h1] at e; cases e
    | some q1 =>
    obtain ⟨x1, ρ1, a1⟩ := q1
    obtain ⟨b1, e1, t1⟩ := evE_sim a o.1 ρ0 a0 b0 _ _ _ i0 h1
    have i1 := r.kp i0 t1
    rw [h1] at e
    simp only [e1] at e ⊢
    cases h2 : evE cl b ρ1 a1 with
    | none => rw [h2] at e; cases e
    | some q2 =>
    obtain ⟨x2, ρ2, a2⟩ := q2
    obtain ⟨b2, e2, t2⟩ := evE_sim b o.2 ρ1 a1 b1 _ _ _ i1 h2
    have i2 := r.kp i1 t2
    rw [h2] at e
    simp only [e2] at e ⊢
    split at e
    · cases e
    · rename_i z hz; cases e; exact ⟨_, rfl, (r.tr t1 t2)⟩
  | .neg a, o, ρ0, a0, b0, x, ρ', a', i0, e => by
    simp only [evE] at e ⊢
    simp only [okE] at o
    cases h1 : evE cl a ρ0 a0 with
    | none => rw [h1] at e; cases e
    | some q1 =>
    obtain ⟨x1, ρ1, a1⟩ := q1
    obtain ⟨b1, e1, t1⟩ := evE_sim a o ρ0 a0 b0 _ _ _ i0 h1
    have i1 := r.kp i0 t1
    rw [h1] at e
    simp only [e1] at e ⊢
    cases x1 <;> simp only at e ⊢ <;> cases e
    exact ⟨b1, rfl, t1⟩
  | .inv a, o, ρ0, a0, b0, x, ρ', a', i0, e => by
    simp only [evE] at e ⊢
    simp only [okE] at o
    cases h1 : evE cl a ρ0 a0 with
    | none => rw [h1] at e; cases e
    | some q1 =>
    obtain ⟨x1, ρ1, a1⟩ := q1
    obtain ⟨b1, e1, t1⟩ := evE_sim a o ρ0 a0 b0 _ _ _ i0 h1
    have i1 := r.kp i0 t1
    rw [h1] at e
    simp only [e1] at e ⊢
    cases x1 <;> simp only at e ⊢ <;> cases e
    exact ⟨b1, rfl, t1⟩
  | .cmp f a b, o, ρ0, a0, b0, x, ρ', a', i0, e => by
    simp only [evE] at e ⊢
    simp only [okE, Bool.and_eq_true] at o
    cases h1 : evE cl a ρ0 a0 with
    | none => rw [h1] at e; cases e
    | some q1 =>
    obtain ⟨x1, ρ1, a1⟩ := q1
    obtain ⟨b1, e1, t1⟩ := evE_sim a o.1 ρ0 a0 b0 _ _ _ i0 h1
    have i1 := r.kp i0 t1
    rw [h1] at e
    simp only [e1] at e ⊢
    cases h2 : evE cl b ρ1 a1 with
    | none => rw [h2] at e; cases e
    | some q2 =>
    obtain ⟨x2, ρ2, a2⟩ := q2
    obtain ⟨b2, e2, t2⟩ := evE_sim b o.2 ρ1 a1 b1 _ _ _ i1 h2
    have i2 := r.kp i1 t2
    rw [h2] at e
    simp only [e2] at e ⊢
    split at e
    · cases e
    · rename_i z hz; cases e; exact ⟨_, rfl, (r.tr t1 t2)⟩
  | .isN a, o, ρ0, a0, b0, x, ρ', a', i0, e => by
    simp only [evE] at e ⊢
    simp only [okE] at o
    cases h1 : evE cl a ρ0 a0 with
    | none => rw [h1] at e; cases e
    | some q1 =>
    obtain ⟨x1, ρ1, a1⟩ := q1
    obtain ⟨b1, e1, t1⟩ := evE_sim a o ρ0 a0 b0 _ _ _ i0 h1
    have i1 := r.kp i0 t1
    rw [h1] at e
    simp only [e1] at e ⊢
    cases e
    exact ⟨b1, rfl, t1⟩
  | .ntN a, o, ρ0, a0, b0, x, ρ', a', i0, e => by
    simp only [evE] at e ⊢
    simp only [okE] at o
    cases h1 : evE cl a ρ0 a0 with
    | none => rw [h1] at e; cases e
    | some q1 =>
    obtain ⟨x1, ρ1, a1⟩ := q1
    obtain ⟨b1, e1, t1⟩ := evE_sim a o ρ0 a0 b0 _ _ _ i0 h1
    have i1 := r.kp i0 t1
    rw [h1] at e
    simp only [e1] at e ⊢
    cases e
    exact ⟨b1, rfl, t1⟩
  | .chain f g a b c, o, ρ0, a0, b0, x, ρ', a', i0, e => by
    simp only [evE] at e ⊢
    simp only [okE, Bool.and_eq_true] at o
    cases h1 : evE cl a ρ0 a0 with
    | none => rw [h1] at e; cases e
    | some q1 =>
    obtain ⟨x1, ρ1, a1⟩ := q1
    obtain ⟨b1, e1, t1⟩ := evE_sim a o.1 ρ0 a0 b0 _ _ _ i0 h1
    have i1 := r.kp i0 t1
    rw [h1] at e
    simp only [e1] at e ⊢
    cases h2 : evE cl b ρ1 a1 with
    | none => rw [h2] at e; cases e
    | some q2 =>
    obtain ⟨x2, ρ2, a2⟩ := q2
    obtain ⟨b2, e2, t2⟩ := evE_sim b o.2.1 ρ1 a1 b1 _ _ _ i1 h2
    have i2 := r.kp i1 t2
    rw [h2] at e
    simp only [e2] at e ⊢
    cases hz : cmpD f x1 x2 with
    | none => rw [hz] at e; cases e
    | some z =>
    rw [hz] at e
    cases z with
    | false => simp only at e ⊢; cases e; exact ⟨b2, rfl, r.tr t1 t2⟩
    | true =>
    simp only at e ⊢
    cases h3 : evE cl c ρ2 a2 with
    | none => rw [h3] at e; cases e
    | some q3 =>
    obtain ⟨x3, ρ3, a3⟩ := q3
    obtain ⟨b3, e3, t3⟩ := evE_sim c o.2.2 ρ2 a2 b2 _ _ _ i2 h3
    have i3 := r.kp i2 t3
    rw [h3] at e
    simp only [e3] at e ⊢
    split at e
    · cases e
    · rename_i z hz; cases e; exact ⟨_, rfl, (r.tr (r.tr t1 t2) t3)⟩
  | .and a b, o, ρ0, a0, b0, x, ρ', a', i0, e => by
    simp only [evE] at e ⊢
    simp only [okE, Bool.and_eq_true] at o
    cases h1 : evE cl a ρ0 a0 with
    | none => rw [h1] at e; cases e
    | some q1 =>
    obtain ⟨x1, ρ1, a1⟩ := q1
    obtain ⟨b1, e1, t1⟩ := evE_sim a o.1 ρ0 a0 b0 _ _ _ i0 h1
    have i1 := r.kp i0 t1
    rw [h1] at e
    simp only [e1] at e ⊢
    cases x1 with
    | bl z =>
      cases z with
      | true =>
        simp only at e ⊢
        obtain ⟨b2, e2, t2⟩ := evE_sim b o.2 ρ1 a1 b1 _ _ _ i1 e
        exact ⟨b2, e2, r.tr t1 t2⟩
      | false =>
        simp only at e ⊢
        cases e
        exact ⟨b1, rfl, t1⟩
    | _ => simp only at e; cases e
  | .or a b, o, ρ0, a0, b0, x, ρ', a', i0, e => by
    simp only [evE] at e ⊢
    simp only [okE, Bool.and_eq_true] at o
    cases h1 : evE cl a ρ0 a0 with
    | none => rw [h1] at e; cases e
    | some q1 =>
    obtain ⟨x1, ρ1, a1⟩ := q1
    obtain ⟨b1, e1, t1⟩ := evE_sim a o.1 ρ0 a0 b0 _ _ _ i0 h1
    have i1 := r.kp i0 t1
    rw [h1] at e
    simp only [e1] at e ⊢
    cases x1 with
    | bl z =>
      cases z with
      | true =>
        simp only at e ⊢
        cases e
        exact ⟨b1, rfl, t1⟩
      | false =>
        simp only at e ⊢
        obtain ⟨b2, e2, t2⟩ := evE_sim b o.2 ρ1 a1 b1 _ _ _ i1 e
        exact ⟨b2, e2, r.tr t1 t2⟩
    | _ => simp only at e; cases e
  | .not a, o, ρ0, a0, b0, x, ρ', a', i0, e => by
    simp only [evE] at e ⊢
    simp only [okE] at o
    cases h1 : evE cl a ρ0 a0 with
    | none => rw [h1] at e; cases e
    | some q1 =>
    obtain ⟨x1, ρ1, a1⟩ := q1
    obtain ⟨b1, e1, t1⟩ := evE_sim a o ρ0 a0 b0 _ _ _ i0 h1
    have i1 := r.kp i0 t1
    rw [h1] at e
    simp only [e1] at e ⊢
    cases x1 <;> simp only at e ⊢ <;> cases e
    exact ⟨b1, rfl, t1⟩
  | .ite c a b, o, ρ0, a0, b0, x, ρ', a', i0, e => by
    simp only [evE] at e ⊢
    simp only [okE, Bool.and_eq_true] at o
    cases h1 : evE cl c ρ0 a0 with
    | none => rw [h1] at e; cases e
    | some q1 =>
    obtain ⟨x1, ρ1, a1⟩ := q1
    obtain ⟨b1, e1, t1⟩ := evE_sim c o.1 ρ0 a0 b0 _ _ _ i0 h1
    have i1 := r.kp i0 t1
    rw [h1] at e
    simp only [e1] at e ⊢
    cases x1 with
    | bl z =>
      cases z with
      | true =>
        simp only at e ⊢
        obtain ⟨b2, e2, t2⟩ := evE_sim a o.2.1 ρ1 a1 b1 _ _ _ i1 e
        exact ⟨b2, e2, r.tr t1 t2⟩
      | false =>
        simp only at e ⊢
        obtain ⟨b2, e2, t2⟩ := evE_sim b o.2.2 ρ1 a1 b1 _ _ _ i1 e
        exact ⟨b2, e2, r.tr t1 t2⟩
    | _ => simp only at e; cases e
  | .tup es, o, ρ0, a0, b0, x, ρ', a', i0, e => by
    simp only [evE] at e ⊢
    simp only [okE] at o
    cases h1 : evEs cl es ρ0 a0 with
    | none => rw [h1] at e; cases e
    | some q1 =>
    obtain ⟨x1, ρ1, a1⟩ := q1
    obtain ⟨b1, e1, t1⟩ := evEs_sim es o ρ0 a0 b0 _ _ _ i0 h1
    have i1 := r.kp i0 t1
    rw [h1] at e
    simp only [e1] at e ⊢
    cases e
    exact ⟨b1, rfl, t1⟩
  | .lst es, o, ρ0, a0, b0, x, ρ', a', i0, e => by
    simp only [evE] at e ⊢
    simp only [okE] at o
    cases h1 : evEs cl es ρ0 a0 with
    | none => rw [h1] at e; cases e
    | some q1 =>
    obtain ⟨x1, ρ1, a1⟩ := q1
    obtain ⟨b1, e1, t1⟩ := evEs_sim es o ρ0 a0 b0 _ _ _ i0 h1
    have i1 := r.kp i0 t1
    rw [h1] at e
    simp only [e1] at e ⊢
    cases e
    exact ⟨b1, rfl, t1⟩
  | .call f es, o, ρ0, a0, b0, x, ρ', a', i0, e => by
    simp only [evE] at e ⊢
    simp only [okE, Bool.and_eq_true] at o
    have hf := o.1
    cases h1 : evEs cl es ρ0 a0 with
    | none => rw [h1] at e; cases e
    | some q1 =>
    obtain ⟨x1, ρ1, a1⟩ := q1
    obtain ⟨b1, e1, t1⟩ := evEs_sim es o.2 ρ0 a0 b0 _ _ _ i0 h1
    have i1 := r.kp i0 t1
    rw [h1] at e
    simp only [e1] at e ⊢
    cases h2 : cl f x1 a1 with
    | none => rw [h2] at e; cases e
    | some q2 =>
    obtain ⟨x2, a2⟩ := q2
    obtain ⟨b2, e2, t2⟩ := hc f hf x1 a1 b1 _ _ i1 h2
    have i2 := r.kp i1 t2
    rw [h2] at e
    simp only [e2] at e ⊢
    cases e
    exact ⟨b2, rfl, (r.tr t1 t2)⟩
  | .lend f es, o, ρ0, a0, b0, x, ρ', a', i0, e => by
    simp only [evE] at e ⊢
    simp only [okE, Bool.and_eq_true] at o
    have hf := o.1
    cases h1 : evEs cl es ρ0 a0 with
    | none => rw [h1] at e; cases e
    | some q1 =>
    obtain ⟨x1, ρ1, a1⟩ := q1
    obtain ⟨b1, e1, t1⟩ := evEs_sim es o.2 ρ0 a0 b0 _ _ _ i0 h1
    have i1 := r.kp i0 t1
    rw [h1] at e
    simp only [e1] at e ⊢
    cases h2 : cl f x1 a1 with
    | none => rw [h2] at e; cases e
    | some q2 =>
    obtain ⟨x2, a2⟩ := q2
    obtain ⟨b2, e2, t2⟩ := hc f hf x1 a1 b1 _ _ i1 h2
    have i2 := r.kp i1 t2
    rw [h2] at e
    simp only [e2] at e ⊢
    have hh := r.hd i2
    split at e
    · rename_i z; cases e; rw [← hh]; rw [if_pos z]; exact ⟨b2, rfl, r.tr t1 t2⟩
    · cases e
  | .meth C m f ob es, o, ρ0, a0, b0, x, ρ', a', i0, e => by
    simp only [evE] at e ⊢
    simp only [okE, Bool.and_eq_true] at o
    have hf := o.1
    cases h1 : evE cl ob ρ0 a0 with
    | none => rw [h1] at e; cases e
    | some q1 =>
    obtain ⟨x1, ρ1, a1⟩ := q1
    obtain ⟨b1, e1, t1⟩ := evE_sim ob o.2.1 ρ0 a0 b0 _ _ _ i0 h1
    have i1 := r.kp i0 t1
    rw [h1] at e
    simp only [e1] at e ⊢
    cases x1 with
    | ins C' fs xs =>
    simp only at e ⊢
    split at e
    · rename_i z
      rw [if_pos z]
      cases h2 : evEs cl es ρ1 a1 with
      | none => rw [h2] at e; cases e
      | some q2 =>
      obtain ⟨x2, ρ2, a2⟩ := q2
      obtain ⟨b2, e2, t2⟩ := evEs_sim es o.2.2 ρ1 a1 b1 _ _ _ i1 h2
      have i2 := r.kp i1 t2
      rw [h2] at e
      simp only [e2] at e ⊢
      cases h3 : cl f (.ins C' fs xs :: x2) a2 with
      | none => rw [h3] at e; cases e
      | some q3 =>
      obtain ⟨x3, a3⟩ := q3
      obtain ⟨b3, e3, t3⟩ := hc f hf (.ins C' fs xs :: x2) a2 b2 _ _ i2 h3
      have i3 := r.kp i2 t3
      rw [h3] at e
      simp only [e3] at e ⊢
      cases e
      exact ⟨b3, rfl, (r.tr (r.tr t1 t2) t3)⟩
    · cases e
    | _ => simp only at e; cases e
  | .fld a f, o, ρ0, a0, b0, x, ρ', a', i0, e => by
    simp only [evE] at e ⊢
    simp only [okE] at o
    cases h1 : evE cl a ρ0 a0 with
    | none => rw [h1] at e; cases e
    | some q1 =>
    obtain ⟨x1, ρ1, a1⟩ := q1
    obtain ⟨b1, e1, t1⟩ := evE_sim a o ρ0 a0 b0 _ _ _ i0 h1
    have i1 := r.kp i0 t1
    rw [h1] at e
    simp only [e1] at e ⊢
    cases x1 with
    | ins C' fs xs =>
    simp only at e ⊢
    split at e
    · cases e
    · rename_i z hz; cases e; exact ⟨_, rfl, t1⟩
    | _ => simp only at e; cases e
  | .bi f es, o, ρ0, a0, b0, x, ρ', a', i0, e => by
    simp only [evE] at e ⊢
    simp only [okE] at o
    cases h1 : evEs cl es ρ0 a0 with
    | none => rw [h1] at e; cases e
    | some q1 =>
    obtain ⟨x1, ρ1, a1⟩ := q1
    obtain ⟨b1, e1, t1⟩ := evEs_sim es o ρ0 a0 b0 _ _ _ i0 h1
    have i1 := r.kp i0 t1
    rw [h1] at e
    simp only [e1] at e ⊢
    split at e
    · cases e
    · rename_i z hz; cases e; exact ⟨_, rfl, t1⟩
  | .bf f es, o, ρ0, a0, b0, x, ρ', a', i0, e => by
    simp only [evE] at e ⊢
    simp only [okE] at o
    cases h1 : evEs cl es ρ0 a0 with
    | none => rw [h1] at e; cases e
    | some q1 =>
    obtain ⟨x1, ρ1, a1⟩ := q1
    obtain ⟨b1, e1, t1⟩ := evEs_sim es o ρ0 a0 b0 _ _ _ i0 h1
    have i1 := r.kp i0 t1
    rw [h1] at e
    simp only [e1] at e ⊢
    split at e
    · cases e
    · rename_i z hz; cases e; exact ⟨_, rfl, t1⟩
  | .isi a ts, o, ρ0, a0, b0, x, ρ', a', i0, e => by
    simp only [evE] at e ⊢
    simp only [okE] at o
    cases h1 : evE cl a ρ0 a0 with
    | none => rw [h1] at e; cases e
    | some q1 =>
    obtain ⟨x1, ρ1, a1⟩ := q1
    obtain ⟨b1, e1, t1⟩ := evE_sim a o ρ0 a0 b0 _ _ _ i0 h1
    have i1 := r.kp i0 t1
    rw [h1] at e
    simp only [e1] at e ⊢
    split at e
    · cases e
    · rename_i z hz; cases e; exact ⟨_, rfl, t1⟩
  | .idx a b, o, ρ0, a0, b0, x, ρ', a', i0, e => by
    simp only [evE] at e ⊢
    simp only [okE, Bool.and_eq_true] at o
    cases h1 : evE cl a ρ0 a0 with
    | none => rw [h1] at e; cases e
    | some q1 =>
    obtain ⟨x1, ρ1, a1⟩ := q1
    obtain ⟨b1, e1, t1⟩ := evE_sim a o.1 ρ0 a0 b0 _ _ _ i0 h1
    have i1 := r.kp i0 t1
    rw [h1] at e
    simp only [e1] at e ⊢
    cases h2 : evE cl b ρ1 a1 with
    | none => rw [h2] at e; cases e
    | some q2 =>
    obtain ⟨x2, ρ2, a2⟩ := q2
    obtain ⟨b2, e2, t2⟩ := evE_sim b o.2 ρ1 a1 b1 _ _ _ i1 h2
    have i2 := r.kp i1 t2
    rw [h2] at e
    simp only [e2] at e ⊢
    split at e
    · cases e
    · rename_i z hz; cases e; exact ⟨_, rfl, (r.tr t1 t2)⟩
  | .sl a lo hi, o, ρ0, a0, b0, x, ρ', a', i0, e => by
    simp only [evE] at e ⊢
    simp only [okE, Bool.and_eq_true] at o
    cases h1 : evE cl a ρ0 a0 with
    | none => rw [h1] at e; cases e
    | some q1 =>
    obtain ⟨x1, ρ1, a1⟩ := q1
    obtain ⟨b1, e1, t1⟩ := evE_sim a o.1 ρ0 a0 b0 _ _ _ i0 h1
    have i1 := r.kp i0 t1
    rw [h1] at e
    simp only [e1] at e ⊢
    cases h2 : evO cl lo ρ1 a1 with
    | none => rw [h2] at e; cases e
    | some q2 =>
    obtain ⟨x2, ρ2, a2⟩ := q2
    obtain ⟨b2, e2, t2⟩ := evO_sim lo o.2.1 ρ1 a1 b1 _ _ _ i1 h2
    have i2 := r.kp i1 t2
    rw [h2] at e
    simp only [e2] at e ⊢
    cases h3 : evO cl hi ρ2 a2 with
    | none => rw [h3] at e; cases e
    | some q3 =>
    obtain ⟨x3, ρ3, a3⟩ := q3
    obtain ⟨b3, e3, t3⟩ := evO_sim hi o.2.2 ρ2 a2 b2 _ _ _ i2 h3
    have i3 := r.kp i2 t3
    rw [h3] at e
    simp only [e3] at e ⊢
    split at e
    · cases e
    · rename_i z hz; cases e; exact ⟨_, rfl, (r.tr (r.tr t1 t2) t3)⟩
  | .sget j k, o, ρ0, a0, b0, x, ρ', a', i0, e => by
    simp only [evE] at e ⊢
    simp only [okE] at o
    cases r.st o i0
    refine ⟨a', ?_, r.an o⟩
    exact e
  | .snz j, o, ρ0, a0, b0, x, ρ', a', i0, e => by
    simp only [evE] at e ⊢
    simp only [okE] at o
    cases r.st o i0
    refine ⟨a', ?_, r.an o⟩
    exact e
  | .spop j, o, ρ0, a0, b0, x, ρ', a', i0, e => by
    simp only [evE] at e ⊢
    simp only [okE] at o
    cases r.st o i0
    exact ⟨a', e, r.an o⟩
  | .lzip a b, o, ρ0, a0, b0, x, ρ', a', i0, e => by
    simp only [evE] at e ⊢
    simp only [okE, Bool.and_eq_true] at o
    cases h1 : evE cl a ρ0 a0 with
    | none => rw [h1] at e; cases e
    | some q1 =>
    obtain ⟨x1, ρ1, a1⟩ := q1
    obtain ⟨b1, e1, t1⟩ := evE_sim a o.1 ρ0 a0 b0 _ _ _ i0 h1
    have i1 := r.kp i0 t1
    rw [h1] at e
    simp only [e1] at e ⊢
    cases h2 : evE cl b ρ1 a1 with
    | none => rw [h2] at e; cases e
    | some q2 =>
    obtain ⟨x2, ρ2, a2⟩ := q2
    obtain ⟨b2, e2, t2⟩ := evE_sim b o.2 ρ1 a1 b1 _ _ _ i1 h2
    have i2 := r.kp i1 t2
    rw [h2] at e
    simp only [e2] at e ⊢
    split at e
    · split at e
      · rename_i z; rw [if_pos z]; cases e; exact ⟨b2, rfl, r.tr t1 t2⟩
      · cases e
    · cases e
  | .hin ng a h, o, ρ0, a0, b0, x, ρ', a', i0, e => by
    simp only [evE] at e ⊢
    simp only [okE, Bool.and_eq_true] at o
    have hs := o.1
    cases h1 : evE cl a ρ0 a0 with
    | none => rw [h1] at e; cases e
    | some q1 =>
    obtain ⟨x1, ρ1, a1⟩ := q1
    obtain ⟨b1, e1, t1⟩ := evE_sim a o.2.1 ρ0 a0 b0 _ _ _ i0 h1
    have i1 := r.kp i0 t1
    rw [h1] at e
    simp only [e1] at e ⊢
    cases h2 : evE cl h ρ1 a1 with
    | none => rw [h2] at e; cases e
    | some q2 =>
    obtain ⟨x2, ρ2, a2⟩ := q2
    obtain ⟨b2, e2, t2⟩ := evE_sim h o.2.2 ρ1 a1 b1 _ _ _ i1 h2
    have i2 := r.kp i1 t2
    rw [h2] at e
    simp only [e2] at e ⊢
    cases r.st hs i2
    refine ⟨a', e, ?_⟩
    cases r.st hs i0
    exact r.an hs
  | .hlen h, o, ρ0, a0, b0, x, ρ', a', i0, e => by
    simp only [evE] at e ⊢
    simp only [okE, Bool.and_eq_true] at o
    have hs := o.1
    cases h1 : evE cl h ρ0 a0 with
    | none => rw [h1] at e; cases e
    | some q1 =>
    obtain ⟨x1, ρ1, a1⟩ := q1
    obtain ⟨b1, e1, t1⟩ := evE_sim h o.2 ρ0 a0 b0 _ _ _ i0 h1
    have i1 := r.kp i0 t1
    rw [h1] at e
    simp only [e1] at e ⊢
    cases r.st hs i1
    refine ⟨a', e, ?_⟩
    cases r.st hs i0
    exact r.an hs
  | .hkeys h, o, ρ0, a0, b0, x, ρ', a', i0, e => by
    simp only [evE] at e ⊢
    simp only [okE, Bool.and_eq_true] at o
    have hs := o.1
    cases h1 : evE cl h ρ0 a0 with
    | none => rw [h1] at e; cases e
    | some q1 =>
    obtain ⟨x1, ρ1, a1⟩ := q1
    obtain ⟨b1, e1, t1⟩ := evE_sim h o.2 ρ0 a0 b0 _ _ _ i0 h1
    have i1 := r.kp i0 t1
    rw [h1] at e
    simp only [e1] at e ⊢
    cases r.st hs i1
    refine ⟨a', e, ?_⟩
    cases r.st hs i0
    exact r.an hs
  | .hne h, o, ρ0, a0, b0, x, ρ', a', i0, e => by
    simp only [evE] at e ⊢
    simp only [okE, Bool.and_eq_true] at o
    have hs := o.1
    cases h1 : evE cl h ρ0 a0 with
    | none => rw [h1] at e; cases e
    | some q1 =>
    obtain ⟨x1, ρ1, a1⟩ := q1
    obtain ⟨b1, e1, t1⟩ := evE_sim h o.2 ρ0 a0 b0 _ _ _ i0 h1
    have i1 := r.kp i0 t1
    rw [h1] at e
    simp only [e1] at e ⊢
    cases r.st hs i1
    refine ⟨a', e, ?_⟩
    cases r.st hs i0
    exact r.an hs
  | .lc own tg k src c el, o, ρ0, a0, b0, x, ρ', a', i0, e => by
    simp only [evE] at e ⊢
    simp only [okE, Bool.and_eq_true] at o
    cases h1 : evEs cl src ρ0 a0 with
    | none => rw [h1] at e; cases e
    | some q1 =>
    obtain ⟨x1, ρ1, a1⟩ := q1
    obtain ⟨b1, e1, t1⟩ := evEs_sim src o.1 ρ0 a0 b0 _ _ _ i0 h1
    have i1 := r.kp i0 t1
    rw [h1] at e
    simp only [e1] at e ⊢
    cases hz : srcD k x1 with
    | none => rw [hz] at e; cases e
    | some xs =>
    rw [hz] at e
    simp only at e ⊢
    have L := lcLoop_sim r (f := fun x ρ st => match bindD tg x ρ with | none => none | some ρ1 => match evO' cl c ρ1 st with | some (.bl true, ρ2, st2) => (match evE cl el ρ2 st2 with | none => none | some (y, ρ3, st3) => some (some y, wipeE ρ3 own, st3)) | some (.bl false, ρ2, st2) => some (none, wipeE ρ2 own, st2) | _ => none) (f' := fun x ρ st => match bindD tg x ρ with | none => none | some ρ1 => match evO' cl' c ρ1 st with | some (.bl true, ρ2, st2) => (match evE cl' el ρ2 st2 with | none => none | some (y, ρ3, st3) => some (some y, wipeE ρ3 own, st3)) | some (.bl false, ρ2, st2) => some (none, wipeE ρ2 own, st2) | _ => none) (fun d => lcBody_sim r own tg c (evO'_sim c o.2.1) el (evE_sim el o.2.2) d) xs (wipeE ρ1 own) a1 b1
    split at e
    · cases e
    · rename_i h2
      obtain ⟨b2, e2, t2⟩ := L _ _ _ i1 h2
      erw [e2]
      simp only
      split at e
      · rename_i z; rw [if_pos z]; cases e; exact ⟨b2, rfl, r.tr t1 t2⟩
      · cases e
termination_by structural e => e
theorem evEs_sim : ∀ (es : List E), okEs p s es = true → SimF r (evEs cl es) (evEs cl' es)
  | [], o, ρ0, a0, b0, x, ρ', a', i0, e => by
    simp only [evEs] at e ⊢
    cases e
    exact ⟨b0, rfl, r.rf i0⟩
  | a :: es, o, ρ0, a0, b0, x, ρ', a', i0, e => by
    simp only [evEs] at e ⊢
    simp only [okEs, Bool.and_eq_true] at o
    cases h1 : evE cl a ρ0 a0 with
    | none => rw [h1] at e; cases e
    | some q1 =>
    obtain ⟨x1, ρ1, a1⟩ := q1
    obtain ⟨b1, e1, t1⟩ := evE_sim a o.1 ρ0 a0 b0 _ _ _ i0 h1
    have i1 := r.kp i0 t1
    rw [h1] at e
    simp only [e1] at e ⊢
    cases h2 : evEs cl es ρ1 a1 with
    | none => rw [h2] at e; cases e
    | some q2 =>
    obtain ⟨x2, ρ2, a2⟩ := q2
    obtain ⟨b2, e2, t2⟩ := evEs_sim es o.2 ρ1 a1 b1 _ _ _ i1 h2
    have i2 := r.kp i1 t2
    rw [h2] at e
    simp only [e2] at e ⊢
    cases e
    exact ⟨b2, rfl, (r.tr t1 t2)⟩
termination_by structural es => es
theorem evO_sim : ∀ (c : Option E), okO p s c = true → SimF r (evO cl c) (evO cl' c)
  | none, o, ρ0, a0, b0, x, ρ', a', i0, e => by
    simp only [evO] at e ⊢
    cases e
    exact ⟨b0, rfl, r.rf i0⟩
  | some a, o, ρ0, a0, b0, x, ρ', a', i0, e => by
    simp only [evO] at e ⊢
    simp only [okO] at o
    cases h1 : evE cl a ρ0 a0 with
    | none => rw [h1] at e; cases e
    | some q1 =>
    obtain ⟨x1, ρ1, a1⟩ := q1
    obtain ⟨b1, e1, t1⟩ := evE_sim a o ρ0 a0 b0 _ _ _ i0 h1
    have i1 := r.kp i0 t1
    rw [h1] at e
    simp only [e1] at e ⊢
    cases x1 <;> simp only at e ⊢ <;> cases e
    exact ⟨b1, rfl, t1⟩
termination_by structural c => c
theorem evO'_sim : ∀ (c : Option E), okO p s c = true → SimF r (evO' cl c) (evO' cl' c)
  | none, o, ρ0, a0, b0, x, ρ', a', i0, e => by
    simp only [evO'] at e ⊢
    cases e
    exact ⟨b0, rfl, r.rf i0⟩
  | some a, o, ρ0, a0, b0, x, ρ', a', i0, e => by
    simp only [evO'] at e ⊢
    simp only [okO] at o
    exact evE_sim a o ρ0 a0 b0 _ _ _ i0 e
termination_by structural c => c
end
end
end Ev
/-! Pu3 -/
/-! Pu3: statements' runs beside one another; calls. -/
namespace Ev
section
variable {s : Bool} (r : RelS s) {p : String → Bool} {cl cl' : Cl} (hc : SimC r p cl cl') (wf : Nat)
include hc
mutual
theorem exS_sim : ∀ (x : S), okS p s x = true → SimF r (exS cl wf x) (exS cl' wf x)
  | .set j a, o, ρ0, a0, b0, x, ρ', a', i0, e => by
    simp only [exS] at e ⊢
    simp only [okS] at o
    cases h1 : evE cl a ρ0 a0 with
    | none => rw [h1] at e; cases e
    | some q1 =>
    obtain ⟨x1, ρ1, a1⟩ := q1
    obtain ⟨b1, e1, t1⟩ := evE_sim r hc a o ρ0 a0 b0 _ _ _ i0 h1
    have i1 := r.kp i0 t1
    rw [h1] at e
    simp only [e1] at e ⊢
    cases e
    exact ⟨b1, rfl, t1⟩
  | .own j a, o, ρ0, a0, b0, x, ρ', a', i0, e => by
    simp only [exS] at e ⊢
    simp only [okS] at o
    cases h1 : evE cl a ρ0 a0 with
    | none => rw [h1] at e; cases e
    | some q1 =>
    obtain ⟨x1, ρ1, a1⟩ := q1
    obtain ⟨b1, e1, t1⟩ := evE_sim r hc a o ρ0 a0 b0 _ _ _ i0 h1
    have i1 := r.kp i0 t1
    rw [h1] at e
    simp only [e1] at e ⊢
    cases e
    exact ⟨b1, rfl, t1⟩
  | .tset is a, o, ρ0, a0, b0, x, ρ', a', i0, e => by
    simp only [exS] at e ⊢
    simp only [okS] at o
    cases h1 : evE cl a ρ0 a0 with
    | none => rw [h1] at e; cases e
    | some q1 =>
    obtain ⟨x1, ρ1, a1⟩ := q1
    obtain ⟨b1, e1, t1⟩ := evE_sim r hc a o ρ0 a0 b0 _ _ _ i0 h1
    have i1 := r.kp i0 t1
    rw [h1] at e
    simp only [e1] at e ⊢
    cases x1 with
    | tup ds =>
      simp only at e ⊢
      split at e
      · rename_i z
        rw [if_pos z]
        split at e
        · cases e
        · cases e; exact ⟨b1, rfl, t1⟩
      · cases e
    | lst ds =>
      simp only at e ⊢
      split at e
      · rename_i z
        rw [if_pos z]
        split at e
        · cases e
        · cases e; exact ⟨b1, rfl, t1⟩
      · cases e
    | _ => simp only at e; cases e
  | .par oi oj j k a b, o, ρ0, a0, b0, x, ρ', a', i0, e => by
    simp only [exS] at e ⊢
    simp only [okS, Bool.and_eq_true] at o
    cases h1 : evE cl a ρ0 a0 with
    | none => rw [h1] at e; cases e
    | some q1 =>
    obtain ⟨x1, ρ1, a1⟩ := q1
    obtain ⟨b1, e1, t1⟩ := evE_sim r hc a o.1 ρ0 a0 b0 _ _ _ i0 h1
    have i1 := r.kp i0 t1
    rw [h1] at e
    simp only [e1] at e ⊢
    cases h2 : evE cl b ρ1 a1 with
    | none => rw [h2] at e; cases e
    | some q2 =>
    obtain ⟨x2, ρ2, a2⟩ := q2
    obtain ⟨b2, e2, t2⟩ := evE_sim r hc b o.2 ρ1 a1 b1 _ _ _ i1 h2
    have i2 := r.kp i1 t2
    rw [h2] at e
    simp only [e2] at e ⊢
    cases e
    exact ⟨b2, rfl, (r.tr t1 t2)⟩
  | .app j a, o, ρ0, a0, b0, x, ρ', a', i0, e => by
    simp only [exS] at e ⊢
    simp only [okS] at o
    cases hn : ownL ρ0 j with
    | none => rw [hn] at e; cases e
    | some own0 =>
    rw [hn] at e
    simp only at e ⊢
    cases h1 : evE cl a ρ0 a0 with
    | none => rw [h1] at e; cases e
    | some q1 =>
    obtain ⟨x1, ρ1, a1⟩ := q1
    obtain ⟨b1, e1, t1⟩ := evE_sim r hc a o ρ0 a0 b0 _ _ _ i0 h1
    have i1 := r.kp i0 t1
    rw [h1] at e
    simp only [e1] at e ⊢
    split at e
    · cases e
    · split at e
      · rename_i z; rw [if_pos z]; cases e; exact ⟨b1, rfl, t1⟩
      · cases e
  | .ext j a, o, ρ0, a0, b0, x, ρ', a', i0, e => by
    simp only [exS] at e ⊢
    simp only [okS] at o
    cases hn : ownL ρ0 j with
    | none => rw [hn] at e; cases e
    | some own0 =>
    rw [hn] at e
    simp only at e ⊢
    cases h1 : evE cl a ρ0 a0 with
    | none => rw [h1] at e; cases e
    | some q1 =>
    obtain ⟨x1, ρ1, a1⟩ := q1
    obtain ⟨b1, e1, t1⟩ := evE_sim r hc a o ρ0 a0 b0 _ _ _ i0 h1
    have i1 := r.kp i0 t1
    rw [h1] at e
    simp only [e1] at e ⊢
    cases x1 with
    | lst ys =>
      simp only at e ⊢
      split at e
      · cases e
      · split at e
        · rename_i z; rw [if_pos z]; cases e; exact ⟨b1, rfl, t1⟩
        · cases e
    | _ => simp only at e; cases e
  | .appPop j k a, o, ρ0, a0, b0, x, ρ', a', i0, e => by
    simp only [exS] at e ⊢
    simp only [okS] at o
    cases hn : ownL ρ0 j with
    | none => rw [hn] at e; cases e
    | some own0 =>
    cases hm : ownL ρ0 k with
    | none => rw [hn, hm] at e; cases e
    | some own1 =>
    rw [hn, hm] at e
    simp only at e ⊢
    cases h1 : evE cl a ρ0 a0 with
    | none => rw [h1] at e; cases e
    | some q1 =>
    obtain ⟨x1, ρ1, a1⟩ := q1
    obtain ⟨b1, e1, t1⟩ := evE_sim r hc a o ρ0 a0 b0 _ _ _ i0 h1
    have i1 := r.kp i0 t1
    rw [h1] at e
    simp only [e1] at e ⊢
    cases x1 with
    | int v =>
      simp only at e ⊢
      split at e
      · split at e
        · rename_i z; rw [if_pos z]; split at e
          · cases e; exact ⟨b1, rfl, t1⟩
          · cases e
        · cases e
      · cases e
    | _ => simp only at e; cases e
  | .put j k v, o, ρ0, a0, b0, x, ρ', a', i0, e => by
    simp only [exS] at e ⊢
    simp only [okS, Bool.and_eq_true] at o
    cases hn : ownD ρ0 j with
    | none => rw [hn] at e; cases e
    | some own0 =>
    rw [hn] at e
    simp only at e ⊢
    cases h1 : evE cl v ρ0 a0 with
    | none => rw [h1] at e; cases e
    | some q1 =>
    obtain ⟨x1, ρ1, a1⟩ := q1
    obtain ⟨b1, e1, t1⟩ := evE_sim r hc v o.2 ρ0 a0 b0 _ _ _ i0 h1
    have i1 := r.kp i0 t1
    rw [h1] at e
    simp only [e1] at e ⊢
    cases h2 : evE cl k ρ1 a1 with
    | none => rw [h2] at e; cases e
    | some q2 =>
    obtain ⟨x2, ρ2, a2⟩ := q2
    obtain ⟨b2, e2, t2⟩ := evE_sim r hc k o.1 ρ1 a1 b1 _ _ _ i1 h2
    have i2 := r.kp i1 t2
    rw [h2] at e
    simp only [e2] at e ⊢
    split at e
    · cases e
    · split at e
      · cases e
      · cases e; exact ⟨b2, rfl, r.tr t1 t2⟩
  | .sput j k a, o, ρ0, a0, b0, x, ρ', a', i0, e => by
    simp only [exS] at e ⊢
    simp only [okS, Bool.and_eq_true] at o
    have hs := o.1
    cases h1 : evE cl a ρ0 a0 with
    | none => rw [h1] at e; cases e
    | some q1 =>
    obtain ⟨x1, ρ1, a1⟩ := q1
    obtain ⟨b1, e1, t1⟩ := evE_sim r hc a o.2 ρ0 a0 b0 _ _ _ i0 h1
    have i1 := r.kp i0 t1
    rw [h1] at e
    simp only [e1] at e ⊢
    cases r.st hs i1
    refine ⟨a', e, ?_⟩
    cases r.st hs i0
    exact r.an hs
  | .hput h k v, o, ρ0, a0, b0, x, ρ', a', i0, e => by
    simp only [exS] at e ⊢
    simp only [okS, Bool.and_eq_true] at o
    have hs := o.1
    cases h1 : evE cl v ρ0 a0 with
    | none => rw [h1] at e; cases e
    | some q1 =>
    obtain ⟨x1, ρ1, a1⟩ := q1
    obtain ⟨b1, e1, t1⟩ := evE_sim r hc v o.2.2.2 ρ0 a0 b0 _ _ _ i0 h1
    have i1 := r.kp i0 t1
    rw [h1] at e
    simp only [e1] at e ⊢
    cases h2 : evE cl h ρ1 a1 with
    | none => rw [h2] at e; cases e
    | some q2 =>
    obtain ⟨x2, ρ2, a2⟩ := q2
    obtain ⟨b2, e2, t2⟩ := evE_sim r hc h o.2.1 ρ1 a1 b1 _ _ _ i1 h2
    have i2 := r.kp i1 t2
    rw [h2] at e
    simp only [e2] at e ⊢
    cases h3 : evE cl k ρ2 a2 with
    | none => rw [h3] at e; cases e
    | some q3 =>
    obtain ⟨x3, ρ3, a3⟩ := q3
    obtain ⟨b3, e3, t3⟩ := evE_sim r hc k o.2.2.1 ρ2 a2 b2 _ _ _ i2 h3
    have i3 := r.kp i2 t3
    rw [h3] at e
    simp only [e3] at e ⊢
    cases r.st hs i3
    refine ⟨a', e, ?_⟩
    cases r.st hs i0
    exact r.an hs
  | .hupd a b, o, ρ0, a0, b0, x, ρ', a', i0, e => by
    simp only [exS] at e ⊢
    simp only [okS, Bool.and_eq_true] at o
    have hs := o.1
    cases h1 : evE cl a ρ0 a0 with
    | none => rw [h1] at e; cases e
    | some q1 =>
    obtain ⟨x1, ρ1, a1⟩ := q1
    obtain ⟨b1, e1, t1⟩ := evE_sim r hc a o.2.1 ρ0 a0 b0 _ _ _ i0 h1
    have i1 := r.kp i0 t1
    rw [h1] at e
    simp only [e1] at e ⊢
    cases r.st hs i1
    split at e
    · cases e
    rename_i z
    rw [if_neg z]
    cases h2 : evE cl b ρ1 a1 with
    | none => rw [h2] at e; cases e
    | some q2 =>
    obtain ⟨x2, ρ2, a2⟩ := q2
    obtain ⟨b2, e2, t2⟩ := evE_sim r hc b o.2.2 ρ1 a1 a1 _ _ _ i1 h2
    have i2 := r.kp i1 t2
    rw [h2] at e
    simp only [e2] at e ⊢
    cases r.st hs i2
    refine ⟨a', e, ?_⟩
    cases r.st hs i0
    exact r.an hs
  | .fst j f a, o, ρ0, a0, b0, x, ρ', a', i0, e => by
    simp only [exS] at e ⊢
    simp only [okS] at o
    cases hn : ownD ρ0 j with
    | none => rw [hn] at e; cases e
    | some own0 =>
    rw [hn] at e
    simp only at e ⊢
    cases h1 : evE cl a ρ0 a0 with
    | none => rw [h1] at e; cases e
    | some q1 =>
    obtain ⟨x1, ρ1, a1⟩ := q1
    obtain ⟨b1, e1, t1⟩ := evE_sim r hc a o ρ0 a0 b0 _ _ _ i0 h1
    have i1 := r.kp i0 t1
    rw [h1] at e
    simp only [e1] at e ⊢
    split at e
    · split at e
      · rename_i z; rw [if_pos z]; cases e; exact ⟨b1, rfl, t1⟩
      · cases e
    · cases e
  | .ite c a b, o, ρ0, a0, b0, x, ρ', a', i0, e => by
    simp only [exS] at e ⊢
    simp only [okS, Bool.and_eq_true] at o
    cases h1 : evE cl c ρ0 a0 with
    | none => rw [h1] at e; cases e
    | some q1 =>
    obtain ⟨x1, ρ1, a1⟩ := q1
    obtain ⟨b1, e1, t1⟩ := evE_sim r hc c o.1 ρ0 a0 b0 _ _ _ i0 h1
    have i1 := r.kp i0 t1
    rw [h1] at e
    simp only [e1] at e ⊢
    cases x1 with
    | bl z =>
      cases z with
      | true =>
        simp only at e ⊢
        obtain ⟨b2, e2, t2⟩ := exL_sim a o.2.1 ρ1 a1 b1 _ _ _ i1 e
        exact ⟨b2, e2, r.tr t1 t2⟩
      | false =>
        simp only at e ⊢
        obtain ⟨b2, e2, t2⟩ := exL_sim b o.2.2 ρ1 a1 b1 _ _ _ i1 e
        exact ⟨b2, e2, r.tr t1 t2⟩
    | _ => simp only at e; cases e
  | .whl c b, o, ρ0, a0, b0, x, ρ', a', i0, e => by
    simp only [exS] at e ⊢
    simp only [okS, Bool.and_eq_true] at o
    exact whlL_sim r (evE_sim r hc c o.1) (exL_sim b o.2) wf ρ0 a0 b0 _ _ _ i0 e
  | .for tg k src b, o, ρ0, a0, b0, x, ρ', a', i0, e => by
    simp only [exS] at e ⊢
    simp only [okS, Bool.and_eq_true] at o
    cases h1 : evEs cl src ρ0 a0 with
    | none => rw [h1] at e; cases e
    | some q1 =>
    obtain ⟨x1, ρ1, a1⟩ := q1
    obtain ⟨b1, e1, t1⟩ := evEs_sim r hc src o.1 ρ0 a0 b0 _ _ _ i0 h1
    have i1 := r.kp i0 t1
    rw [h1] at e
    simp only [e1] at e ⊢
    cases hz : srcD k x1 with
    | none => rw [hz] at e; cases e
    | some xs =>
    rw [hz] at e
    simp only at e ⊢
    obtain ⟨b2, e2, t2⟩ := forL_sim r (f := fun x ρ st => match bindD tg x ρ with | none => none | some ρ1 => exL cl wf b ρ1 st) (f' := fun x ρ st => match bindD tg x ρ with | none => none | some ρ1 => exL cl' wf b ρ1 st) (fun d ρ a c x ρ' a' i e => by
      simp only at e ⊢
      cases hb : bindD tg d ρ with
      | none => rw [hb] at e; cases e
      | some ρb => rw [hb] at e; simp only at e ⊢; exact exL_sim b o.2 ρb a c _ _ _ i e) xs ρ1 a1 b1 _ _ _ i1 e
    exact ⟨b2, e2, r.tr t1 t2⟩
  | .ret a, o, ρ0, a0, b0, x, ρ', a', i0, e => by
    simp only [exS] at e ⊢
    simp only [okS] at o
    cases h1 : evE cl a ρ0 a0 with
    | none => rw [h1] at e; cases e
    | some q1 =>
    obtain ⟨x1, ρ1, a1⟩ := q1
    obtain ⟨b1, e1, t1⟩ := evE_sim r hc a o ρ0 a0 b0 _ _ _ i0 h1
    have i1 := r.kp i0 t1
    rw [h1] at e
    simp only [e1] at e ⊢
    cases e
    exact ⟨b1, rfl, t1⟩
  | .ex a, o, ρ0, a0, b0, x, ρ', a', i0, e => by
    simp only [exS] at e ⊢
    simp only [okS] at o
    cases h1 : evE cl a ρ0 a0 with
    | none => rw [h1] at e; cases e
    | some q1 =>
    obtain ⟨x1, ρ1, a1⟩ := q1
    obtain ⟨b1, e1, t1⟩ := evE_sim r hc a o ρ0 a0 b0 _ _ _ i0 h1
    have i1 := r.kp i0 t1
    rw [h1] at e
    simp only [e1] at e ⊢
    cases e
    exact ⟨b1, rfl, t1⟩
  | .pass, o, ρ0, a0, b0, x, ρ', a', i0, e => by
    simp only [exS] at e ⊢
    cases e
    exact ⟨b0, rfl, r.rf i0⟩
  | .never, o, ρ0, a0, b0, x, ρ', a', i0, e => by
    simp only [exS] at e ⊢
    cases e
termination_by structural x => x
theorem exL_sim : ∀ (x : List S), okL p s x = true → SimF r (exL cl wf x) (exL cl' wf x)
  | [], o, ρ0, a0, b0, x, ρ', a', i0, e => by
    simp only [exL] at e ⊢
    cases e
    exact ⟨b0, rfl, r.rf i0⟩
  | y :: ys, o, ρ0, a0, b0, x, ρ', a', i0, e => by
    simp only [exL] at e ⊢
    simp only [okL, Bool.and_eq_true] at o
    cases h1 : exS cl wf y ρ0 a0 with
    | none => rw [h1] at e; cases e
    | some q1 =>
    obtain ⟨x1, ρ1, a1⟩ := q1
    obtain ⟨b1, e1, t1⟩ := exS_sim y o.1 ρ0 a0 b0 _ _ _ i0 h1
    have i1 := r.kp i0 t1
    rw [h1] at e
    simp only [e1] at e ⊢
    cases x1 with
    | nx =>
      simp only at e ⊢
      obtain ⟨b2, e2, t2⟩ := exL_sim ys o.2 ρ1 a1 b1 _ _ _ i1 e
      exact ⟨b2, e2, r.tr t1 t2⟩
    | rt v => simp only at e ⊢; cases e; exact ⟨b1, rfl, t1⟩
termination_by structural x => x
end
theorem runFn_sim {f : Fn} (o : okL p s f.body = true) {ds : List D} {a b a' : PSt} {d : D} (i : r.I a b) (e : runFn wf cl f ds a = some (d, a')) : ∃ b', runFn wf cl' f ds b = some (d, b') ∧ r.T a b a' b' := by
  unfold runFn at e ⊢
  split at e
  · rename_i z
    rw [if_pos z]
    split at e
    · rename_i v ρ1 a1 h1
      obtain ⟨b1, e1, t1⟩ := exL_sim r hc wf f.body o _ _ _ _ _ _ i h1
      simp only [e1]
      cases e
      exact ⟨b1, rfl, t1⟩
    · rename_i ρ1 a1 h1
      obtain ⟨b1, e1, t1⟩ := exL_sim r hc wf f.body o _ _ _ _ _ _ i h1
      simp only [e1]
      cases e
      exact ⟨b1, rfl, t1⟩
    · cases e
  · cases e
theorem runIni_sim {f : Fn} {C : String} (o : okL p s f.body = true) {ds : List D} {a b a' : PSt} {d : D} (i : r.I a b) (e : runIni wf cl f C ds a = some (d, a')) : ∃ b', runIni wf cl' f C ds b = some (d, b') ∧ r.T a b a' b' := by
  unfold runIni at e ⊢
  split at e
  · rename_i z
    rw [if_pos z]
    split at e
    · rename_i ρ1 a1 h1
      obtain ⟨b1, e1, t1⟩ := exL_sim r hc wf f.body o _ _ _ _ _ _ i h1
      simp only [e1]
      split at e
      · split at e
        · rename_i z2
          rw [if_pos z2]
          cases e
          exact ⟨b1, rfl, t1⟩
        · cases e
      · cases e
    · cases e
  · cases e
end
/-- the texts and prims of two runs of calls -/
structure SimG {s : Bool} (r : RelS s) (p : String → Bool) (P P' : String → Option (List D → PSt → Option (D × PSt))) (G G' : String → Option Fn) : Prop where
  pr : ∀ f, p f = true → ∀ g, P f = some g → ∃ g', P' f = some g' ∧ ∀ ds a b d a', r.I a b → g ds a = some (d, a') → ∃ b', g' ds b = some (d, b') ∧ r.T a b a' b'
  no : ∀ f, p f = true → P f = none → P' f = none
  fn : ∀ f, p f = true → P f = none → ∀ fn, G f = some fn → G' f = some fn ∧ okL p s fn.body = true
theorem call_sim {s : Bool} (r : RelS s) {p : String → Bool} {P P' : String → Option (List D → PSt → Option (D × PSt))} {G G' : String → Option Fn} (h : SimG r p P P' G G') (wf : Nat) : ∀ (n m : Nat), n ≤ m → SimC r p (call wf P G n) (call wf P' G' m)
  | 0, m, hm, f, hf, ds, a, b, d, a', i, e => by unfold call at e; cases e
  | n + 1, 0, hm, _, _, _, _, _, _, _, _, _ => absurd hm (by omega)
  | n + 1, m + 1, hm, f, hf, ds, a, b, d, a', i, e => by
    have ih := call_sim r h wf n m (by omega)
    unfold call at e ⊢
    cases hp : P f with
    | some g =>
      obtain ⟨g', h1, h2⟩ := h.pr f hf g hp
      rw [hp] at e
      simp only [h1] at e ⊢
      exact h2 _ _ _ _ _ i e
    | none =>
      rw [hp] at e
      simp only [h.no f hf hp] at e ⊢
      cases hg : G f with
      | none => rw [hg] at e; cases e
      | some fn =>
        obtain ⟨g1, g2⟩ := h.fn f hf hp fn hg
        rw [hg] at e
        simp only [g1] at e ⊢
        cases hcl : fn.cls with
        | none =>
          rw [hcl] at e
          simp only at e ⊢
          exact runFn_sim r ih wf g2 i e
        | some C =>
          rw [hcl] at e
          simp only at e ⊢
          exact runIni_sim r ih wf g2 i e
end Ev
/-! Sp0 -/
/-! Sp0: loops of the evaluator by what stays; calls by their texts. -/
namespace Ev
section
variable {wf : Nat} {P : Pr} {G : String → Option Fn}
theorem call_fn {n : Nat} {f : String} {ps ns : Nat} {body : List S} (hp : P f = none) (hg : G f = some ⟨ps, ns, body, none⟩) (ds : List D) (st : PSt) : call wf P G (n + 1) f ds st = runFn wf (call wf P G n) ⟨ps, ns, body, none⟩ ds st := by
  rw [call, hp]; simp only [hg]
theorem call_ini {n : Nat} {f C : String} {ps ns : Nat} {body : List S} (hp : P f = none) (hg : G f = some ⟨ps, ns, body, some C⟩) (ds : List D) (st : PSt) : call wf P G (n + 1) f ds st = runIni wf (call wf P G n) ⟨ps, ns, body, some C⟩ C ds st := by
  rw [call, hp]; simp only [hg]
theorem call_pr {n : Nat} {f : String} {g : List D → PSt → Option (D × PSt)} (hp : P f = some g) (ds : List D) (st : PSt) : call wf P G (n + 1) f ds st = g ds st := by
  rw [call, hp]
end
theorem forL_ind {f : D → Env → PSt → Option (Out × Env × PSt)} {I : List D → Env → PSt → Prop} (step : ∀ d ds ρ st, I (d :: ds) ρ st → ∃ ρ' st', f d ρ st = some (.nx, ρ', st') ∧ I ds ρ' st') :
    ∀ {ds : List D} {ρ : Env} {st : PSt}, I ds ρ st → ∃ ρ' st', forL f ds ρ st = some (.nx, ρ', st') ∧ I [] ρ' st'
  | [], ρ, st, h => ⟨ρ, st, rfl, h⟩
  | d :: ds, ρ, st, h => by
    obtain ⟨ρ1, st1, e, h1⟩ := step d ds ρ st h
    obtain ⟨ρ2, st2, e2, h2⟩ := forL_ind step h1
    exact ⟨ρ2, st2, by simp only [forL, e, e2], h2⟩
/-- a loop that may be left -/
theorem forL_out {f : D → Env → PSt → Option (Out × Env × PSt)} {I : List D → Env → PSt → Prop} {R : D → PSt → Prop}
    (step : ∀ d ds ρ st, I (d :: ds) ρ st → (∃ ρ' st', f d ρ st = some (.nx, ρ', st') ∧ I ds ρ' st') ∨ ∃ v ρ' st', f d ρ st = some (.rt v, ρ', st') ∧ R v st') :
    ∀ {ds : List D} {ρ : Env} {st : PSt}, I ds ρ st → (∃ ρ' st', forL f ds ρ st = some (.nx, ρ', st') ∧ I [] ρ' st') ∨ ∃ v ρ' st', forL f ds ρ st = some (.rt v, ρ', st') ∧ R v st'
  | [], ρ, st, h => .inl ⟨ρ, st, rfl, h⟩
  | d :: ds, ρ, st, h => by
    rcases step d ds ρ st h with ⟨ρ1, st1, e, h1⟩ | ⟨v, ρ1, st1, e, h1⟩
    · rcases forL_out step h1 with ⟨ρ2, st2, e2, h2⟩ | ⟨v, ρ2, st2, e2, h2⟩
      · exact .inl ⟨ρ2, st2, by simp only [forL, e, e2], h2⟩
      · exact .inr ⟨v, ρ2, st2, by simp only [forL, e, e2], h2⟩
    · exact .inr ⟨v, ρ1, st1, by simp only [forL, e], h1⟩
theorem lcLoop_filt {f : D → Env → PSt → Option (Option D × Env × PSt)} {ρ : Env} {st : PSt} {g : D → Option D} : ∀ {xs : List D}, (∀ x ∈ xs, f x ρ st = some (g x, ρ, st)) → lcLoop f xs ρ st = some (xs.filterMap g, ρ, st)
  | [], _ => rfl
  | x :: xs, h => by
    have h1 := h x List.mem_cons_self
    have h2 := lcLoop_filt (xs := xs) fun y hy => h y (List.mem_cons_of_mem _ hy)
    simp only [lcLoop, h1, h2, List.filterMap_cons]
    cases g x <;> rfl
theorem lcLoop_map {f : D → Env → PSt → Option (Option D × Env × PSt)} {ρ : Env} {st : PSt} {g : D → D} : ∀ {xs : List D}, (∀ x ∈ xs, f x ρ st = some (some (g x), ρ, st)) → lcLoop f xs ρ st = some (xs.map g, ρ, st)
  | [], _ => rfl
  | x :: xs, h => by
    have h1 := h x List.mem_cons_self
    have h2 := lcLoop_map (xs := xs) fun y hy => h y (List.mem_cons_of_mem _ hy)
    simp only [lcLoop, h1, h2, List.map_cons]
/-- a comprehension whose elements are drawn -/
theorem lcLoop_ind {f : D → Env → PSt → Option (Option D × Env × PSt)} {ρ : Env} {I : List D → List D → PSt → Prop} (step : ∀ x xs ys st, I (x :: xs) ys st → ∃ y st', f x ρ st = some (some y, ρ, st') ∧ I xs (ys ++ [y]) st') :
    ∀ {xs ys : List D} {st : PSt}, I xs ys st → ∃ zs st', lcLoop f xs ρ st = some (zs, ρ, st') ∧ I [] (ys ++ zs) st'
  | [], ys, st, h => ⟨[], st, rfl, by rw [List.append_nil]; exact h⟩
  | x :: xs, ys, st, h => by
    obtain ⟨y, st1, e, h1⟩ := step x xs ys st h
    obtain ⟨zs, st2, e2, h2⟩ := lcLoop_ind step h1
    refine ⟨y :: zs, st2, by simp only [lcLoop, e, e2], ?_⟩
    rw [List.append_assoc] at h2
    exact h2
theorem whlL_ind {c : Env → PSt → Option (D × Env × PSt)} {f : Env → PSt → Option (Out × Env × PSt)} {I : Env → PSt → Prop} {Z : Env → PSt → Prop} (μ : Env → PSt → Nat)
    (step : ∀ ρ st, I ρ st → (∃ ρ1 st1, c ρ st = some (.bl false, ρ1, st1) ∧ Z ρ1 st1) ∨ ∃ ρ1 st1 ρ2 st2, c ρ st = some (.bl true, ρ1, st1) ∧ f ρ1 st1 = some (.nx, ρ2, st2) ∧ I ρ2 st2 ∧ μ ρ2 st2 < μ ρ st) :
    ∀ (n : Nat) {ρ : Env} {st : PSt}, μ ρ st < n → I ρ st → ∃ ρ' st', whlL c f n ρ st = some (.nx, ρ', st') ∧ Z ρ' st'
  | 0, ρ, st, hn, _ => absurd hn (by omega)
  | n + 1, ρ, st, hn, h => by
    rcases step ρ st h with ⟨ρ1, st1, e, z⟩ | ⟨ρ1, st1, ρ2, st2, e, e2, h2, hm⟩
    · exact ⟨ρ1, st1, by simp only [whlL, e], z⟩
    · obtain ⟨ρ3, st3, e3, z⟩ := whlL_ind μ step n (by omega) h2
      exact ⟨ρ3, st3, by simp only [whlL, e, e2, e3], z⟩
end Ev
/-! Mx1 -/
/-! Mx1: numbers as rows of signs; a table applied to rows. -/
namespace Mx
/-- x chooses at each place between h (where it is 1) and l -/
def mux (x h l : Nat) : Nat := (x &&& h) ||| (l - (l &&& x))
theorem sub_and_bit : ∀ (p l x : Nat), (l - (l &&& x)).testBit p = (l.testBit p && !x.testBit p)
  | 0, l, x => by
    have h1 : (l &&& x) % 2 = (l % 2) * (x % 2) := by
      have h := Nat.and_mod_two_pow (a := l) (b := x) (n := 1)
      rw [Nat.pow_one] at h
      rw [h]
      have a := Nat.mod_two_eq_zero_or_one l
      have b := Nat.mod_two_eq_zero_or_one x
      rcases a with a | a <;> rcases b with b | b <;> rw [a, b] <;> rfl
    have h2 : l &&& x ≤ l := Nat.and_le_left
    simp only [Nat.testBit_zero]
    have a := Nat.mod_two_eq_zero_or_one l
    have b := Nat.mod_two_eq_zero_or_one x
    have c : (l - (l &&& x)) % 2 = (l % 2) - (l &&& x) % 2 := by
      have hle : (l &&& x) % 2 ≤ l % 2 := by
        rw [h1]; rcases a with a | a <;> rcases b with b | b <;> rw [a, b] <;> decide
      omega
    rw [c, h1]
    rcases a with a | a <;> rcases b with b | b <;> rw [a, b] <;> rfl
  | p + 1, l, x => by
    have h0 : (l &&& x) / 2 = l / 2 &&& x / 2 := by
      have h := Nat.and_div_two_pow (a := l) (b := x) (n := 1)
      rw [Nat.pow_one] at h; exact h
    have h1 : (l &&& x) % 2 = (l % 2) * (x % 2) := by
      have h := Nat.and_mod_two_pow (a := l) (b := x) (n := 1)
      rw [Nat.pow_one] at h
      rw [h]
      have a := Nat.mod_two_eq_zero_or_one l
      have b := Nat.mod_two_eq_zero_or_one x
      rcases a with a | a <;> rcases b with b | b <;> rw [a, b] <;> rfl
    have hle : (l &&& x) % 2 ≤ l % 2 := by
      rw [h1]
      have a := Nat.mod_two_eq_zero_or_one l
      have b := Nat.mod_two_eq_zero_or_one x
      rcases a with a | a <;> rcases b with b | b <;> rw [a, b] <;> decide
    have h2 : l &&& x ≤ l := Nat.and_le_left
    have c : (l - (l &&& x)) / 2 = l / 2 - (l / 2 &&& x / 2) := by
      rw [← h0]; omega
    rw [Nat.testBit_succ, c, sub_and_bit p, Nat.testBit_succ, Nat.testBit_succ]
theorem mux_bit (p x h l : Nat) : (mux x h l).testBit p = if x.testBit p then h.testBit p else l.testBit p := by
  unfold mux
  rw [Nat.testBit_or, Nat.testBit_and, sub_and_bit]
  cases x.testBit p <;> simp
theorem mux_lt {n x h l : Nat} (hh : h < 2 ^ n) (hl : l < 2 ^ n) : mux x h l < 2 ^ n := by
  unfold mux
  refine Nat.or_lt_two_pow (Nat.and_lt_two_pow _ hh) ?_
  omega
theorem bnot_bnot (x : Int) : PySem.Builtin.bitNot (PySem.Builtin.bitNot x) = x := by unfold PySem.Builtin.bitNot; omega
theorem band_nn (a b : Nat) : PySem.Builtin.bitAnd (a : Int) (b : Int) = ((a &&& b : Nat) : Int) := by
  unfold PySem.Builtin.bitAnd
  rw [decide_eq_true (Int.natCast_nonneg a), decide_eq_true (Int.natCast_nonneg b)]
  rfl
theorem band_not (a b : Nat) : PySem.Builtin.bitAnd (a : Int) (PySem.Builtin.bitNot (b : Int)) = ((a - (a &&& b) : Nat) : Int) := by
  unfold PySem.Builtin.bitAnd
  rw [decide_eq_true (Int.natCast_nonneg a), show decide (0 ≤ PySem.Builtin.bitNot (b : Int)) = false by unfold PySem.Builtin.bitNot; simp; omega, bnot_bnot]
  have h : a &&& b ≤ a := Nat.and_le_left
  show (a : Int) - ((a &&& b : Nat) : Int) = _
  omega
theorem bor_nn (a b : Nat) : PySem.Builtin.bitOr (a : Int) (b : Int) = ((a ||| b : Nat) : Int) := by
  unfold PySem.Builtin.bitOr PySem.Builtin.bitAnd
  rw [show decide (0 ≤ PySem.Builtin.bitNot (a : Int)) = false by unfold PySem.Builtin.bitNot; simp; omega, show decide (0 ≤ PySem.Builtin.bitNot (b : Int)) = false by unfold PySem.Builtin.bitNot; simp; omega, bnot_bnot, bnot_bnot, bnot_bnot]
  rfl
theorem mux_int (x h l : Nat) : PySem.Builtin.bitOr (PySem.Builtin.bitAnd (x : Int) (h : Int)) (PySem.Builtin.bitAnd (l : Int) (PySem.Builtin.bitNot (x : Int))) = ((mux x h l : Nat) : Int) := by
  rw [band_nn, band_not, bor_nn]; rfl
/-- one input of a table's values put in -/
def stepL (x : Nat) (v : List Nat) : List Nat := (List.range (v.length / 2)).map fun k => mux x (v.getD (v.length / 2 + k) 0) (v.getD k 0)
/-- all that comes of a table's values by known numbers -/
def outs (known : List Nat) : Nat → List Nat → List Nat
  | 0, v => v
  | j + 1, v => known.flatMap fun x => outs known j (stepL x v)
def appV : List Nat → List Nat → List Nat
  | [], v => v
  | m :: ms, v => appV ms (stepL m v)
theorem stepL_len (x : Nat) (v : List Nat) : (stepL x v).length = v.length / 2 := by simp [stepL]
theorem appV_len : ∀ (ms v : List Nat), (appV ms v).length = v.length / 2 ^ ms.length
  | [], v => by simp [appV]
  | m :: ms, v => by
    rw [appV, appV_len ms, stepL_len, List.length_cons, Nat.pow_succ, Nat.mul_comm, Nat.div_div_eq_div_mul]
theorem mem_outs {known : List Nat} {r : Nat} : ∀ {j : Nat} {v : List Nat}, r ∈ outs known j v ↔ ∃ ms : List Nat, ms.length = j ∧ (∀ m ∈ ms, m ∈ known) ∧ r ∈ appV ms v
  | 0, v => by
    constructor
    · intro h; exact ⟨[], rfl, by simp, h⟩
    · rintro ⟨ms, h1, _, h3⟩
      cases ms with
      | nil => exact h3
      | cons _ _ => cases h1
  | j + 1, v => by
    rw [outs, List.mem_flatMap]
    constructor
    · rintro ⟨x, hx, h⟩
      obtain ⟨ms, h1, h2, h3⟩ := mem_outs.mp h
      exact ⟨x :: ms, by simp [h1], by simpa using ⟨hx, h2⟩, h3⟩
    · rintro ⟨ms, h1, h2, h3⟩
      cases ms with
      | nil => cases h1
      | cons m ms => exact ⟨m, h2 m (by simp), mem_outs.mpr ⟨ms, by simpa using h1, fun k hk => h2 k (by simp [hk]), h3⟩⟩
theorem stepL_lt {n x : Nat} {v : List Nat} (h : ∀ y ∈ v, y < 2 ^ n) : ∀ y ∈ stepL x v, y < 2 ^ n := by
  intro y hy
  obtain ⟨k, _, rfl⟩ := List.mem_map.mp hy
  have g : ∀ i, v.getD i 0 < 2 ^ n := fun i => by
    rw [List.getD_eq_getElem?_getD]
    cases e : v[i]? with
    | none => exact Nat.two_pow_pos n
    | some z => exact h z (List.mem_of_getElem? e)
  exact mux_lt (g _) (g _)
theorem appV_lt {n : Nat} : ∀ {ms v : List Nat}, (∀ y ∈ v, y < 2 ^ n) → ∀ y ∈ appV ms v, y < 2 ^ n
  | [], v, h => h
  | m :: ms, v, h => appV_lt (ms := ms) (stepL_lt h)
/-- a table's signs as numbers of so many places, all 1 or all 0 -/
def vals (sz : Nat) (t : List Nat) : List Nat := t.map fun c => if c = 49 then 2 ^ sz - 1 else 0
/-- the number that a table gives from numbers -/
def app (sz : Nat) (t ms : List Nat) : Nat := (appV ms (vals sz t)).headD 0
theorem vals_lt {sz : Nat} {t : List Nat} : ∀ y ∈ vals sz t, y < 2 ^ sz := by
  intro y hy
  obtain ⟨c, _, rfl⟩ := List.mem_map.mp hy
  have := Nat.two_pow_pos sz
  split <;> omega
theorem app_mem {sz : Nat} {t ms : List Nat} (h : t.length = 2 ^ ms.length) : appV ms (vals sz t) = [app sz t ms] := by
  have hl : (appV ms (vals sz t)).length = 1 := by
    rw [appV_len]; simp [vals, h, Nat.div_self (Nat.two_pow_pos _)]
  unfold app
  cases e : appV ms (vals sz t) with
  | nil => rw [e] at hl; cases hl
  | cons a r =>
    rw [e] at hl
    cases r with
    | nil => rfl
    | cons b r => simp at hl
theorem app_lt {sz : Nat} {t ms : List Nat} : app sz t ms < 2 ^ sz := by
  unfold app
  cases e : appV ms (vals sz t) with
  | nil => exact Nat.two_pow_pos sz
  | cons a r => exact appV_lt (ms := ms) vals_lt a (by rw [e]; simp)
/-- what comes from rows by tables -/
inductive Clo (sz : Nat) (ts : List (List Nat)) (rows : List Nat) : Nat → Prop
  | base {x : Nat} (h : x ∈ rows) : Clo sz ts rows x
  | step {t ms : List Nat} (h : t ∈ ts) (hl : t.length = 2 ^ ms.length) (hp : 0 < ms.length) (hm : ∀ m ∈ ms, Clo sz ts rows m) : Clo sz ts rows (app sz t ms)
theorem Clo.lt {sz : Nat} {ts : List (List Nat)} {rows : List Nat} {x : Nat} (hr : ∀ y ∈ rows, y < 2 ^ sz) (h : Clo sz ts rows x) : x < 2 ^ sz := by
  cases h with
  | base h => exact hr _ h
  | step _ _ _ _ => exact app_lt
theorem nodup_len : ∀ (n : Nat) (l : List Nat), l.Nodup → (∀ x ∈ l, x < n) → l.length ≤ n
  | 0, l, _, h => by
    cases l with
    | nil => simp
    | cons a r => exact absurd (h a (by simp)) (by omega)
  | n + 1, l, hn, h => by
    have h1 := nodup_len n (l.erase n) (hn.erase n) fun x hx => by
      have hx' := (hn.mem_erase_iff).mp hx
      have := h x hx'.2
      omega
    have h2 := List.length_erase (a := n) (l := l)
    rw [h2] at h1
    split at h1 <;> omega
end Mx
/-! Lz -/
/-! Lz: the evaluator's equations in a form that is worked off from the left. -/
namespace Ev
section
variable {α β : Type}
/-- go on with what a run gives -/
def bK (m : Option (α × Env × PSt)) (k : α → Env → PSt → Option β) : Option β := match m with | none => none | some (x, ρ, st) => k x ρ st
def cK (m : Option (α × PSt)) (k : α → PSt → Option β) : Option β := match m with | none => none | some (x, st) => k x st
def oK (m : Option α) (k : α → Option β) : Option β := match m with | none => none | some x => k x
def tK (x : D) (t f : Option β) : Option β := match x with | .bl true => t | .bl false => f | _ => none
/-- a length within the bounds of the model -/
def okLen (n : Nat) : Bool := decide (n ≤ lim)
theorem okLen_of {n : Nat} (h : n ≤ lim) : okLen n = true := by unfold okLen; exact decide_eq_true h
def iK (c : Bool) (t : Option β) : Option β := if c = true then t else none
theorem bK_congr {m m' : Option (α × Env × PSt)} {k : α → Env → PSt → Option β} (h : m = m') : bK m k = bK m' k := by rw [h]
theorem cK_congr {m m' : Option (α × PSt)} {k : α → PSt → Option β} (h : m = m') : cK m k = cK m' k := by rw [h]
theorem oK_congr {m m' : Option α} {k : α → Option β} (h : m = m') : oK m k = oK m' k := by rw [h]
theorem tK_congr {x x' : D} {t f : Option β} (h : x = x') : tK x t f = tK x' t f := by rw [h]
theorem iK_congr {c c' : Bool} {t : Option β} (h : c = c') : iK c t = iK c' t := by rw [h]
theorem bK_some {x : α} {ρ : Env} {st : PSt} {k : α → Env → PSt → Option β} : bK (some (x, ρ, st)) k = k x ρ st := rfl
theorem cK_some {x : α} {st : PSt} {k : α → PSt → Option β} : cK (some (x, st)) k = k x st := rfl
theorem oK_some {x : α} {k : α → Option β} : oK (some x) k = k x := rfl
theorem tK_true {t f : Option β} : tK (.bl true) t f = t := rfl
theorem tK_false {t f : Option β} : tK (.bl false) t f = f := rfl
theorem iK_true {t : Option β} : iK true t = t := rfl
end
/-! each in a form whose first part alone is worked at (a run over one item) -/
def vecHd {β : Type} (v : Vector β 1) : β := v[0]
def bKF {α β : Type} (k : α → Env → PSt → Option β) (m : Option (α × Env × PSt)) : Option β := bK m k
def cKF {α β : Type} (k : α → PSt → Option β) (m : Option (α × PSt)) : Option β := cK m k
def oKF {α β : Type} (k : α → Option β) (m : Option α) : Option β := oK m k
def tKF {β : Type} (t f : Option β) (x : D) : Option β := tK x t f
def iKF {β : Type} (t : Option β) (c : Bool) : Option β := iK c t
def vec1 {α : Type} (x : α) : Vector α 1 := #v[x]
def vecFn {α β : Type} (f : α → β) : (i : Nat) → α → i < 1 → β := fun _ x _ => f x
theorem vec_map {α β : Type} (f : α → β) (x : α) : Vector.mapFinIdx (vec1 x) (vecFn f) = vec1 (f x) := by
  ext i hi
  rw [Vector.getElem_mapFinIdx]
  obtain rfl : i = 0 := by omega
  rfl
theorem vec_one {β : Type} {x : β} : vecHd (vec1 x) = x := rfl
theorem v_one {α β : Type} (f : α → β) (x : α) : vecHd (Vector.mapFinIdx (vec1 x) (vecFn f)) = f x := by
  unfold vecHd; rw [Vector.getElem_mapFinIdx]; rfl
section
variable {α β : Type}
theorem bK_v {m : Option (α × Env × PSt)} {k : α → Env → PSt → Option β} : bK m k = vecHd (Vector.mapFinIdx (vec1 (m)) (vecFn (bKF k))) := (v_one (bKF k) m).symm
theorem cK_v {m : Option (α × PSt)} {k : α → PSt → Option β} : cK m k = vecHd (Vector.mapFinIdx (vec1 (m)) (vecFn (cKF k))) := (v_one (cKF k) m).symm
theorem oK_v {m : Option α} {k : α → Option β} : oK m k = vecHd (Vector.mapFinIdx (vec1 (m)) (vecFn (oKF k))) := (v_one (oKF k) m).symm
theorem tK_v {x : D} {t f : Option β} : tK x t f = vecHd (Vector.mapFinIdx (vec1 (x)) (vecFn (tKF t f))) := (v_one (tKF t f) x).symm
theorem iK_v {c : Bool} {t : Option β} : iK c t = vecHd (Vector.mapFinIdx (vec1 (c)) (vecFn (iKF t))) := (v_one (iKF t) c).symm
theorem bK_w {x : α} {ρ : Env} {st : PSt} {k : α → Env → PSt → Option β} : Vector.mapFinIdx (vec1 (some (x, ρ, st))) (vecFn (bKF k)) = (vec1 (k x ρ st)) := vec_map (bKF k) _
theorem cK_w {x : α} {st : PSt} {k : α → PSt → Option β} : Vector.mapFinIdx (vec1 (some (x, st))) (vecFn (cKF k)) = (vec1 (k x st)) := vec_map (cKF k) _
theorem oK_w {x : α} {k : α → Option β} : Vector.mapFinIdx (vec1 (some x)) (vecFn (oKF k)) = (vec1 (k x)) := vec_map (oKF k) _
theorem tK_wt {t f : Option β} : Vector.mapFinIdx (vec1 (.bl true)) (vecFn (tKF t f)) = (vec1 (t)) := vec_map (tKF t f) _
theorem tK_wf {t f : Option β} : Vector.mapFinIdx (vec1 (.bl false)) (vecFn (tKF t f)) = (vec1 (f)) := vec_map (tKF t f) _
theorem iK_w {t : Option β} : Vector.mapFinIdx (vec1 (true)) (vecFn (iKF t)) = (vec1 (t)) := vec_map (iKF t) _
end
def sK (m : Option (Out × Env × PSt)) (k : Env → PSt → Option (Out × Env × PSt)) : Option (Out × Env × PSt) := match m with
  | none => none
  | some (.nx, ρ, st) => k ρ st
  | some (.rt d, ρ, st) => some (.rt d, ρ, st)
theorem sK_congr {m m' : Option (Out × Env × PSt)} {k : Env → PSt → Option (Out × Env × PSt)} (h : m = m') : sK m k = sK m' k := by rw [h]
theorem sK_nx {ρ : Env} {st : PSt} {k : Env → PSt → Option (Out × Env × PSt)} : sK (some (.nx, ρ, st)) k = k ρ st := rfl
theorem sK_rt {d : D} {ρ : Env} {st : PSt} {k : Env → PSt → Option (Out × Env × PSt)} : sK (some (.rt d, ρ, st)) k = some (.rt d, ρ, st) := rfl
def sKF (k : Env → PSt → Option (Out × Env × PSt)) (m : Option (Out × Env × PSt)) : Option (Out × Env × PSt) := sK m k
theorem sK_v {m : Option (Out × Env × PSt)} {k : Env → PSt → Option (Out × Env × PSt)} : sK m k = vecHd (Vector.mapFinIdx (vec1 (m)) (vecFn (sKF k))) := (v_one (sKF k) m).symm
theorem sK_wn {ρ : Env} {st : PSt} {k : Env → PSt → Option (Out × Env × PSt)} : Vector.mapFinIdx (vec1 (some (.nx, ρ, st))) (vecFn (sKF k)) = (vec1 (k ρ st)) := vec_map (sKF k) _
theorem sK_wr {d : D} {ρ : Env} {st : PSt} {k : Env → PSt → Option (Out × Env × PSt)} : Vector.mapFinIdx (vec1 (some (.rt d, ρ, st))) (vecFn (sKF k)) = (vec1 (some (.rt d, ρ, st))) := vec_map (sKF k) _
def fK (m : Option (Out × Env × PSt)) : Option (D × PSt) := match m with
  | some (.rt d, _, st') => some (d, st')
  | some (.nx, _, st') => some (.non, st')
  | none => none
theorem fK_rt {d : D} {ρ : Env} {st : PSt} : fK (some (.rt d, ρ, st)) = some (d, st) := rfl
theorem fK_nx {ρ : Env} {st : PSt} : fK (some (.nx, ρ, st)) = some (.non, st) := rfl
/-- the body of a loop, of a comprehension, the test of a while -/
def forB (cl : Cl) (wf : Nat) (tg : Tg) (b : List S) : D → Env → PSt → Option (Out × Env × PSt) := fun x ρ st => match bindD tg x ρ with | none => none | some ρ1 => exL cl wf b ρ1 st
def lcB (cl : Cl) (own : List Nat) (tg : Tg) (c : Option E) (el : E) : D → Env → PSt → Option (Option D × Env × PSt) := fun x ρ st => match bindD tg x ρ with
          | none => none
          | some ρ1 => match evO' cl c ρ1 st with
            | some (.bl true, ρ2, st2) => match evE cl el ρ2 st2 with
              | none => none
              | some (y, ρ3, st3) => some (some y, wipeE ρ3 own, st3)
            | some (.bl false, ρ2, st2) => some (none, wipeE ρ2 own, st2)
            | _ => none
def whC (cl : Cl) (c : E) : Env → PSt → Option (D × Env × PSt) := fun ρ st => evE cl c ρ st
def whB (cl : Cl) (wf : Nat) (b : List S) : Env → PSt → Option (Out × Env × PSt) := fun ρ st => exL cl wf b ρ st
section
variable {cl : Cl} {wf : Nat} {ρ : Env} {st : PSt}
def vK (s : Option Slot) (k : D → Option (D × Env × PSt)) : Option (D × Env × PSt) := match s with | some (some (_, d)) => k d | _ => none
theorem vK_congr {s s' : Option Slot} {k : D → Option (D × Env × PSt)} (h : s = s') : vK s k = vK s' k := by rw [h]
theorem vK_some {b : Bool} {d : D} {k : D → Option (D × Env × PSt)} : vK (some (some (b, d))) k = k d := rfl
def vKF (k : D → Option (D × Env × PSt)) (s : Option Slot) : Option (D × Env × PSt) := vK s k
theorem vK_v {s : Option Slot} {k : D → Option (D × Env × PSt)} : vK s k = vecHd (Vector.mapFinIdx (vec1 (s)) (vecFn (vKF k))) := (v_one (vKF k) s).symm
theorem vK_w {b : Bool} {d : D} {k : D → Option (D × Env × PSt)} : Vector.mapFinIdx (vec1 (some (some (b, d)))) (vecFn (vKF k)) = (vec1 (k d)) := vec_map (vKF k) _
theorem z_var {i : Nat} : evE cl (.var i) ρ st = vK (ρ[i]?) fun d => some (d, ρ, st) := by
  rw [evE]; unfold vK; rfl
theorem z_mv {i : Nat} : evE cl (.mv i) ρ st = vK (ρ[i]?) fun d => some (d, ρ.set i (some (false, d)), st) := by
  rw [evE]; unfold vK; rfl
theorem z_int {i : Int} : evE cl (.int i) ρ st = some (.int i, ρ, st) := by rw [evE]
theorem z_bl {b : Bool} : evE cl (.bl b) ρ st = some (.bl b, ρ, st) := by rw [evE]
theorem z_non : evE cl .non ρ st = some (.non, ρ, st) := by rw [evE]
theorem z_str {l : List Nat} : evE cl (.str l) ρ st = some (.str l, ρ, st) := by rw [evE]
theorem z_glb {d : D} : evE cl (.glb d) ρ st = some (d, ρ, st) := by rw [evE]
theorem z_bin {o : Bo} {a b : E} : evE cl (.bin o a b) ρ st = bK (evE cl a ρ st) fun x ρ1 st1 => bK (evE cl b ρ1 st1) fun y ρ2 st2 => oK (binD o x y) fun z => some (z, ρ2, st2) := by
  rw [evE]
  rcases h1 : evE cl a ρ st with _ | ⟨x, ρ1, st1⟩
  · rfl
  · simp only [bK_some]
    rcases h2 : evE cl b ρ1 st1 with _ | ⟨y, ρ2, st2⟩
    · rfl
    · simp only [bK_some]
      rcases h3 : binD o x y with _ | z
      · rfl
      · simp only [oK_some]
        first | done | rfl
def negD : D → Option D | .int i => some (.int (-i)) | _ => none
def invD : D → Option D | .int i => some (.int (PySem.Builtin.bitNot i)) | _ => none
def notD : D → Option D | .bl b => some (.bl (!b)) | _ => none
theorem z_neg {a : E} : evE cl (.neg a) ρ st = bK (evE cl a ρ st) fun x ρ1 st1 => oK (negD x) fun z => some (z, ρ1, st1) := by
  rw [evE]; cases evE cl a ρ st with
  | none => rfl
  | some q => obtain ⟨x, ρ1, st1⟩ := q; cases x <;> rfl
theorem z_inv {a : E} : evE cl (.inv a) ρ st = bK (evE cl a ρ st) fun x ρ1 st1 => oK (invD x) fun z => some (z, ρ1, st1) := by
  rw [evE]; cases evE cl a ρ st with
  | none => rfl
  | some q => obtain ⟨x, ρ1, st1⟩ := q; cases x <;> rfl
theorem z_cmp {o : Co} {a b : E} : evE cl (.cmp o a b) ρ st = bK (evE cl a ρ st) fun x ρ1 st1 => bK (evE cl b ρ1 st1) fun y ρ2 st2 => oK (cmpD o x y) fun z => some (.bl z, ρ2, st2) := by
  rw [evE]
  rcases h1 : evE cl a ρ st with _ | ⟨x, ρ1, st1⟩
  · rfl
  · simp only [bK_some]
    rcases h2 : evE cl b ρ1 st1 with _ | ⟨y, ρ2, st2⟩
    · rfl
    · simp only [bK_some]
      rcases h3 : cmpD o x y with _ | z
      · rfl
      · simp only [oK_some]
        first | done | rfl
theorem z_isN {a : E} : evE cl (.isN a) ρ st = bK (evE cl a ρ st) fun x ρ1 st1 => some (.bl (isNonD x), ρ1, st1) := by
  rw [evE]
  rcases h1 : evE cl a ρ st with _ | ⟨x, ρ1, st1⟩
  · rfl
  · simp only [bK_some]
    first | done | rfl
theorem z_ntN {a : E} : evE cl (.ntN a) ρ st = bK (evE cl a ρ st) fun x ρ1 st1 => some (.bl (!isNonD x), ρ1, st1) := by
  rw [evE]
  rcases h1 : evE cl a ρ st with _ | ⟨x, ρ1, st1⟩
  · rfl
  · simp only [bK_some]
    first | done | rfl
theorem z_chain {o o' : Co} {a b c : E} : evE cl (.chain o o' a b c) ρ st = bK (evE cl a ρ st) fun x ρ1 st1 => bK (evE cl b ρ1 st1) fun y ρ2 st2 => oK (cmpD o x y) fun q => tK (.bl q) (bK (evE cl c ρ2 st2) fun z ρ3 st3 => oK (cmpD o' y z) fun k => some (.bl k, ρ3, st3)) (some (.bl false, ρ2, st2)) := by
  rw [evE]
  rcases h1 : evE cl a ρ st with _ | ⟨x, ρ1, st1⟩
  · rfl
  · simp only [bK_some]
    rcases h2 : evE cl b ρ1 st1 with _ | ⟨y, ρ2, st2⟩
    · rfl
    · simp only [bK_some]
      rcases h3 : cmpD o x y with _ | z
      · rfl
      · simp only [oK_some]
        cases z with
          | false => rfl
          | true =>
            simp only [tK_true]
            rcases h4 : evE cl c ρ2 st2 with _ | ⟨z, ρ3, st3⟩
            · rfl
            · simp only [bK_some]
              rcases h5 : cmpD o' y z with _ | w <;> rfl
theorem z_and {a b : E} : evE cl (.and a b) ρ st = bK (evE cl a ρ st) fun x ρ1 st1 => tK x (evE cl b ρ1 st1) (some (.bl false, ρ1, st1)) := by
  rw [evE]; cases evE cl a ρ st with
  | none => rfl
  | some q => obtain ⟨x, ρ1, st1⟩ := q; cases x <;> first | rfl | (rename_i b; cases b <;> rfl)
theorem z_or {a b : E} : evE cl (.or a b) ρ st = bK (evE cl a ρ st) fun x ρ1 st1 => tK x (some (.bl true, ρ1, st1)) (evE cl b ρ1 st1) := by
  rw [evE]; cases evE cl a ρ st with
  | none => rfl
  | some q => obtain ⟨x, ρ1, st1⟩ := q; cases x <;> first | rfl | (rename_i b; cases b <;> rfl)
theorem z_not {a : E} : evE cl (.not a) ρ st = bK (evE cl a ρ st) fun x ρ1 st1 => oK (notD x) fun z => some (z, ρ1, st1) := by
  rw [evE]; cases evE cl a ρ st with
  | none => rfl
  | some q => obtain ⟨x, ρ1, st1⟩ := q; cases x <;> rfl
theorem z_ite {c a b : E} : evE cl (.ite c a b) ρ st = bK (evE cl c ρ st) fun x ρ1 st1 => tK x (evE cl a ρ1 st1) (evE cl b ρ1 st1) := by
  rw [evE]; cases evE cl c ρ st with
  | none => rfl
  | some q => obtain ⟨x, ρ1, st1⟩ := q; cases x <;> first | rfl | (rename_i b; cases b <;> rfl)
theorem z_tup {es : List E} : evE cl (.tup es) ρ st = bK (evEs cl es ρ st) fun ds ρ1 st1 => some (.tup ds, ρ1, st1) := by
  rw [evE]
  rcases h1 : evEs cl es ρ st with _ | ⟨ds, ρ1, st1⟩
  · rfl
  · simp only [bK_some]
    first | done | rfl
theorem z_lst {es : List E} : evE cl (.lst es) ρ st = bK (evEs cl es ρ st) fun ds ρ1 st1 => some (.lst ds, ρ1, st1) := by
  rw [evE]
  rcases h1 : evEs cl es ρ st with _ | ⟨ds, ρ1, st1⟩
  · rfl
  · simp only [bK_some]
    first | done | rfl
theorem z_call {f : String} {es : List E} : evE cl (.call f es) ρ st = bK (evEs cl es ρ st) fun ds ρ1 st1 => cK (cl f ds st1) fun d st2 => some (d, ρ1, st2) := by
  rw [evE]
  rcases h1 : evEs cl es ρ st with _ | ⟨ds, ρ1, st1⟩
  · rfl
  · simp only [bK_some]
    rcases h2 : cl f ds st1 with _ | ⟨d, st2⟩
    · rfl
    · simp only [cK_some]
      first | done | rfl
theorem z_lend {f : String} {es : List E} : evE cl (.lend f es) ρ st = bK (evEs cl es ρ st) fun ds ρ1 st1 => cK (cl f ds st1) fun d st2 => iK (flatD d && st2.hd.isEmpty) (some (d, ρ1, st2)) := by
  rw [evE]
  rcases h1 : evEs cl es ρ st with _ | ⟨ds, ρ1, st1⟩
  · rfl
  · simp only [bK_some]
    rcases h2 : cl f ds st1 with _ | ⟨d, st2⟩
    · rfl
    · simp only [cK_some]
      first | done | rfl
def insK (x : D) (C : String) (k : List String → List D → Option (D × Env × PSt)) : Option (D × Env × PSt) := match x with | .ins C' fs xs => if C' = C then k fs xs else none | _ => none
theorem insK_congr {x x' : D} {C : String} {k : List String → List D → Option (D × Env × PSt)} (h : x = x') : insK x C k = insK x' C k := by rw [h]
theorem insK_some {C : String} {fs : List String} {xs : List D} {k : List String → List D → Option (D × Env × PSt)} : insK (.ins C fs xs) C k = k fs xs := by simp [insK]
def insKF (C : String) (k : List String → List D → Option (D × Env × PSt)) (x : D) : Option (D × Env × PSt) := insK x C k
theorem insK_v {x : D} {C : String} {k : List String → List D → Option (D × Env × PSt)} : insK x C k = vecHd (Vector.mapFinIdx (vec1 (x)) (vecFn (insKF C k))) := (v_one (insKF C k) x).symm
theorem insK_w {C : String} {fs : List String} {xs : List D} {k : List String → List D → Option (D × Env × PSt)} : Vector.mapFinIdx (vec1 (.ins C fs xs)) (vecFn (insKF C k)) = (vec1 (k fs xs)) := (vec_map (insKF C k) _).trans (congrArg vec1 insK_some)
theorem z_meth {C m f : String} {o : E} {es : List E} : evE cl (.meth C m f o es) ρ st = bK (evE cl o ρ st) fun x ρ1 st1 => insK x C fun fs xs => iK (decide (m ∉ fs)) (bK (evEs cl es ρ1 st1) fun ds ρ2 st2 => cK (cl f (.ins C fs xs :: ds) st2) fun d st3 => some (d, ρ2, st3)) := by
  rw [evE]
  rcases h1 : evE cl o ρ st with _ | ⟨x, ρ1, st1⟩
  · rfl
  · simp only [bK_some]
    cases x with
    | ins C' fs xs =>
      unfold insK iK
      by_cases h : C' = C
      · subst h
        by_cases h2 : m ∈ fs
        · simp [h2]
        · simp only [h2, not_false_eq_true, and_self, if_true, decide_true]
          rcases h3 : evEs cl es ρ1 st1 with _ | ⟨ds, ρ2, st2⟩
          · rfl
          · simp only [bK_some]
            rcases h4 : cl f (.ins C' fs xs :: ds) st2 with _ | ⟨d, st3⟩ <;> rfl
      · simp [h]
    | _ => rfl
def fldD (f : String) : D → Option D | .ins C fs xs => (fs.idxOf? f).bind fun j => xs[j]? | _ => none
theorem z_fld {o : E} {f : String} : evE cl (.fld o f) ρ st = bK (evE cl o ρ st) fun x ρ1 st1 => oK (fldD f x) fun d => some (d, ρ1, st1) := by
  rw [evE]
  rcases h1 : evE cl o ρ st with _ | ⟨x, ρ1, st1⟩
  · rfl
  · simp only [bK_some]
    cases x with
    | ins C fs xs => simp only [fldD]; rcases h2 : ((fs.idxOf? f).bind fun j => xs[j]?) with _ | d <;> rfl
    | _ => rfl
theorem z_bi {b : Bi} {es : List E} : evE cl (.bi b es) ρ st = bK (evEs cl es ρ st) fun ds ρ1 st1 => oK (biD b ds) fun d => some (d, ρ1, st1) := by
  rw [evE]
  rcases h1 : evEs cl es ρ st with _ | ⟨ds, ρ1, st1⟩
  · rfl
  · simp only [bK_some]
    rcases h2 : biD b ds with _ | d
    · rfl
    · simp only [oK_some]
      first | done | rfl
theorem z_bf {b : Bf} {es : List E} : evE cl (.bf b es) ρ st = bK (evEs cl es ρ st) fun ds ρ1 st1 => oK (bfD b ds) fun d => some (d, ρ1, st1) := by
  rw [evE]
  rcases h1 : evEs cl es ρ st with _ | ⟨ds, ρ1, st1⟩
  · rfl
  · simp only [bK_some]
    rcases h2 : bfD b ds with _ | d
    · rfl
    · simp only [oK_some]
      first | done | rfl
theorem z_isi {a : E} {ts : List String} : evE cl (.isi a ts) ρ st = bK (evE cl a ρ st) fun d ρ1 st1 => oK (tyName d) fun n => some (.bl (ts.any (isa n)), ρ1, st1) := by
  rw [evE]
  rcases h1 : evE cl a ρ st with _ | ⟨x, ρ1, st1⟩
  · rfl
  · simp only [bK_some]
    rcases h2 : tyName x with _ | n
    · rfl
    · simp only [oK_some]
      first | done | rfl
theorem z_idx {a b : E} : evE cl (.idx a b) ρ st = bK (evE cl a ρ st) fun x ρ1 st1 => bK (evE cl b ρ1 st1) fun y ρ2 st2 => oK (idxD x y) fun z => some (z, ρ2, st2) := by
  rw [evE]
  rcases h1 : evE cl a ρ st with _ | ⟨x, ρ1, st1⟩
  · rfl
  · simp only [bK_some]
    rcases h2 : evE cl b ρ1 st1 with _ | ⟨y, ρ2, st2⟩
    · rfl
    · simp only [bK_some]
      rcases h3 : idxD x y with _ | z
      · rfl
      · simp only [oK_some]
        first | done | rfl
theorem z_sl {a : E} {lo hi : Option E} : evE cl (.sl a lo hi) ρ st = bK (evE cl a ρ st) fun x ρ1 st1 => bK (evO cl lo ρ1 st1) fun l ρ2 st2 => bK (evO cl hi ρ2 st2) fun h ρ3 st3 => oK (slD x l h) fun z => some (z, ρ3, st3) := by
  rw [evE]
  rcases h1 : evE cl a ρ st with _ | ⟨x, ρ1, st1⟩
  · rfl
  · simp only [bK_some]
    rcases h2 : evO cl lo ρ1 st1 with _ | ⟨l, ρ2, st2⟩
    · rfl
    · simp only [bK_some]
      rcases h3 : evO cl hi ρ2 st2 with _ | ⟨h, ρ3, st3⟩
      · rfl
      · simp only [bK_some]
        rcases h4 : slD x l h with _ | z
        · rfl
        · simp only [oK_some]
          first | done | rfl
theorem z_sget {i k : Nat} : evE cl (.sget i k) ρ st = iK (isStt ρ i) (oK (stGet st k) fun v => some (.int v, ρ, st)) := by
  rw [evE]; unfold iK
  rcases h1 : stGet st k with _ | v <;> rfl
theorem z_snz {i : Nat} : evE cl (.snz i) ρ st = iK (isStt ρ i) (some (.bl (!st.cells.isEmpty), ρ, st)) := by
  rw [evE]; rfl
theorem z_lzip {a b : E} : evE cl (.lzip a b) ρ st = bK (evE cl a ρ st) fun x ρ1 st1 => bK (evE cl b ρ1 st1) fun y ρ2 st2 => match x, y with
        | .lst xs, .lst ys => if xs.length ≤ 1000 then some (.lst ((xs.zip ys).map fun p => .tup [p.1, p.2]), ρ2, st2) else none
        | _, _ => none := by
  rw [evE]
  rcases h1 : evE cl a ρ st with _ | ⟨x, ρ1, st1⟩
  · rfl
  · simp only [bK_some]
    rcases h2 : evE cl b ρ1 st1 with _ | ⟨y, ρ2, st2⟩
    · rfl
    · simp only [bK_some]
      first | done | rfl
def hK (m : Option (Nat × List Ky)) (k : Nat → List Ky → Option (D × Env × PSt)) : Option (D × Env × PSt) := match m with | some (i, ks) => k i ks | none => none
theorem hK_congr {m m' : Option (Nat × List Ky)} {k : Nat → List Ky → Option (D × Env × PSt)} (h : m = m') : hK m k = hK m' k := by rw [h]
theorem hK_some {i : Nat} {ks : List Ky} {k : Nat → List Ky → Option (D × Env × PSt)} : hK (some (i, ks)) k = k i ks := rfl
def hKF (k : Nat → List Ky → Option (D × Env × PSt)) (m : Option (Nat × List Ky)) : Option (D × Env × PSt) := hK m k
theorem hK_v {m : Option (Nat × List Ky)} {k : Nat → List Ky → Option (D × Env × PSt)} : hK m k = vecHd (Vector.mapFinIdx (vec1 (m)) (vecFn (hKF k))) := (v_one (hKF k) m).symm
theorem hK_w {i : Nat} {ks : List Ky} {k : Nat → List Ky → Option (D × Env × PSt)} : Vector.mapFinIdx (vec1 (some (i, ks))) (vecFn (hKF k)) = (vec1 (k i ks)) := vec_map (hKF k) _
theorem z_hin {neg : Bool} {a h : E} : evE cl (.hin neg a h) ρ st = bK (evE cl a ρ st) fun x ρ1 st1 => bK (evE cl h ρ1 st1) fun y ρ2 st2 => hK (hget st2 y) fun i ks => oK (keyD x) fun k => some (.bl (if neg then !(ks.any fun c => decide (c = k)) else ks.any fun c => decide (c = k)), ρ2, st2) := by
  rw [evE]
  rcases h1 : evE cl a ρ st with _ | ⟨x, ρ1, st1⟩
  · rfl
  · simp only [bK_some]
    rcases h2 : evE cl h ρ1 st1 with _ | ⟨y, ρ2, st2⟩
    · rfl
    · simp only [bK_some]
      rcases h3 : hget st2 y with _ | ⟨i, ks⟩
      · rfl
      · simp only [hK_some]
        rcases h4 : keyD x with _ | k <;> rfl
theorem z_hlen {h : E} : evE cl (.hlen h) ρ st = bK (evE cl h ρ st) fun y ρ1 st1 => hK (hget st1 y) fun i ks => some (.int ks.length, ρ1, st1) := by
  rw [evE]
  rcases h1 : evE cl h ρ st with _ | ⟨y, ρ1, st1⟩
  · rfl
  · simp only [bK_some]
    rcases h2 : hget st1 y with _ | ⟨i, ks⟩
    · rfl
    · simp only [hK_some]
      first | done | rfl
theorem z_hkeys {h : E} : evE cl (.hkeys h) ρ st = bK (evE cl h ρ st) fun y ρ1 st1 => hK (hget st1 y) fun i ks => some (.lst (ks.map kyD), ρ1, st1) := by
  rw [evE]
  rcases h1 : evE cl h ρ st with _ | ⟨y, ρ1, st1⟩
  · rfl
  · simp only [bK_some]
    rcases h2 : hget st1 y with _ | ⟨i, ks⟩
    · rfl
    · simp only [hK_some]
      first | done | rfl
theorem z_hne {h : E} : evE cl (.hne h) ρ st = bK (evE cl h ρ st) fun y ρ1 st1 => hK (hget st1 y) fun i ks => some (.bl (!ks.isEmpty), ρ1, st1) := by
  rw [evE]
  rcases h1 : evE cl h ρ st with _ | ⟨y, ρ1, st1⟩
  · rfl
  · simp only [bK_some]
    rcases h2 : hget st1 y with _ | ⟨i, ks⟩
    · rfl
    · simp only [hK_some]
      first | done | rfl
theorem z_lc {own : List Nat} {tg : Tg} {k : Sk} {src : List E} {c : Option E} {el : E} : evE cl (.lc own tg k src c el) ρ st = bK (evEs cl src ρ st) fun ds ρ1 st1 => oK (srcD k ds) fun xs => bK (lcLoop (lcB cl own tg c el) xs (wipeE ρ1 own) st1) fun ys ρ2 st2 => iK (okLen ys.length) (some (.lst ys, backE ρ1 ρ2 own, st2)) := by
  rw [evE]
  rcases h1 : evEs cl src ρ st with _ | ⟨ds, ρ1, st1⟩
  · rfl
  · simp only [bK_some]
    rcases h2 : srcD k ds with _ | xs
    · rfl
    · simp only [oK_some]
      unfold bK lcB
      generalize lcLoop _ xs (wipeE ρ1 own) st1 = m
      rcases m with _ | ⟨ys, ρ2, st2⟩
      · rfl
      · simp only; unfold iK okLen; by_cases h : ys.length ≤ lim <;> simp [h]
theorem z_nil : evEs cl [] ρ st = some ([], ρ, st) := by rw [evEs]
theorem z_cons {e : E} {es : List E} : evEs cl (e :: es) ρ st = bK (evE cl e ρ st) fun d ρ1 st1 => bK (evEs cl es ρ1 st1) fun ds ρ2 st2 => some (d :: ds, ρ2, st2) := by
  rw [evEs]
  rcases h1 : evE cl e ρ st with _ | ⟨d, ρ1, st1⟩
  · rfl
  · simp only [bK_some]
    rcases h2 : evEs cl es ρ1 st1 with _ | ⟨ds, ρ2, st2⟩
    · rfl
    · simp only [bK_some]
      first | done | rfl
def intO : D → Option (Option Int) | .int i => some (some i) | _ => none
theorem z_no : evO cl none ρ st = some (none, ρ, st) := by rw [evO]
theorem z_so {e : E} : evO cl (some e) ρ st = bK (evE cl e ρ st) fun x ρ1 st1 => oK (intO x) fun z => some (z, ρ1, st1) := by
  rw [evO]; cases evE cl e ρ st with
  | none => rfl
  | some q => obtain ⟨x, ρ1, st1⟩ := q; cases x <;> rfl
theorem z_no' : evO' cl none ρ st = some (.bl true, ρ, st) := by rw [evO']
theorem z_so' {e : E} : evO' cl (some e) ρ st = evE cl e ρ st := by rw [evO']
theorem lcB_app {own : List Nat} {tg : Tg} {c : Option E} {el : E} {x : D} : lcB cl own tg c el x ρ st = oK (bindD tg x ρ) fun ρ1 => bK (evO' cl c ρ1 st) fun b ρ2 st2 => tK b (bK (evE cl el ρ2 st2) fun y ρ3 st3 => some (some y, wipeE ρ3 own, st3)) (some (none, wipeE ρ2 own, st2)) := by
  unfold lcB
  rcases h1 : bindD tg x ρ with _ | ρ1
  · rfl
  · simp only [oK_some]
    rcases h2 : evO' cl c ρ1 st with _ | ⟨b, ρ2, st2⟩
    · rfl
    · simp only [bK_some]
      cases b with
      | bl z =>
        cases z with
        | false => rfl
        | true => simp only [tK_true]; rcases h4 : evE cl el ρ2 st2 with _ | ⟨y, ρ3, st3⟩ <;> rfl
      | _ => rfl
theorem forB_app {tg : Tg} {b : List S} {x : D} : forB cl wf tg b x ρ st = oK (bindD tg x ρ) fun ρ1 => exL cl wf b ρ1 st := by
  unfold forB; rcases bindD tg x ρ with _ | ρ1 <;> rfl
theorem whC_app {c : E} : whC cl c ρ st = evE cl c ρ st := rfl
theorem whB_app {b : List S} : whB cl wf b ρ st = exL cl wf b ρ st := rfl
theorem z_bnm {i : Nat} {d : D} : bindD (.nm i) d ρ = some (ρ.set i (some (false, d))) := rfl
/-! ### statements -/
theorem z_set {i : Nat} {e : E} : exS cl wf (.set i e) ρ st = bK (evE cl e ρ st) fun d ρ1 st1 => some (.nx, ρ1.set i (some (false, d)), st1) := by
  rw [exS]
  rcases h1 : evE cl e ρ st with _ | ⟨d, ρ1, st1⟩
  · rfl
  · simp only [bK_some]
    first | done | rfl
theorem z_own {i : Nat} {e : E} : exS cl wf (.own i e) ρ st = bK (evE cl e ρ st) fun d ρ1 st1 => some (.nx, ρ1.set i (some (true, d)), st1) := by
  rw [exS]
  rcases h1 : evE cl e ρ st with _ | ⟨d, ρ1, st1⟩
  · rfl
  · simp only [bK_some]
    first | done | rfl
def seqO : D → Option (List D) | .tup ds => some ds | .lst ds => some ds | _ => none
theorem z_tset {is : List Nat} {e : E} : exS cl wf (.tset is e) ρ st = bK (evE cl e ρ st) fun d ρ1 st1 => oK (seqO d) fun ds => iK (decide (ds.length = is.length)) (oK (setAll is ds ρ1) fun ρ2 => some (.nx, ρ2, st1)) := by
  rw [exS]
  rcases h1 : evE cl e ρ st with _ | ⟨x, ρ1, st1⟩
  · rfl
  · simp only [bK_some]
    cases x with
    | tup ds => simp only [seqO, oK_some]; unfold iK; by_cases h : ds.length = is.length <;> simp only [h, if_true, decide_true, if_false, decide_false, Bool.false_eq_true]; rcases h2 : setAll is ds ρ1 with _ | ρ2 <;> rfl
    | lst ds => simp only [seqO, oK_some]; unfold iK; by_cases h : ds.length = is.length <;> simp only [h, if_true, decide_true, if_false, decide_false, Bool.false_eq_true]; rcases h2 : setAll is ds ρ1 with _ | ρ2 <;> rfl
    | _ => rfl
theorem z_par {oi oj : Bool} {i j : Nat} {a b : E} : exS cl wf (.par oi oj i j a b) ρ st = bK (evE cl a ρ st) fun x ρ1 st1 => bK (evE cl b ρ1 st1) fun y ρ2 st2 => some (.nx, (ρ2.set i (some (oi, x))).set j (some (oj, y)), st2) := by
  rw [exS]
  rcases h1 : evE cl a ρ st with _ | ⟨x, ρ1, st1⟩
  · rfl
  · simp only [bK_some]
    rcases h2 : evE cl b ρ1 st1 with _ | ⟨y, ρ2, st2⟩
    · rfl
    · simp only [bK_some]
      first | done | rfl
theorem z_app {i : Nat} {e : E} : exS cl wf (.app i e) ρ st = oK (ownL ρ i) fun _ => bK (evE cl e ρ st) fun d ρ1 st1 => oK (ownL ρ1 i) fun xs => iK (okLen (xs.length + 1)) (some (.nx, ρ1.set i (some (true, .lst (xs ++ [d]))), st1)) := by
  rw [exS]
  rcases h1 : ownL ρ i with _ | d0
  · rfl
  · simp only [oK_some]
    rcases h2 : evE cl e ρ st with _ | ⟨d, ρ1, st1⟩
    · rfl
    · simp only [bK_some]
      rcases h3 : ownL ρ1 i with _ | xs
      · rfl
      · simp only [oK_some]
        unfold iK okLen; by_cases h : xs.length < lim <;> simp [h, Nat.succ_le_iff]
def lstO : D → Option (List D) | .lst ds => some ds | _ => none
theorem z_ext {i : Nat} {e : E} : exS cl wf (.ext i e) ρ st = oK (ownL ρ i) fun _ => bK (evE cl e ρ st) fun d ρ1 st1 => oK (lstO d) fun ys => oK (ownL ρ1 i) fun xs => iK (okLen (xs.length + ys.length)) (some (.nx, ρ1.set i (some (true, .lst (xs ++ ys))), st1)) := by
  rw [exS]
  rcases h1 : ownL ρ i with _ | d0
  · rfl
  · simp only [oK_some]
    rcases h2 : evE cl e ρ st with _ | ⟨d, ρ1, st1⟩
    · rfl
    · simp only [bK_some]
      cases d with
      | lst ys =>
        simp only [lstO, oK_some]
        rcases h3 : ownL ρ1 i with _ | xs
        · rfl
        · simp only [oK_some]; unfold iK okLen; by_cases h : xs.length + ys.length ≤ lim <;> simp [h]
      | _ => rfl
theorem z_put {i : Nat} {k v : E} : exS cl wf (.put i k v) ρ st = oK (ownD ρ i) fun _ => bK (evE cl v ρ st) fun y ρ1 st1 => bK (evE cl k ρ1 st1) fun x ρ2 st2 => oK (ownD ρ2 i) fun d => oK (putD d x y) fun d' => some (.nx, ρ2.set i (some (true, d')), st2) := by
  rw [exS]
  rcases h1 : ownD ρ i with _ | d0
  · rfl
  · simp only [oK_some]
    rcases h2 : evE cl v ρ st with _ | ⟨y, ρ1, st1⟩
    · rfl
    · simp only [bK_some]
      rcases h3 : evE cl k ρ1 st1 with _ | ⟨x, ρ2, st2⟩
      · rfl
      · simp only [bK_some]
        rcases h4 : ownD ρ2 i with _ | d
        · rfl
        · simp only [oK_some]
          rcases h5 : putD d x y with _ | d'
          · rfl
          · simp only [oK_some]
            first | done | rfl
theorem z_site {c : E} {a b : List S} : exS cl wf (.ite c a b) ρ st = bK (evE cl c ρ st) fun x ρ1 st1 => tK x (exL cl wf a ρ1 st1) (exL cl wf b ρ1 st1) := by
  rw [exS]; cases evE cl c ρ st with
  | none => rfl
  | some q => obtain ⟨x, ρ1, st1⟩ := q; cases x <;> first | rfl | (rename_i b; cases b <;> rfl)
theorem z_whl {c : E} {b : List S} : exS cl wf (.whl c b) ρ st = whlL (whC cl c) (whB cl wf b) wf ρ st := by rw [exS]; rfl
theorem z_for {tg : Tg} {k : Sk} {src : List E} {b : List S} : exS cl wf (.for tg k src b) ρ st = bK (evEs cl src ρ st) fun ds ρ1 st1 => oK (srcD k ds) fun xs => forL (forB cl wf tg b) xs ρ1 st1 := by
  rw [exS]
  rcases h1 : evEs cl src ρ st with _ | ⟨ds, ρ1, st1⟩
  · rfl
  · simp only [bK_some]
    rcases h2 : srcD k ds with _ | xs
    · rfl
    · simp only [oK_some]
      first | done | rfl
theorem z_ret {e : E} : exS cl wf (.ret e) ρ st = bK (evE cl e ρ st) fun d ρ1 st1 => some (.rt d, ρ1, st1) := by
  rw [exS]
  rcases h1 : evE cl e ρ st with _ | ⟨d, ρ1, st1⟩
  · rfl
  · simp only [bK_some]
    first | done | rfl
theorem z_ex {e : E} : exS cl wf (.ex e) ρ st = bK (evE cl e ρ st) fun d ρ1 st1 => some (.nx, ρ1, st1) := by
  rw [exS]
  rcases h1 : evE cl e ρ st with _ | ⟨d, ρ1, st1⟩
  · rfl
  · simp only [bK_some]
    first | done | rfl
theorem z_pass : exS cl wf .pass ρ st = some (.nx, ρ, st) := by rw [exS]
theorem z_snil : exL cl wf [] ρ st = some (.nx, ρ, st) := by rw [exL]
theorem z_scons {s : S} {r : List S} : exL cl wf (s :: r) ρ st = sK (exS cl wf s ρ st) fun ρ1 st1 => exL cl wf r ρ1 st1 := by
  rw [exL]
  rcases h1 : exS cl wf s ρ st with _ | ⟨o, ρ1, st1⟩
  · rfl
  · cases o <;> rfl
def intI : D → Option Int | .int i => some i | _ => none
theorem z_sput {i k : Nat} {e : E} : exS cl wf (.sput i k e) ρ st = bK (evE cl e ρ st) fun x ρ1 st1 => oK (intI x) fun v => iK (isStt ρ1 i) (oK (stPut st1 v k) fun st2 => some (.nx, ρ1, st2)) := by
  rw [exS]
  rcases h1 : evE cl e ρ st with _ | ⟨x, ρ1, st1⟩
  · rfl
  · simp only [bK_some]
    cases x with
    | int v => simp only [intI, oK_some]; unfold iK; rcases h2 : stPut st1 v k with _ | st2 <;> rfl
    | _ => rfl
def hndI : D → Option Nat | .hnd i => some i | _ => none
theorem z_hput {h k v : E} : exS cl wf (.hput h k v) ρ st = bK (evE cl v ρ st) fun y ρ1 st1 => bK (evE cl h ρ1 st1) fun d ρ2 st2 => bK (evE cl k ρ2 st2) fun x ρ3 st3 => oK (hndI d) fun i => oK (keyD x) fun c => oK ((st3.hd[i]?).bind fun q => hputD q c y) fun d' => some (.nx, ρ3, hset st3 i d') := by
  rw [exS]
  rcases h1 : evE cl v ρ st with _ | ⟨y, ρ1, st1⟩
  · rfl
  · simp only [bK_some]
    rcases h2 : evE cl h ρ1 st1 with _ | ⟨d, ρ2, st2⟩
    · rfl
    · simp only [bK_some]
      rcases h3 : evE cl k ρ2 st2 with _ | ⟨x, ρ3, st3⟩
      · rfl
      · simp only [bK_some]
        cases d with
        | hnd i =>
          simp only [hndI, oK_some]
          rcases h4 : keyD x with _ | c
          · rfl
          · simp only [oK_some]
            rcases h5 : ((st3.hd[i]?).bind fun q => hputD q c y) with _ | d' <;> rfl
        | _ => rfl
theorem z_hupd {a b : E} : exS cl wf (.hupd a b) ρ st = bK (evE cl a ρ st) fun x ρ1 st1 => iK (hget st1 x).isSome (bK (evE cl b ρ1 st1) fun y ρ2 st2 => oK (hndI x) fun i => oK (hndI y) fun j => iK (decide (i ≠ j)) (oK ((st2.hd[i]?).bind fun q => (st2.hd[j]?).bind fun r => hupdD q r) fun d' => some (.nx, ρ2, hset st2 i d'))) := by
  rw [exS]
  rcases h1 : evE cl a ρ st with _ | ⟨x, ρ1, st1⟩
  · rfl
  · simp only [bK_some]
    unfold iK
    rcases h0 : hget st1 x with _ | q
    · simp
    · simp only [Option.isNone_some, Option.isSome_some, if_true, Bool.false_eq_true, if_false]
      rcases h2 : evE cl b ρ1 st1 with _ | ⟨y, ρ2, st2⟩
      · rfl
      · simp only [bK_some]
        cases x with
        | hnd i => cases y with
          | hnd j =>
            simp only [hndI, oK_some]
            by_cases h : i = j
            · simp [h]
            · simp only [h, ne_eq, not_false_eq_true, if_true, decide_true]
              rcases h3 : ((st2.hd[i]?).bind fun q => (st2.hd[j]?).bind fun r => hupdD q r) with _ | d' <;> rfl
          | _ => rfl
        | _ => rfl
theorem z_fst {i : Nat} {f : String} {e : E} {C : String} {fs : List String} {xs : List D} {d : D} {ρ1 : Env} {st1 : PSt} {d0 : D} (h0 : ownD ρ i = some d0) (h : evE cl e ρ st = some (d, ρ1, st1)) (h1 : ownD ρ1 i = some (.ins C fs xs)) (h2 : f ∉ fs ∧ fs.length < 100) : exS cl wf (.fst i f e) ρ st = some (.nx, ρ1.set i (some (true, .ins C (fs ++ [f]) (xs ++ [d]))), st1) := by
  rw [exS, h0]; simp only [h, h1, if_pos h2]
theorem z_run {f : Fn} {ds : List D} (h : ds.length = f.ps) : runFn wf cl f ds st = fK (exL cl wf f.body (start f ds) st) := by
  unfold runFn; rw [if_pos h]
  rcases h1 : exL cl wf f.body (start f ds) st with _ | ⟨o, ρ1, st1⟩
  · rfl
  · cases o <;> rfl
theorem z_runIni {f : Fn} {C : String} {ds : List D} {ρ1 : Env} {st1 : PSt} {fs : List String} {xs : List D} (h : ds.length + 1 = f.ps) (e : exL cl wf f.body (some (true, .ins C [] []) :: start f ds) st = some (.nx, ρ1, st1)) (h1 : ownD ρ1 0 = some (.ins C fs xs)) : runIni wf cl f C ds st = some (.ins C fs xs, st1) := by
  unfold runIni; rw [if_pos h, e]; simp only [h1, if_pos]
end
section
variable {wf : Nat} {P : Pr} {G : String → Option Fn}
theorem z_fn {n : Nat} {f : String} {ps ns : Nat} {body : List S} (h : P f = none ∧ G f = some ⟨ps, ns, body, none⟩) {ds : List D} {st : PSt} (hl : ds.length = ps) : call wf P G (n + 1) f ds st = fK (exL (call wf P G n) wf body (ds.map (fun d => some (false, d)) ++ List.replicate (ns - ps) none) st) := by
  rw [call_fn h.1 h.2, z_run hl]; rfl
end
end Ev
/-! Ly -/
/-! Ly: operations on data, one by one. -/
namespace Ev
section
variable {i j : Int} {a b l m : List Nat} {xs ys : List D} {x y : D} {p q : Bool} {k n : Nat}
theorem y_add : binD .add (.int i) (.int j) = some (.int (i + j)) := rfl
theorem y_addS (h : a.length + b.length ≤ lim) : binD .add (.str a) (.str b) = some (.str (a ++ b)) := if_pos h
theorem y_addL (h : xs.length + ys.length ≤ lim) : binD .add (.lst xs) (.lst ys) = some (.lst (xs ++ ys)) := if_pos h
theorem y_sub : binD .sub (.int i) (.int j) = some (.int (i - j)) := rfl
theorem y_mulR (h : -1000000000 < j) (h2 : j < 10000000000) : binD .mul (.int i) (.int j) = some (.int (i * j)) := if_pos (.inr (by omega))
theorem y_mulL (h : -1000000000 < i) (h2 : i < 10000000000) : binD .mul (.int i) (.int j) = some (.int (i * j)) := if_pos (.inl (by omega))
theorem y_mulS (h : 0 ≤ j) (h2 : j ≤ 1000) (h3 : a.length ≤ 1000) : binD .mul (.str a) (.int j) = some (.str (List.replicate j.toNat a).flatten) := if_pos ⟨h, h2, h3⟩
theorem y_mod (h : 0 < j) : binD .mod (.int i) (.int j) = some (.int (i % j)) := if_pos h
theorem y_div (h : 0 < j) (h2 : j < 1073741824) : binD .fdiv (.int i) (.int j) = some (.int (i / j)) := if_pos ⟨h, h2⟩
theorem y_pow (h : 0 ≤ j) (h2 : j ≤ 1000000) (h3 : i.natAbs < 2 ^ 64) : binD .pow (.int i) (.int j) = some (.int (i ^ j.toNat)) := if_pos ⟨h, h2, h3⟩
theorem y_band : binD .band (.int i) (.int j) = some (.int (PySem.Builtin.bitAnd i j)) := rfl
theorem y_bor : binD .bor (.int i) (.int j) = some (.int (PySem.Builtin.bitOr i j)) := rfl
theorem y_eq : cmpD .eq x y = eqD x y := by unfold cmpD; rfl
theorem y_ne : cmpD .ne x y = (eqD x y).map (! ·) := by unfold cmpD; rfl
theorem y_lt : cmpD .lt (.int i) (.int j) = some (decide (i < j)) := rfl
theorem y_le : cmpD .le (.int i) (.int j) = some (decide (i ≤ j)) := rfl
theorem y_gt : cmpD .gt (.int i) (.int j) = some (decide (j < i)) := rfl
theorem y_ge : cmpD .ge (.int i) (.int j) = some (decide (j ≤ i)) := rfl
theorem y_ltS : cmpD .lt (.str a) (.str b) = some (decide (a < b)) := rfl
theorem y_inn : cmpD .inn x y = inD x y := by unfold cmpD; rfl
theorem y_nin : cmpD .nin x y = (inD x y).map (! ·) := by unfold cmpD; rfl
theorem e_ii : eqD (.int i) (.int j) = some (i == j) := rfl
theorem e_ss : eqD (.str a) (.str b) = some (a == b) := rfl
theorem e_bb : eqD (.bl p) (.bl q) = some (p == q) := rfl
theorem e_nn : eqD .non .non = some true := rfl
theorem e_si : eqD (.str a) (.int j) = some false := rfl
theorem e_is : eqD (.int j) (.str a) = some false := rfl
theorem i_ss : inD (.str a) (.str b) = some (inStrD a b) := rfl
theorem i_s1 : inStrD [k] a = decide (k ∈ a) := rfl
def strL (ls : List (List Nat)) : List D := ls.map D.str
theorem flat_strL : ∀ ls : List (List Nat), (strL ls).all flatD = true
  | [] => rfl
  | l :: r => by show (flatD (.str l) && (strL r).all flatD) = true; rw [flat_strL r]; rfl
theorem any_strL (a : List Nat) : ∀ ls : List (List Nat), ((strL ls).any fun y => eqF y (.str a)) = decide (a ∈ ls)
  | [] => rfl
  | l :: r => by
    show (eqF (.str l) (.str a) || (strL r).any fun y => eqF y (.str a)) = _
    rw [any_strL a r]
    show (l == a || decide (a ∈ r)) = _
    rw [Bool.eq_iff_iff]
    simp only [Bool.or_eq_true, beq_iff_eq, decide_eq_true_eq, List.mem_cons]
    constructor
    · rintro (h | h)
      · exact .inl h.symm
      · exact .inr h
    · rintro (h | h)
      · exact .inl h.symm
      · exact .inr h
theorem i_sL {ls : List (List Nat)} : inD (.str a) (.lst (strL ls)) = some (decide (a ∈ ls)) := by
  show (if flatD (.str a) && (strL ls).all flatD then some ((strL ls).any fun y => eqF y (.str a)) else none) = _
  rw [flat_strL, any_strL]; rfl
theorem i_sT {ls : List (List Nat)} : inD (.str a) (.tup (strL ls)) = some (decide (a ∈ ls)) := by
  show (if flatD (.str a) && (strL ls).all flatD then some ((strL ls).any fun y => eqF y (.str a)) else none) = _
  rw [flat_strL, any_strL]; rfl
theorem q_lenL : biD .len [.lst xs] = some (.int (xs.length : Int)) := rfl
theorem q_lenT : biD .len [.tup xs] = some (.int (xs.length : Int)) := rfl
theorem q_lenS (h : a.length ≤ lim) : biD .len [.str a] = some (.int (a.length : Int)) := if_pos h
theorem q_lenD {ks : List Ky} : biD .len [.dct ks xs] = some (.int (ks.length : Int)) := rfl
theorem q_abs : biD .abs [.int i] = some (.int (if i < 0 then -i else i)) := rfl
theorem q_max : biD .max2 [.int i, .int j] = some (.int (if j > i then j else i)) := rfl
theorem q_min : biD .min2 [.int i, .int j] = some (.int (if j < i then j else i)) := rfl
theorem q_int : biD .int1 [.int i] = some (.int i) := rfl
theorem q_int2 (h1 : isBits l = true) (h2 : l ≠ []) (h3 : l.length ≤ 640) : biD .int2 [.str l, .int 2] = some (.int (EvBin.worth l : Nat)) := by
  unfold biD; simp [h1, h2, h3]
def blsL (bs : List Bool) : List D := bs.map D.bl
theorem blsD_of : ∀ bs : List Bool, blsD (blsL bs) = some bs
  | [] => rfl
  | b :: r => by show (blsD (blsL r)).map (b :: ·) = _; rw [blsD_of r]; rfl
theorem strsD_of : ∀ ls : List (List Nat), strsD (strL ls) = some ls
  | [] => rfl
  | l :: r => by show (strsD (strL r)).map (l :: ·) = _; rw [strsD_of r]; rfl
theorem q_all {bs : List Bool} : biD .all [.lst (blsL bs)] = some (.bl (bs.all id)) := by
  show (blsD (blsL bs)).map _ = _; rw [blsD_of]; rfl
theorem q_any {bs : List Bool} : biD .any [.lst (blsL bs)] = some (.bl (bs.any id)) := by
  show (blsD (blsL bs)).map _ = _; rw [blsD_of]; rfl
theorem joinL_nil : ∀ ls : List (List Nat), joinD [] ls = ls.flatten
  | [] => rfl
  | [a] => by simp [joinD, TL.joinL]
  | a :: b :: r => by
    have := joinL_nil (b :: r)
    simp only [joinD, TL.joinL] at this ⊢
    simp [this]
theorem q_join {ls : List (List Nat)} (h : (ls.map List.length).sum ≤ lim) : biD .join [.str [], .lst (strL ls)] = some (.str ls.flatten) := by
  show (match strsD (strL ls) with | some ls => _ | none => _) = _
  rw [strsD_of]
  simp only [List.length_nil, Nat.mul_zero, Nat.add_zero, if_pos h, joinL_nil]
theorem c_listL : bfD .list [.lst xs] = some (.lst xs) := rfl
theorem c_listT : bfD .list [.tup xs] = some (.lst xs) := rfl
theorem ixN_nat {n k : Nat} (h : k < n) : ixN n (k : Int) = some k := by
  unfold ixN L2.ixN
  rw [if_pos (by omega), if_pos (by omega)]
  simp
theorem d_lst (h : xs[k]? = some x) : idxD (.lst xs) (.int (k : Int)) = some x := by
  show (ixN xs.length (k : Int)).bind _ = _; rw [ixN_nat (List.getElem?_eq_some_iff.mp h).1]; exact h
theorem d_tup (h : xs[k]? = some x) : idxD (.tup xs) (.int (k : Int)) = some x := by
  show (ixN xs.length (k : Int)).bind _ = _; rw [ixN_nat (List.getElem?_eq_some_iff.mp h).1]; exact h
theorem d_str (h : a[k]? = some n) (h2 : a.length ≤ lim) : idxD (.str a) (.int (k : Int)) = some (.str [n]) := by
  show (if a.length ≤ lim then _ else none) = _; rw [if_pos h2, ixN_nat (List.getElem?_eq_some_iff.mp h).1]; simp [h]
theorem d_lst0 : idxD (.lst (x :: xs)) (.int 0) = some x := d_lst (k := 0) rfl
theorem d_lst1 : idxD (.lst (x :: y :: xs)) (.int 1) = some y := d_lst (k := 1) rfl
theorem d_lst2 {z : D} : idxD (.lst (x :: y :: z :: xs)) (.int 2) = some z := d_lst (k := 2) rfl
theorem d_tup0 : idxD (.tup (x :: xs)) (.int 0) = some x := d_tup (k := 0) rfl
theorem d_tup1 : idxD (.tup (x :: y :: xs)) (.int 1) = some y := d_tup (k := 1) rfl
theorem d_tup2 {z : D} : idxD (.tup (x :: y :: z :: xs)) (.int 2) = some z := d_tup (k := 2) rfl
theorem d_str0 (h : (k :: a).length ≤ lim) : idxD (.str (k :: a)) (.int 0) = some (.str [k]) := d_str (k := 0) rfl h
theorem s_seqL : srcD .seq [.lst xs] = some xs := rfl
theorem s_seqT : srcD .seq [.tup xs] = some xs := rfl
theorem s_seqS : srcD .seq [.str l] = some (l.map fun c => .str [c]) := rfl
/-- what range hands out -/
def rngL (n : Nat) : List D := (List.range n).map fun (i : Nat) => D.int (i : Int)
theorem s_rng (h : k ≤ 1000000) : srcD .rng [.int (k : Int)] = some (rngL k) := by
  have h1 : -(2 ^ 62) ≤ (k : Int) ∧ (k : Int) < 2 ^ 62 := by omega
  have h2 : srcD .rng [.int (k : Int)] = if -(2 ^ 62) ≤ (k : Int) ∧ (k : Int) < 2 ^ 62 then some ((List.range (k : Int).toNat).map fun (i : Nat) => D.int i) else none := rfl
  rw [h2, if_pos h1, Int.toNat_natCast]; rfl
theorem s_rng1 : srcD .rng [.int 1] = some (rngL 1) := s_rng (k := 1) (by decide)
theorem s_rng2 : srcD .rng [.int 2] = some (rngL 2) := s_rng (k := 2) (by decide)
theorem s_rng3 : srcD .rng [.int 3] = some (rngL 3) := s_rng (k := 3) (by decide)
theorem s_rng4 : srcD .rng [.int 4] = some (rngL 4) := s_rng (k := 4) (by decide)
theorem s_rng5 : srcD .rng [.int 5] = some (rngL 5) := s_rng (k := 5) (by decide)
theorem s_rng6 : srcD .rng [.int 6] = some (rngL 6) := s_rng (k := 6) (by decide)
theorem s_rng7 : srcD .rng [.int 7] = some (rngL 7) := s_rng (k := 7) (by decide)
theorem s_rng8 : srcD .rng [.int 8] = some (rngL 8) := s_rng (k := 8) (by decide)
theorem s_rng600 : srcD .rng [.int 600] = some (rngL 600) := s_rng (k := 600) (by decide)
theorem s_enm : srcD .enm [.lst xs] = some (xs.zipIdx.map fun p => .tup [.int (p.2 : Nat), p.1]) := rfl
theorem s_zpL : srcD .zp [.lst xs, .lst ys] = some ((xs.zip ys).map fun p => .tup [p.1, p.2]) := rfl
theorem s_zpT : srcD .zp [.tup xs, .tup ys] = some ((xs.zip ys).map fun p => .tup [p.1, p.2]) := rfl
end
/-- whether a thing is of one of some classes -/
def tyB (d : D) (ts : List String) : Option Bool := (tyName d).map fun n => ts.any (isa n)
theorem z_isi' {cl : Cl} {ρ : Env} {st : PSt} {a : E} {ts : List String} : evE cl (.isi a ts) ρ st = bK (evE cl a ρ st) fun d ρ1 st1 => oK (tyB d ts) fun b => some (.bl b, ρ1, st1) := by
  rw [z_isi]
  rcases evE cl a ρ st with _ | ⟨d, ρ1, st1⟩
  · rfl
  · simp only [bK_some, tyB]; rcases tyName d with _ | n <;> rfl
section
variable {i j : Int} {a b l m : List Nat} {xs ys : List D} {x y : D} {p q : Bool} {k n : Nat} {ks : List Ky}
theorem t_1 : tyB .non ["int"] = some false := congrArg some (by decide +kernel : (["int"] : List String).any (isa "NoneType") = false)
theorem t_2 : tyB .non ["bool"] = some false := congrArg some (by decide +kernel : (["bool"] : List String).any (isa "NoneType") = false)
theorem t_3 : tyB .non ["str"] = some false := congrArg some (by decide +kernel : (["str"] : List String).any (isa "NoneType") = false)
theorem t_4 : tyB .non ["list"] = some false := congrArg some (by decide +kernel : (["list"] : List String).any (isa "NoneType") = false)
theorem t_5 : tyB .non ["tuple"] = some false := congrArg some (by decide +kernel : (["tuple"] : List String).any (isa "NoneType") = false)
theorem t_6 : tyB .non ["dict"] = some false := congrArg some (by decide +kernel : (["dict"] : List String).any (isa "NoneType") = false)
theorem t_7 : tyB .non ["list", "tuple"] = some false := congrArg some (by decide +kernel : (["list", "tuple"] : List String).any (isa "NoneType") = false)
theorem t_8 : tyB .non ["Gates"] = some false := congrArg some (by decide +kernel : (["Gates"] : List String).any (isa "NoneType") = false)
theorem t_9 : tyB .non ["Listing"] = some false := congrArg some (by decide +kernel : (["Listing"] : List String).any (isa "NoneType") = false)
theorem t_10 : tyB (.bl p) ["int"] = some true := congrArg some (by decide +kernel : (["int"] : List String).any (isa "bool") = true)
theorem t_11 : tyB (.bl p) ["bool"] = some true := congrArg some (by decide +kernel : (["bool"] : List String).any (isa "bool") = true)
theorem t_12 : tyB (.bl p) ["str"] = some false := congrArg some (by decide +kernel : (["str"] : List String).any (isa "bool") = false)
theorem t_13 : tyB (.bl p) ["list"] = some false := congrArg some (by decide +kernel : (["list"] : List String).any (isa "bool") = false)
theorem t_14 : tyB (.bl p) ["tuple"] = some false := congrArg some (by decide +kernel : (["tuple"] : List String).any (isa "bool") = false)
theorem t_15 : tyB (.bl p) ["dict"] = some false := congrArg some (by decide +kernel : (["dict"] : List String).any (isa "bool") = false)
theorem t_16 : tyB (.bl p) ["list", "tuple"] = some false := congrArg some (by decide +kernel : (["list", "tuple"] : List String).any (isa "bool") = false)
theorem t_17 : tyB (.bl p) ["Gates"] = some false := congrArg some (by decide +kernel : (["Gates"] : List String).any (isa "bool") = false)
theorem t_18 : tyB (.bl p) ["Listing"] = some false := congrArg some (by decide +kernel : (["Listing"] : List String).any (isa "bool") = false)
theorem t_19 : tyB (.int i) ["int"] = some true := congrArg some (by decide +kernel : (["int"] : List String).any (isa "int") = true)
theorem t_20 : tyB (.int i) ["bool"] = some false := congrArg some (by decide +kernel : (["bool"] : List String).any (isa "int") = false)
theorem t_21 : tyB (.int i) ["str"] = some false := congrArg some (by decide +kernel : (["str"] : List String).any (isa "int") = false)
theorem t_22 : tyB (.int i) ["list"] = some false := congrArg some (by decide +kernel : (["list"] : List String).any (isa "int") = false)
theorem t_23 : tyB (.int i) ["tuple"] = some false := congrArg some (by decide +kernel : (["tuple"] : List String).any (isa "int") = false)
theorem t_24 : tyB (.int i) ["dict"] = some false := congrArg some (by decide +kernel : (["dict"] : List String).any (isa "int") = false)
theorem t_25 : tyB (.int i) ["list", "tuple"] = some false := congrArg some (by decide +kernel : (["list", "tuple"] : List String).any (isa "int") = false)
theorem t_26 : tyB (.int i) ["Gates"] = some false := congrArg some (by decide +kernel : (["Gates"] : List String).any (isa "int") = false)
theorem t_27 : tyB (.int i) ["Listing"] = some false := congrArg some (by decide +kernel : (["Listing"] : List String).any (isa "int") = false)
theorem t_28 : tyB (.str a) ["int"] = some false := congrArg some (by decide +kernel : (["int"] : List String).any (isa "str") = false)
theorem t_29 : tyB (.str a) ["bool"] = some false := congrArg some (by decide +kernel : (["bool"] : List String).any (isa "str") = false)
theorem t_30 : tyB (.str a) ["str"] = some true := congrArg some (by decide +kernel : (["str"] : List String).any (isa "str") = true)
theorem t_31 : tyB (.str a) ["list"] = some false := congrArg some (by decide +kernel : (["list"] : List String).any (isa "str") = false)
theorem t_32 : tyB (.str a) ["tuple"] = some false := congrArg some (by decide +kernel : (["tuple"] : List String).any (isa "str") = false)
theorem t_33 : tyB (.str a) ["dict"] = some false := congrArg some (by decide +kernel : (["dict"] : List String).any (isa "str") = false)
theorem t_34 : tyB (.str a) ["list", "tuple"] = some false := congrArg some (by decide +kernel : (["list", "tuple"] : List String).any (isa "str") = false)
theorem t_35 : tyB (.str a) ["Gates"] = some false := congrArg some (by decide +kernel : (["Gates"] : List String).any (isa "str") = false)
theorem t_36 : tyB (.str a) ["Listing"] = some false := congrArg some (by decide +kernel : (["Listing"] : List String).any (isa "str") = false)
theorem t_37 : tyB (.lst xs) ["int"] = some false := congrArg some (by decide +kernel : (["int"] : List String).any (isa "list") = false)
theorem t_38 : tyB (.lst xs) ["bool"] = some false := congrArg some (by decide +kernel : (["bool"] : List String).any (isa "list") = false)
theorem t_39 : tyB (.lst xs) ["str"] = some false := congrArg some (by decide +kernel : (["str"] : List String).any (isa "list") = false)
theorem t_40 : tyB (.lst xs) ["list"] = some true := congrArg some (by decide +kernel : (["list"] : List String).any (isa "list") = true)
theorem t_41 : tyB (.lst xs) ["tuple"] = some false := congrArg some (by decide +kernel : (["tuple"] : List String).any (isa "list") = false)
theorem t_42 : tyB (.lst xs) ["dict"] = some false := congrArg some (by decide +kernel : (["dict"] : List String).any (isa "list") = false)
theorem t_43 : tyB (.lst xs) ["list", "tuple"] = some true := congrArg some (by decide +kernel : (["list", "tuple"] : List String).any (isa "list") = true)
theorem t_44 : tyB (.lst xs) ["Gates"] = some false := congrArg some (by decide +kernel : (["Gates"] : List String).any (isa "list") = false)
theorem t_45 : tyB (.lst xs) ["Listing"] = some false := congrArg some (by decide +kernel : (["Listing"] : List String).any (isa "list") = false)
theorem t_46 : tyB (.tup xs) ["int"] = some false := congrArg some (by decide +kernel : (["int"] : List String).any (isa "tuple") = false)
theorem t_47 : tyB (.tup xs) ["bool"] = some false := congrArg some (by decide +kernel : (["bool"] : List String).any (isa "tuple") = false)
theorem t_48 : tyB (.tup xs) ["str"] = some false := congrArg some (by decide +kernel : (["str"] : List String).any (isa "tuple") = false)
theorem t_49 : tyB (.tup xs) ["list"] = some false := congrArg some (by decide +kernel : (["list"] : List String).any (isa "tuple") = false)
theorem t_50 : tyB (.tup xs) ["tuple"] = some true := congrArg some (by decide +kernel : (["tuple"] : List String).any (isa "tuple") = true)
theorem t_51 : tyB (.tup xs) ["dict"] = some false := congrArg some (by decide +kernel : (["dict"] : List String).any (isa "tuple") = false)
theorem t_52 : tyB (.tup xs) ["list", "tuple"] = some true := congrArg some (by decide +kernel : (["list", "tuple"] : List String).any (isa "tuple") = true)
theorem t_53 : tyB (.tup xs) ["Gates"] = some false := congrArg some (by decide +kernel : (["Gates"] : List String).any (isa "tuple") = false)
theorem t_54 : tyB (.tup xs) ["Listing"] = some false := congrArg some (by decide +kernel : (["Listing"] : List String).any (isa "tuple") = false)
theorem t_55 : tyB (.dct ks xs) ["int"] = some false := congrArg some (by decide +kernel : (["int"] : List String).any (isa "dict") = false)
theorem t_56 : tyB (.dct ks xs) ["bool"] = some false := congrArg some (by decide +kernel : (["bool"] : List String).any (isa "dict") = false)
theorem t_57 : tyB (.dct ks xs) ["str"] = some false := congrArg some (by decide +kernel : (["str"] : List String).any (isa "dict") = false)
theorem t_58 : tyB (.dct ks xs) ["list"] = some false := congrArg some (by decide +kernel : (["list"] : List String).any (isa "dict") = false)
theorem t_59 : tyB (.dct ks xs) ["tuple"] = some false := congrArg some (by decide +kernel : (["tuple"] : List String).any (isa "dict") = false)
theorem t_60 : tyB (.dct ks xs) ["dict"] = some true := congrArg some (by decide +kernel : (["dict"] : List String).any (isa "dict") = true)
theorem t_61 : tyB (.dct ks xs) ["list", "tuple"] = some false := congrArg some (by decide +kernel : (["list", "tuple"] : List String).any (isa "dict") = false)
theorem t_62 : tyB (.dct ks xs) ["Gates"] = some false := congrArg some (by decide +kernel : (["Gates"] : List String).any (isa "dict") = false)
theorem t_63 : tyB (.dct ks xs) ["Listing"] = some false := congrArg some (by decide +kernel : (["Listing"] : List String).any (isa "dict") = false)
theorem t_64 {fs : List String} : tyB (.ins "Gates" fs xs) ["int"] = some false := congrArg some (by decide +kernel : (["int"] : List String).any (isa "Gates") = false)
theorem t_65 {fs : List String} : tyB (.ins "Gates" fs xs) ["bool"] = some false := congrArg some (by decide +kernel : (["bool"] : List String).any (isa "Gates") = false)
theorem t_66 {fs : List String} : tyB (.ins "Gates" fs xs) ["str"] = some false := congrArg some (by decide +kernel : (["str"] : List String).any (isa "Gates") = false)
theorem t_67 {fs : List String} : tyB (.ins "Gates" fs xs) ["list"] = some false := congrArg some (by decide +kernel : (["list"] : List String).any (isa "Gates") = false)
theorem t_68 {fs : List String} : tyB (.ins "Gates" fs xs) ["tuple"] = some false := congrArg some (by decide +kernel : (["tuple"] : List String).any (isa "Gates") = false)
theorem t_69 {fs : List String} : tyB (.ins "Gates" fs xs) ["dict"] = some false := congrArg some (by decide +kernel : (["dict"] : List String).any (isa "Gates") = false)
theorem t_70 {fs : List String} : tyB (.ins "Gates" fs xs) ["list", "tuple"] = some false := congrArg some (by decide +kernel : (["list", "tuple"] : List String).any (isa "Gates") = false)
theorem t_71 {fs : List String} : tyB (.ins "Gates" fs xs) ["Gates"] = some true := congrArg some (by decide +kernel : (["Gates"] : List String).any (isa "Gates") = true)
theorem t_72 {fs : List String} : tyB (.ins "Gates" fs xs) ["Listing"] = some false := congrArg some (by decide +kernel : (["Listing"] : List String).any (isa "Gates") = false)
theorem t_73 {fs : List String} : tyB (.ins "Listing" fs xs) ["int"] = some false := congrArg some (by decide +kernel : (["int"] : List String).any (isa "Listing") = false)
theorem t_74 {fs : List String} : tyB (.ins "Listing" fs xs) ["bool"] = some false := congrArg some (by decide +kernel : (["bool"] : List String).any (isa "Listing") = false)
theorem t_75 {fs : List String} : tyB (.ins "Listing" fs xs) ["str"] = some false := congrArg some (by decide +kernel : (["str"] : List String).any (isa "Listing") = false)
theorem t_76 {fs : List String} : tyB (.ins "Listing" fs xs) ["list"] = some false := congrArg some (by decide +kernel : (["list"] : List String).any (isa "Listing") = false)
theorem t_77 {fs : List String} : tyB (.ins "Listing" fs xs) ["tuple"] = some false := congrArg some (by decide +kernel : (["tuple"] : List String).any (isa "Listing") = false)
theorem t_78 {fs : List String} : tyB (.ins "Listing" fs xs) ["dict"] = some false := congrArg some (by decide +kernel : (["dict"] : List String).any (isa "Listing") = false)
theorem t_79 {fs : List String} : tyB (.ins "Listing" fs xs) ["list", "tuple"] = some false := congrArg some (by decide +kernel : (["list", "tuple"] : List String).any (isa "Listing") = false)
theorem t_80 {fs : List String} : tyB (.ins "Listing" fs xs) ["Gates"] = some false := congrArg some (by decide +kernel : (["Gates"] : List String).any (isa "Listing") = false)
theorem t_81 {fs : List String} : tyB (.ins "Listing" fs xs) ["Listing"] = some true := congrArg some (by decide +kernel : (["Listing"] : List String).any (isa "Listing") = true)
end
end Ev
/-! Sprd -/
/-! Sprd: what a spread computes. -/
namespace Ev
open Mx
abbrev bDoubled : List S := [.set 1 (.int 1), .for (.nm 2) .rng [(.mv 0)] [.set 1 (.bin .mul (.var 1) (.int 2))], .ret (.mv 1)]
abbrev bSigns : List S := [.set 2 (.str []), .for (.nm 3) .rng [(.mv 1)] [.set 2 (.bin .add (.bi .str1 [(.bin .mod (.var 0) (.int 2))]) (.var 2)), .set 0 (.bin .fdiv (.var 0) (.int 2))], .ret (.mv 2)]
abbrev bNote : List S := [.ite (.and (.hin true (.var 1) (.fld (.var 0) "origins")) (.hin true (.var 1) (.fld (.var 0) "fresh"))) [.hput (.fld (.var 0) "fresh") (.var 1) (.tup [(.mv 2), (.mv 3)])] []]
abbrev bWalk1 : List S := [.set 10 (.bin .bor (.bin .band (.var 6) (.var 9)) (.bin .band (.var 8) (.inv (.var 6)))), .ite (.hin true (.var 10) (.fld (.var 0) "origins")) [.ex (.meth "Spread" "note" "Spread.note" (.mv 0) [(.mv 10), (.mv 1), (.bin .add (.var 3) (.lst [(.mv 6)]))])] []]
abbrev bWalk2 : List S := [.set 7 (.lc [11] (.nm 11) .rng [(.mv 5)] none (.bin .bor (.bin .band (.var 6) (.idx (.var 2) (.bin .add (.var 5) (.var 11)))) (.bin .band (.idx (.var 2) (.var 11)) (.inv (.var 6))))), .ex (.meth "Spread" "walk" "Spread.walk" (.mv 0) [(.mv 1), (.mv 7), (.bin .add (.var 3) (.lst [(.mv 6)])), (.mv 4)])]
abbrev bWalk : List S := [.set 5 (.bin .fdiv (.bi .len [(.var 2)]) (.int 2)), .ite (.cmp .eq (.var 5) (.int 1)) [.tset [8, 9] (.mv 2), .for (.nm 6) .seq [(.mv 4)] bWalk1, .ret .non] [], .for (.nm 6) .seq [(.mv 4)] bWalk2]
structure SpG (P : Pr) (G : String → Option Fn) : Prop where
  dbl : P "doubled" = none ∧ G "doubled" = some ⟨1, 3, bDoubled, none⟩
  sgn : P "signs_of" = none ∧ G "signs_of" = some ⟨2, 4, bSigns, none⟩
  note : P "Spread.note" = none ∧ G "Spread.note" = some ⟨4, 4, bNote, none⟩
  walk : P "Spread.walk" = none ∧ G "Spread.walk" = some ⟨5, 12, bWalk, none⟩
abbrev kz (l : List Nat) : List Ky := l.map fun (x : Nat) => Sum.inl (x : Int)
/-- the state of a spread's turn -/
def hst (st : PSt) (ok fk : List Nat) : PSt := { st with hd := [.dks (kz ok), .dks (kz fk)] }

def addN (ok fk : List Nat) (x : Nat) : List Nat := if x ∈ ok ∨ x ∈ fk then fk else fk ++ [x]
theorem any_kz (l : List Nat) (x : Nat) : ((kz l).any fun c => decide (c = Sum.inl (x : Int))) = decide (x ∈ l) := by
  rw [Bool.eq_iff_iff]
  simp only [List.any_eq_true, List.mem_map, decide_eq_true_eq]
  constructor
  · rintro ⟨c, ⟨y, hy, rfl⟩, e⟩
    cases e; exact hy
  · intro h; exact ⟨_, ⟨x, h, rfl⟩, rfl⟩
local macro_rules | `(tactic| walk_at "ev") => `(tactic| simp -implicitDefEqProofs only [↓bK_v, ↓cK_v, ↓oK_v, ↓tK_v, ↓iK_v, ↓sK_v, ↓vK_v, ↓insK_v, ↓hK_v, bK_w, cK_w, oK_w, tK_wt, tK_wf, iK_w, sK_wn, sK_wr, vK_w, insK_w, hK_w, vec_one, z_var, z_mv, z_int, z_bl, z_non, z_str, z_glb, z_bin, z_neg, z_inv, z_not, z_cmp, z_isN, z_ntN, z_chain, z_and, z_or, z_ite, z_tup, z_lst, z_call, z_lend, z_meth, z_fld, z_bi, z_bf, z_isi, z_idx, z_sl, z_sget, z_snz, z_lzip, z_hin, z_hlen, z_hkeys, z_hne, z_lc, z_nil, z_cons, z_no, z_so, z_no', z_so', lcB_app, forB_app, whC_app, whB_app, z_bnm, z_set, z_own, z_tset, z_par, z_app, z_ext, z_put, z_site, z_whl, z_for, z_ret, z_ex, z_pass, z_snil, z_scons, z_sput, z_hput, z_hupd, bK_some, cK_some, oK_some, tK_true, tK_false, iK_true, sK_nx, sK_rt, fK_rt, fK_nx, vK_some, insK_some, hK_some, negD, invD, notD, fldD, intO, seqO, lstO, intI, hndI, isNonD, setAll, bindD, ownL, ownD, wipeE, backE, isStt, stGet, stPut, Option.getD_some, Option.bind_some, Option.map_some, List.length_cons, List.length_nil, Nat.reduceAdd, Nat.reduceSub, Nat.reduceEqDiff, List.map_cons, List.map_nil, List.replicate, List.cons_append, List.nil_append, List.getElem?_cons_zero, List.getElem?_cons_succ, List.set_cons_zero, List.set_cons_succ, ite_true, ite_false, hget, keyD, Bool.not_true, Bool.not_false, Bool.false_eq_true, if_false, if_true, if_pos, binD, cmpD, eqD, scalD, eqF, flatD, biD, bfD, idxD, slD, srcD, tyName, List.any_cons, List.any_nil, Bool.and_true, Bool.true_and, Bool.false_and, Bool.or_false, Bool.false_or, Bool.true_or, decide_true, decide_false, List.isEmpty_nil, Option.isSome_some, hset, and_self, and_true, true_and, or_true, true_or, Int.cast_ofNat_Int, Int.reduceDiv, Int.reduceMod, Int.reduceLT, Int.reduceLE, Int.reduceAdd, Int.reduceSub, Int.reduceMul, Int.reduceNeg, Int.reduceBEq, Int.reduceEq, Int.reduceToNat, Nat.reduceLT, Nat.reduceLeDiff, Nat.reduceBEq, reduceIte, beq_self_eq_true, *])
/-- what is fresh stays small -/
structure Fr (sz : Nat) (fk : List Nat) : Prop where
  nd : fk.Nodup
  lt : ∀ x ∈ fk, x < 2 ^ sz
theorem Fr.len {sz : Nat} {fk : List Nat} (h : Fr sz fk) (hs : sz ≤ 16) : fk.length < lim := by
  have h1 := nodup_len _ fk h.nd h.lt
  have h2 : 2 ^ sz ≤ 2 ^ 16 := Nat.pow_le_pow_right (by decide) hs
  show _ < 16777216
  omega
theorem Fr.add {sz : Nat} {ok fk : List Nat} {x : Nat} (h : Fr sz fk) (hx : x < 2 ^ sz) : Fr sz (addN ok fk x) := by
  unfold addN
  split
  · exact h
  · rename_i z
    refine ⟨?_, fun y hy => ?_⟩
    · rw [List.nodup_append]
      refine ⟨h.nd, by simp, fun a ha b hb => ?_⟩
      rw [List.mem_singleton] at hb
      subst hb
      rintro rfl
      exact z (.inr ha)
    · rcases List.mem_append.mp hy with hy | hy
      · exact h.lt y hy
      · rw [List.mem_singleton] at hy; subst hy; exact hx
theorem Fr.adds {sz : Nat} {ok : List Nat} : ∀ {xs fk : List Nat}, Fr sz fk → (∀ x ∈ xs, x < 2 ^ sz) → Fr sz (xs.foldl (addN ok) fk)
  | [], fk, h, _ => h
  | x :: xs, fk, h, hx => Fr.adds (xs := xs) (fk := addN ok fk x) (h.add (hx x (by simp))) fun y hy => hx y (by simp [hy])
theorem addN_in {ok fk : List Nat} {x : Nat} (h : x ∈ ok) : addN ok fk x = fk := by unfold addN; simp [h]
def intsL (l : List Nat) : List D := l.map fun (x : Nat) => D.int x
/-- a value list as a list of data -/
theorem intsL_get {v : List Nat} {k : Nat} (h : k < v.length) : (intsL v)[k]? = some (.int (v.getD k 0 : Nat)) := by
  unfold intsL
  rw [List.getElem?_map, List.getElem?_eq_getElem h, List.getD_eq_getElem?_getD, List.getElem?_eq_getElem h]
  rfl
theorem idx_ints {v : List Nat} {k : Nat} (h : k < v.length) : ((ixN (intsL v).length (k : Int)).bind fun j => (intsL v)[j]?) = some (.int (v.getD k 0 : Nat)) := by
  rw [show (intsL v).length = v.length by simp [intsL], ixN_nat h, Option.bind_some, intsL_get h]
theorem outs_one {known : List Nat} {l h : Nat} : outs known 1 [l, h] = known.map fun x => mux x h l := by
  simp only [outs]
  induction known with
  | nil => rfl
  | cons x r ih => rw [List.flatMap_cons, List.map_cons, ih]; simp [stepL]
theorem foldl_outs {ok known : List Nat} {j : Nat} {v : List Nat} {x : Nat} {kn fk : List Nat} : ((x :: kn).flatMap fun y => outs known j (stepL y v)).foldl (addN ok) fk = (kn.flatMap fun y => outs known j (stepL y v)).foldl (addN ok) ((outs known j (stepL x v)).foldl (addN ok) fk) := by
  rw [List.flatMap_cons, List.foldl_append]
theorem outs_lt {n : Nat} {known : List Nat} {j : Nat} {v : List Nat} (h : ∀ y ∈ v, y < 2 ^ n) : ∀ y ∈ outs known j v, y < 2 ^ n := by
  intro y hy
  obtain ⟨ms, _, _, h3⟩ := mem_outs.mp hy
  exact appV_lt (ms := ms) h y h3
section
variable {wf : Nat} {P : Pr} {G : String → Option Fn} (hG : SpG P G)
include hG
theorem note_ok {n : Nat} {st : PSt} {sz wh : Int} {ts mates : List D} {w : Int} {ok fk : List Nat} {x : Nat} (hl : fk.length < lim) :
    call wf P G (n + 1) "Spread.note" [sD sz wh ts, .int x, .int w, .lst mates] (hst st ok fk) = some (.non, hst st ok (addN ok fk x)) := by
  rw [z_fn hG.note rfl]
  have e1 : sfs.idxOf? "origins" = some 3 := by decide +kernel
  have e2 : sfs.idxOf? "fresh" = some 4 := by decide +kernel
  unfold addN
  simp only [hst, sD]
  have a1 := any_kz ok x
  have a2 := any_kz fk x
  have hl' : (kz fk).length < lim := by simpa using hl
  by_cases h1 : x ∈ ok
  · simp only [h1, decide_true] at a1
    walk_at "ev"
  · simp only [h1, decide_false] at a1
    by_cases h2 : x ∈ fk
    · simp only [h2, decide_true] at a2
      walk_at "ev"
    · simp only [h2, decide_false] at a2
      walk_at "ev"
      simp only [hputD, hl', if_true, hset, addK, a2, Bool.false_eq_true, if_false, List.set_cons_succ, List.set_cons_zero, h1, h2, or_self, List.map_append, List.map_cons, List.map_nil, Option.bind_some, List.getElem?_cons_zero, List.getElem?_cons_succ, oK_w, sK_wn, vec_one, fK_nx]
theorem walk1_ok {n sz : Nat} {st : PSt} {wh : Int} {ts mates : List D} {w : Int} {ok known : List Nat} {h l : Nat} (hsz : sz ≤ 16) (hh : h < 2 ^ sz) (hlt : l < 2 ^ sz) (hm : mates.length < lim) : ∀ {kn fk : List Nat}, Fr sz fk →
    ∀ s6 s7 s10 s11, ∃ ρ', forL (forB (call wf P G (n + 1)) wf (.nm 6) bWalk1) (intsL kn)
      [some (false, sD sz wh ts), some (false, .int w), some (false, .lst (intsL [l, h])), some (false, .lst mates), some (false, .lst (intsL known)), some (false, .int 1), s6, s7, some (false, .int l), some (false, .int h), s10, s11] (hst st ok fk) = some (.nx, ρ', hst st ok ((kn.map fun x => mux x h l).foldl (addN ok) fk))
  | [], fk, hf, _, _, _, _ => ⟨_, rfl⟩
  | x :: kn, fk, hf, s6, s7, s10, s11 => by
    have hn := note_ok hG (wf := wf) (n := n) (st := st) (sz := sz) (wh := wh) (ts := ts) (mates := mates ++ [.int x]) (w := w) (ok := ok) (fk := fk) (x := mux x h l) (hf.len hsz)
    have e1 : sfs.idxOf? "origins" = some 3 := by decide +kernel
    have e0 : decide ("note" ∉ sfs) = true := by decide +kernel
    have hb := mux_int x h l
    have a1 := any_kz ok (mux x h l)
    have hml : mates.length + 1 ≤ lim := hm
    obtain ⟨ρ2, e2⟩ := walk1_ok (n := n) (sz := sz) (st := st) (wh := wh) (ts := ts) (mates := mates) (w := w) (ok := ok) (known := known) hsz hh hlt hm (kn := kn) (hf.add (ok := ok) (x := mux x h l) (mux_lt hh hlt)) (some (false, .int x)) s7 (some (false, .int (mux x h l : Nat))) s11
    refine ⟨ρ2, ?_⟩
    by_cases h1 : mux x h l ∈ ok
    · simp only [h1, decide_true] at a1
      rw [addN_in h1] at e2
      simp only [intsL, List.map_cons, List.map_nil, forL, bindD, List.foldl_cons, addN_in h1] at e2 ⊢
      simp only [hst, sD] at e2 ⊢
      walk_at "ev"
    · simp only [h1, decide_false] at a1
      simp only [intsL, List.map_cons, List.map_nil, forL, bindD, List.foldl_cons] at e2 ⊢
      simp only [hst, sD] at e2 hn ⊢
      walk_at "ev"
theorem rest_ok {cl : Cl} {sz j : Nat} {st : PSt} {wh : Int} {ts mates : List D} {w : Int} {ok fk known v : List Nat} {x : Nat} {s7 : Slot} (hj : j < 50) (hv : v.length = 2 ^ (j + 2)) :
    lcLoop (lcB cl [11] (.nm 11) none (.bin .bor (.bin .band (.var 6) (.idx (.var 2) (.bin .add (.var 5) (.var 11)))) (.bin .band (.idx (.var 2) (.var 11)) (.inv (.var 6))))) ((List.range (2 ^ (j + 1))).map fun (i : Nat) => D.int i)
      [some (false, sD sz wh ts), some (false, .int w), some (false, .lst (intsL v)), some (false, .lst mates), some (false, .lst (intsL known)), some (false, .int (2 ^ (j + 1) : Nat)), some (false, .int x), s7, none, none, none, none] (hst st ok fk)
      = some (intsL (stepL x v), [some (false, sD sz wh ts), some (false, .int w), some (false, .lst (intsL v)), some (false, .lst mates), some (false, .lst (intsL known)), some (false, .int (2 ^ (j + 1) : Nat)), some (false, .int x), s7, none, none, none, none], hst st ok fk) := by
  have hh : v.length / 2 = 2 ^ (j + 1) := by rw [hv, Nat.pow_succ]; omega
  have h2 : v.length = 2 ^ (j + 1) + 2 ^ (j + 1) := by rw [hv, Nat.pow_succ 2 (j + 1)]; omega
  have e : intsL (stepL x v) = ((List.range (2 ^ (j + 1))).map fun (i : Nat) => D.int i).map fun d => match d with | .int i => D.int (mux x (v.getD (2 ^ (j + 1) + i.toNat) 0) (v.getD i.toNat 0) : Nat) | d => d := by
    unfold intsL stepL
    rw [hh, List.map_map, List.map_map]
    rfl
  rw [e]
  refine lcLoop_map fun d hd => ?_
  obtain ⟨i, hi, rfl⟩ := List.mem_map.mp hd
  rw [List.mem_range] at hi
  have a1 : ((ixN (intsL v).length (((2 ^ (j + 1) : Nat) : Int) + (i : Int))).bind fun j => (intsL v)[j]?) = some (.int (v.getD (2 ^ (j + 1) + i) 0 : Nat)) := by
    rw [← Int.natCast_add]; exact idx_ints (by omega)
  have a2 : ((ixN (intsL v).length (i : Int)).bind fun j => (intsL v)[j]?) = some (.int (v.getD i 0 : Nat)) := idx_ints (by omega)
  have a3 := mux_int x (v.getD (2 ^ (j + 1) + i) 0) (v.getD i 0)
  have a4 : (i : Int).toNat = i := rfl
  walk_at "ev"
theorem pow_lim {j : Nat} (hj : j < 20) : 2 ^ (j + 1) ≤ 1048576 := by
  have h : 2 ^ (j + 1) ≤ 2 ^ 20 := Nat.pow_le_pow_right (by decide) (by omega)
  have e : 2 ^ 20 = 1048576 := rfl
  omega
theorem walk2_step {n sz j : Nat} {st : PSt} {wh : Int} {ts mates : List D} {w : Int} {ok known v : List Nat} (hsz : sz ≤ 16) (hj : j < 20) (hv : v.length = 2 ^ (j + 2)) (hm : mates.length + 1 ≤ lim) {x : Nat} {fk fk' : List Nat} {s6 s7 : Slot}
    (hi : call wf P G n "Spread.walk" [sD sz wh ts, .int w, .lst (intsL (stepL x v)), .lst (mates ++ [.int (x : Nat)]), .lst (intsL known)] (hst st ok fk) = some (.non, hst st ok fk')) :
    forB (call wf P G n) wf (.nm 6) bWalk2 (.int x)
      [some (false, sD sz wh ts), some (false, .int w), some (false, .lst (intsL v)), some (false, .lst mates), some (false, .lst (intsL known)), some (false, .int (2 ^ (j + 1) : Nat)), s6, s7, none, none, none, none] (hst st ok fk) = some (.nx, [some (false, sD sz wh ts), some (false, .int w), some (false, .lst (intsL v)), some (false, .lst mates), some (false, .lst (intsL known)), some (false, .int (2 ^ (j + 1) : Nat)), some (false, .int x), some (false, .lst (intsL (stepL x v))), none, none, none, none], hst st ok fk') := by
    have e0 : decide ("walk" ∉ sfs) = true := by decide +kernel
    have pl := pow_lim hG hj
    have hsl : (intsL (stepL x v)).length ≤ lim := by
      unfold intsL; rw [List.length_map, stepL_len, hv]
      have : 2 ^ (j + 2) / 2 = 2 ^ (j + 1) := by rw [Nat.pow_succ 2 (j + 1)]; omega
      show _ ≤ 16777216
      omega
    have hsl' := okLen_of hsl
    have hl := rest_ok hG (cl := call wf P G n) (sz := sz) (st := st) (wh := wh) (ts := ts) (mates := mates) (w := w) (ok := ok) (fk := fk) (known := known) (x := x) (s7 := s7) (by omega) hv
    have hr : -(2 ^ 62) ≤ ((2 ^ (j + 1) : Nat) : Int) ∧ ((2 ^ (j + 1) : Nat) : Int) < 2 ^ 62 := by
      generalize 2 ^ (j + 1) = q at pl ⊢
      omega
    have ht : (((2 ^ (j + 1) : Nat) : Int)).toNat = 2 ^ (j + 1) := rfl
    simp only [sD] at hl hi ⊢
    walk_at "ev"
theorem walk2_ok {n sz j : Nat} {st : PSt} {wh : Int} {ts mates : List D} {w : Int} {ok known v : List Nat} (hsz : sz ≤ 16) (hj : j < 20) (hv : v.length = 2 ^ (j + 2)) (hlt : ∀ y ∈ v, y < 2 ^ sz) (hm : mates.length + 1 ≤ lim)
    (ih : ∀ x fk, Fr sz fk → call wf P G n "Spread.walk" [sD sz wh ts, .int w, .lst (intsL (stepL x v)), .lst (mates ++ [.int (x : Nat)]), .lst (intsL known)] (hst st ok fk) = some (.non, hst st ok ((outs known (j + 1) (stepL x v)).foldl (addN ok) fk))) :
    ∀ (kn fk : List Nat), Fr sz fk → ∀ s6 s7, ∃ ρ', forL (forB (call wf P G n) wf (.nm 6) bWalk2) (intsL kn)
      [some (false, sD sz wh ts), some (false, .int w), some (false, .lst (intsL v)), some (false, .lst mates), some (false, .lst (intsL known)), some (false, .int (2 ^ (j + 1) : Nat)), s6, s7, none, none, none, none] (hst st ok fk) = some (.nx, ρ', hst st ok ((kn.flatMap fun y => outs known (j + 1) (stepL y v)).foldl (addN ok) fk)) := by
  intro kn
  induction kn with
  | nil => intro fk hf s6 s7; exact ⟨_, rfl⟩
  | cons x kn ihk =>
    intro fk hf s6 s7
    have h1 := walk2_step hG (wf := wf) (s6 := s6) (s7 := s7) hsz hj hv hm (ih x fk hf)
    obtain ⟨ρ', e⟩ := ihk ((outs known (j + 1) (stepL x v)).foldl (addN ok) fk) (hf.adds (outs_lt (stepL_lt hlt))) (some (false, .int x)) (some (false, .lst (intsL (stepL x v))))
    refine ⟨ρ', ?_⟩
    rw [foldl_outs, show intsL (x :: kn) = D.int x :: intsL kn from rfl, forL, h1]
    exact e
theorem walk_ok {sz : Nat} {st : PSt} {wh : Int} {ts : List D} {w : Int} {ok known : List Nat} (hsz : sz ≤ 16) : ∀ (j : Nat) (n : Nat) (mates : List D) (v : List Nat) (fk : List Nat), j < 20 → mates.length + j < 100 → v.length = 2 ^ (j + 1) → (∀ y ∈ v, y < 2 ^ sz) → Fr sz fk →
    call wf P G (n + j + 2) "Spread.walk" [sD sz wh ts, .int w, .lst (intsL v), .lst mates, .lst (intsL known)] (hst st ok fk) = some (.non, hst st ok ((outs known (j + 1) v).foldl (addN ok) fk)) := by
  intro j
  induction j with
  | zero =>
    intro n mates v fk hj hm hv hlt hf
    rw [z_fn hG.walk rfl]
    match v, hv with
    | [l, h], _ =>
    obtain ⟨ρ', e⟩ := walk1_ok hG (wf := wf) (n := n) (sz := sz) (st := st) (wh := wh) (ts := ts) (mates := mates) (w := w) (ok := ok) (known := known) (h := h) (l := l) hsz (hlt h (by simp)) (hlt l (by simp)) (by show _ < 16777216; omega) (kn := known) hf none none none none
    rw [outs_one]
    simp only [intsL, List.map_cons, List.map_nil] at e ⊢
    walk_at "ev"
  | succ j ih =>
    intro n mates v fk hj hm hv hlt hf
    rw [show n + (j + 1) + 2 = (n + j + 2) + 1 by omega, z_fn hG.walk rfl]
    obtain ⟨ρ', e⟩ := walk2_ok hG (wf := wf) (n := n + j + 2) (sz := sz) (j := j) (st := st) (wh := wh) (ts := ts) (mates := mates) (w := w) (ok := ok) (known := known) hsz (by omega) hv hlt (by show _ ≤ 16777216; omega) (fun x fk hf => ih n (mates ++ [.int (x : Nat)]) (stepL x v) fk (by omega) (by simp; omega) (by rw [stepL_len, hv, Nat.pow_succ 2 (j + 1)]; omega) (stepL_lt hlt) hf) known fk hf none none
    have hlen : ((intsL v).length : Int) / 2 = (2 ^ (j + 1) : Nat) := by
      unfold intsL; rw [List.length_map, hv]; rw [Nat.pow_succ 2 (j + 1)]; omega
    have h1 : (((2 ^ (j + 1) : Nat) : Int) == 1) = false := by
      rw [beq_eq_false_iff_ne]
      have : 2 ^ (j + 1) = 2 * 2 ^ j := by rw [Nat.pow_succ]; omega
      have := Nat.two_pow_pos j
      omega
    walk_at "ev"
    rfl
end
end Ev
/-! SprdB -/
/-! SprdB: a spread's turn, its end: what comes from the rows. -/
namespace Ev
open Mx
local macro_rules | `(tactic| walk_at "ev") => `(tactic| simp -implicitDefEqProofs only [↓bK_v, ↓cK_v, ↓oK_v, ↓tK_v, ↓iK_v, ↓sK_v, ↓vK_v, ↓insK_v, ↓hK_v, bK_w, cK_w, oK_w, tK_wt, tK_wf, iK_w, sK_wn, sK_wr, vK_w, insK_w, hK_w, vec_one, z_var, z_mv, z_int, z_bl, z_non, z_str, z_glb, z_bin, z_neg, z_inv, z_not, z_cmp, z_isN, z_ntN, z_chain, z_and, z_or, z_ite, z_tup, z_lst, z_call, z_lend, z_meth, z_fld, z_bi, z_bf, z_isi, z_idx, z_sl, z_sget, z_snz, z_lzip, z_hin, z_hlen, z_hkeys, z_hne, z_lc, z_nil, z_cons, z_no, z_so, z_no', z_so', lcB_app, forB_app, whC_app, whB_app, z_bnm, z_set, z_own, z_tset, z_par, z_app, z_ext, z_put, z_site, z_whl, z_for, z_ret, z_ex, z_pass, z_snil, z_scons, z_sput, z_hput, z_hupd, bK_some, cK_some, oK_some, tK_true, tK_false, iK_true, sK_nx, sK_rt, fK_rt, fK_nx, vK_some, insK_some, hK_some, negD, invD, notD, fldD, intO, seqO, lstO, intI, hndI, isNonD, setAll, bindD, ownL, ownD, wipeE, backE, isStt, stGet, stPut, Option.getD_some, Option.bind_some, Option.map_some, List.length_cons, List.length_nil, Nat.reduceAdd, Nat.reduceSub, Nat.reduceEqDiff, List.map_cons, List.map_nil, List.replicate, List.cons_append, List.nil_append, List.getElem?_cons_zero, List.getElem?_cons_succ, List.set_cons_zero, List.set_cons_succ, ite_true, ite_false, hget, keyD, Bool.not_true, Bool.not_false, Bool.false_eq_true, if_false, if_true, if_pos, binD, cmpD, eqD, scalD, eqF, flatD, biD, bfD, idxD, slD, srcD, tyName, List.any_cons, List.any_nil, Bool.and_true, Bool.true_and, Bool.false_and, Bool.or_false, Bool.false_or, Bool.true_or, decide_true, decide_false, List.isEmpty_nil, Option.isSome_some, hset, and_self, and_true, true_and, or_true, true_or, Int.cast_ofNat_Int, Int.reduceDiv, Int.reduceMod, Int.reduceLT, Int.reduceLE, Int.reduceAdd, Int.reduceSub, Int.reduceMul, Int.reduceNeg, Int.reduceBEq, Int.reduceEq, Int.reduceToNat, Nat.reduceLT, Nat.reduceLeDiff, Nat.reduceBEq, reduceIte, beq_self_eq_true, *])
abbrev bTurn1 : List S := [.ite (.cmp .le (.bin .add (.bi .len [(.var 1)]) (.hlen (.fld (.var 0) "fresh"))) (.fld (.var 0) "whole")) [.ex (.meth "Spread" "walk" "Spread.walk" (.mv 0) [(.mv 2), (.lc [4] (.nm 4) .seq [(.mv 3)] none (.ite (.cmp .eq (.var 4) (.str [49])) (.fld (.var 0) "whole") (.int 0))), (.lst []), (.mv 1)])] []]
abbrev bTurn : List S := [.set 1 (.hkeys (.fld (.var 0) "origins")), .for (.tp [2, 3]) .enm [(.fld (.var 0) "tables")] bTurn1, .hupd (.fld (.var 0) "origins") (.fld (.var 0) "fresh"), .ret (.hne (.fld (.var 0) "fresh"))]
/-- a table of at least one input -/
def IsTab (t : List Nat) : Prop := ∃ j, j < 19 ∧ t.length = 2 ^ (j + 1)
def oneT (sz : Nat) (ok : List Nat) (fk t : List Nat) : List Nat := if ok.length + fk.length ≤ 2 ^ sz - 1 then (outs ok (Nat.log2 t.length) (vals sz t)).foldl (addN ok) fk else fk
def turnF (sz : Nat) (tabs : List (List Nat)) (ok : List Nat) : List Nat := tabs.foldl (oneT sz ok) []
theorem oneT_fr {sz : Nat} {ok fk t : List Nat} (h : Fr sz fk) : Fr sz (oneT sz ok fk t) := by
  unfold oneT
  split
  · exact h.adds (outs_lt vals_lt)
  · exact h
theorem turnF_fr {sz : Nat} {ok : List Nat} {tabs : List (List Nat)} : ∀ {fk : List Nat}, Fr sz fk → Fr sz (tabs.foldl (oneT sz ok) fk) := by
  induction tabs with
  | nil => intro fk h; exact h
  | cons t r ih => intro fk h; exact ih (oneT_fr h)
theorem sign_ok {cl : Cl} {st : PSt} {sz : Nat} {ts : List D} {s1 s2 s3 : Slot} {t : List Nat} :
    lcLoop (lcB cl [4] (.nm 4) none (.ite (.cmp .eq (.var 4) (.str [49])) (.fld (.var 0) "whole") (.int 0))) (t.map fun c => D.str [c]) [some (false, sD sz (2 ^ sz - 1 : Nat) ts), s1, s2, s3, none] st = some (intsL (vals sz t), [some (false, sD sz (2 ^ sz - 1 : Nat) ts), s1, s2, s3, none], st) := by
  have e : intsL (vals sz t) = (t.map fun c => D.str [c]).map fun d => match d with | .str [c] => (if c = 49 then D.int (2 ^ sz - 1 : Nat) else .int 0) | d => d := by
    unfold intsL vals
    rw [List.map_map, List.map_map]
    refine List.map_congr_left fun c _ => ?_
    simp only [Function.comp]
    split <;> rfl
  rw [e]
  refine lcLoop_map fun d hd => ?_
  obtain ⟨c, hc, rfl⟩ := List.mem_map.mp hd
  have e2 : sfs.idxOf? "whole" = some 1 := by decide +kernel
  simp only [sD]
  by_cases h : c = 49
  · subst h
    walk_at "ev"
  · have h2 : (([c] : List Nat) == [49]) = false := by
      rw [beq_eq_false_iff_ne]; simpa using h
    walk_at "ev"
section
variable {wf : Nat} {P : Pr} {G : String → Option Fn} (hG : SpG P G)
include hG
theorem turn1_step {n sz : Nat} {st : PSt} {ts : List D} {ok fk : List Nat} {w : Nat} {t : List Nat} {s2 s3 : Slot} (hsz : sz ≤ 16) (ht : IsTab t) (hn : 21 ≤ n) (hf : Fr sz fk) :
    forB (call wf P G n) wf (.tp [2, 3]) bTurn1 (.tup [.int (w : Int), .str t]) [some (false, sD sz (2 ^ sz - 1 : Nat) ts), some (false, .lst (intsL ok)), s2, s3, none] (hst st ok fk) =
      some (.nx, [some (false, sD sz (2 ^ sz - 1 : Nat) ts), some (false, .lst (intsL ok)), some (false, .int w), some (false, .str t), none], hst st ok (oneT sz ok fk t)) := by
  obtain ⟨j, hj, hl⟩ := ht
  have e0 : decide ("walk" ∉ sfs) = true := by decide +kernel
  have e1 : sfs.idxOf? "fresh" = some 4 := by decide +kernel
  have e2 : sfs.idxOf? "whole" = some 1 := by decide +kernel
  have hs := sign_ok (cl := call wf P G n) (st := hst st ok fk) (sz := sz) (ts := ts) (s1 := some (false, .lst (intsL ok))) (s2 := some (false, .int w)) (s3 := some (false, .str t)) (t := t)
  have hlg : Nat.log2 t.length = j + 1 := by rw [hl, Nat.log2_two_pow]
  have hw := walk_ok hG (wf := wf) (st := st) (wh := (2 ^ sz - 1 : Nat)) (ts := ts) (w := w) (ok := ok) (known := ok) hsz j (n - j - 2) [] (vals sz t) fk (by omega) (by simp; omega) (by unfold vals; rw [List.length_map, hl]) vals_lt hf
  rw [show n - j - 2 + j + 2 = n by omega] at hw
  have hk : ((intsL ok).length : Int) + ((kz fk).length : Int) = ((ok.length + fk.length : Nat) : Int) := by simp [intsL]
  have hln : okLen (intsL (vals sz t)).length = true := okLen_of (by
    unfold intsL vals; rw [List.length_map, List.length_map, hl]
    have : 2 ^ (j + 1) ≤ 2 ^ 20 := Nat.pow_le_pow_right (by decide) (by omega)
    have e : 2 ^ 20 = 1048576 := rfl
    show _ ≤ 16777216
    omega)
  unfold oneT
  simp only [hlg]
  by_cases hg : ok.length + fk.length ≤ 2 ^ sz - 1
  · have hd : decide (((ok.length + fk.length : Nat) : Int) ≤ ((2 ^ sz - 1 : Nat) : Int)) = true := decide_eq_true (Int.ofNat_le.mpr hg)
    simp only [sD, hst] at hs hw ⊢
    walk_at "ev"
  · have hd : decide (((ok.length + fk.length : Nat) : Int) ≤ ((2 ^ sz - 1 : Nat) : Int)) = false := decide_eq_false (fun z => hg (Int.ofNat_le.mp z))
    simp only [sD, hst] at hs hw ⊢
    walk_at "ev"
end
end Ev
/-! SprdC -/
/-! SprdC: a spread's turn. -/
namespace Ev
open Mx
local macro_rules | `(tactic| walk_at "ev") => `(tactic| simp -implicitDefEqProofs only [↓bK_v, ↓cK_v, ↓oK_v, ↓tK_v, ↓iK_v, ↓sK_v, ↓vK_v, ↓insK_v, ↓hK_v, bK_w, cK_w, oK_w, tK_wt, tK_wf, iK_w, sK_wn, sK_wr, vK_w, insK_w, hK_w, vec_one, z_var, z_mv, z_int, z_bl, z_non, z_str, z_glb, z_bin, z_neg, z_inv, z_not, z_cmp, z_isN, z_ntN, z_chain, z_and, z_or, z_ite, z_tup, z_lst, z_call, z_lend, z_meth, z_fld, z_bi, z_bf, z_isi, z_idx, z_sl, z_sget, z_snz, z_lzip, z_hin, z_hlen, z_hkeys, z_hne, z_lc, z_nil, z_cons, z_no, z_so, z_no', z_so', lcB_app, forB_app, whC_app, whB_app, z_bnm, z_set, z_own, z_tset, z_par, z_app, z_ext, z_put, z_site, z_whl, z_for, z_ret, z_ex, z_pass, z_snil, z_scons, z_sput, z_hput, z_hupd, bK_some, cK_some, oK_some, tK_true, tK_false, iK_true, sK_nx, sK_rt, fK_rt, fK_nx, vK_some, insK_some, hK_some, negD, invD, notD, fldD, intO, seqO, lstO, intI, hndI, isNonD, setAll, bindD, ownL, ownD, wipeE, backE, isStt, stGet, stPut, Option.getD_some, Option.bind_some, Option.map_some, List.length_cons, List.length_nil, Nat.reduceAdd, Nat.reduceSub, Nat.reduceEqDiff, List.map_cons, List.map_nil, List.replicate, List.cons_append, List.nil_append, List.getElem?_cons_zero, List.getElem?_cons_succ, List.set_cons_zero, List.set_cons_succ, ite_true, ite_false, hget, keyD, Bool.not_true, Bool.not_false, Bool.false_eq_true, if_false, if_true, if_pos, binD, cmpD, eqD, scalD, eqF, flatD, biD, bfD, idxD, slD, srcD, tyName, List.any_cons, List.any_nil, Bool.and_true, Bool.true_and, Bool.false_and, Bool.or_false, Bool.false_or, Bool.true_or, decide_true, decide_false, List.isEmpty_nil, Option.isSome_some, hset, and_self, and_true, true_and, or_true, true_or, Int.cast_ofNat_Int, Int.reduceDiv, Int.reduceMod, Int.reduceLT, Int.reduceLE, Int.reduceAdd, Int.reduceSub, Int.reduceMul, Int.reduceNeg, Int.reduceBEq, Int.reduceEq, Int.reduceToNat, Nat.reduceLT, Nat.reduceLeDiff, Nat.reduceBEq, reduceIte, beq_self_eq_true, *])
theorem kz_app (a b : List Nat) : kz (a ++ b) = kz a ++ kz b := by simp [kz]
theorem addK_kz {ok : List Nat} : ∀ {fk : List Nat}, fk.Nodup → (∀ x ∈ fk, x ∉ ok) → (kz fk).foldl addK (kz ok) = kz (ok ++ fk) := by
  intro fk
  induction fk generalizing ok with
  | nil => intro _ _; simp
  | cons x r ih =>
    intro hn hd
    rw [List.nodup_cons] at hn
    have h1 : addK (kz ok) (.inl (x : Int)) = kz (ok ++ [x]) := by
      unfold addK
      rw [any_kz, decide_eq_false (hd x (by simp))]
      simp [kz]
    show (kz r).foldl addK (addK (kz ok) (.inl (x : Int))) = _
    rw [h1, ih hn.2 (fun y hy z => by
      rcases List.mem_append.mp z with z | z
      · exact hd y (by simp [hy]) z
      · rw [List.mem_singleton] at z; subst z; exact hn.1 hy), List.append_assoc]
    rfl
/-- the fresh ones are none of the known -/
theorem addN_dis {ok : List Nat} : ∀ {xs fk : List Nat}, (∀ x ∈ fk, x ∉ ok) → ∀ x ∈ xs.foldl (addN ok) fk, x ∉ ok := by
  intro xs
  induction xs with
  | nil => intro fk h; exact h
  | cons a r ih =>
    intro fk h
    refine ih (fk := addN ok fk a) fun x hx => ?_
    unfold addN at hx
    split at hx
    · exact h x hx
    · rename_i z
      rcases List.mem_append.mp hx with hx | hx
      · exact h x hx
      · rw [List.mem_singleton] at hx; subst hx; exact fun q => z (.inl q)
theorem turnF_dis {sz : Nat} {ok : List Nat} {tabs : List (List Nat)} : ∀ {fk : List Nat}, (∀ x ∈ fk, x ∉ ok) → ∀ x ∈ tabs.foldl (oneT sz ok) fk, x ∉ ok := by
  induction tabs with
  | nil => intro fk h; exact h
  | cons t r ih =>
    intro fk h
    refine ih (fk := oneT sz ok fk t) ?_
    unfold oneT
    split
    · exact addN_dis h
    · exact h
theorem kz_keys (l : List Nat) : (kz l).map kyD = intsL l := by simp [kz, intsL, kyD]
section
variable {wf : Nat} {P : Pr} {G : String → Option Fn} (hG : SpG P G)
include hG
theorem turn1_loop {n sz : Nat} {st : PSt} {ts : List D} {ok : List Nat} (hsz : sz ≤ 16) (hn : 21 ≤ n) : ∀ (tabs : List (List Nat)) (i : Nat) (fk : List Nat) (s2 s3 : Slot), (∀ t ∈ tabs, IsTab t) → Fr sz fk → ∃ s2' s3',
    forL (forB (call wf P G n) wf (.tp [2, 3]) bTurn1) (((strL tabs).zipIdx i).map fun p => .tup [.int p.2, p.1]) [some (false, sD sz (2 ^ sz - 1 : Nat) ts), some (false, .lst (intsL ok)), s2, s3, none] (hst st ok fk) =
      some (.nx, [some (false, sD sz (2 ^ sz - 1 : Nat) ts), some (false, .lst (intsL ok)), s2', s3', none], hst st ok (tabs.foldl (oneT sz ok) fk)) := by
  intro tabs
  induction tabs with
  | nil => intro i fk s2 s3 _ _; exact ⟨_, _, rfl⟩
  | cons t r ih =>
    intro i fk s2 s3 ht hf
    have h1 := turn1_step hG (wf := wf) (st := st) (ts := ts) (ok := ok) (w := i) (s2 := s2) (s3 := s3) hsz (ht t (by simp)) hn hf
    obtain ⟨s2', s3', e⟩ := ih (i + 1) (oneT sz ok fk t) (some (false, .int i)) (some (false, .str t)) (fun u hu => ht u (by simp [hu])) (oneT_fr hf)
    refine ⟨s2', s3', ?_⟩
    rw [show ((strL (t :: r)).zipIdx i).map (fun p => D.tup [.int (p.2 : Nat), p.1]) = D.tup [.int (i : Nat), .str t] :: ((strL r).zipIdx (i + 1)).map (fun p => D.tup [.int (p.2 : Nat), p.1]) from rfl, forL, h1]
    exact e
theorem turnE_eq {n sz : Nat} {st : PSt} {tabs : List (List Nat)} {ok : List Nat} (hsz : sz ≤ 16) (hn : 21 ≤ n) (ht : ∀ t ∈ tabs, IsTab t) (hok : Fr sz ok) (hst0 : st.hd = []) :
    turnE (call wf P G n) wf bTurn 4 sz (2 ^ sz - 1 : Nat) (strL tabs) (kz ok) st = some (!(turnF sz tabs ok).isEmpty, kz (ok ++ turnF sz tabs ok), st) := by
  unfold turnE
  obtain ⟨s2', s3', e⟩ := turn1_loop hG (wf := wf) (n := n) (st := st) (ts := strL tabs) (ok := ok) hsz hn tabs 0 [] none none ht ⟨by simp, by simp⟩
  have hfr : Fr sz (turnF sz tabs ok) := turnF_fr ⟨by simp, by simp⟩
  have hdis : ∀ x ∈ turnF sz tabs ok, x ∉ ok := turnF_dis (by simp)
  have e0 : sfs.idxOf? "origins" = some 3 := by decide +kernel
  have e1 : sfs.idxOf? "fresh" = some 4 := by decide +kernel
  have e2 : sfs.idxOf? "tables" = some 2 := by decide +kernel
  have hk := kz_keys ok
  have hu : hupdD (.dks (kz ok)) (.dks (kz (turnF sz tabs ok))) = some (.dks (kz (ok ++ turnF sz tabs ok))) := by
    have h1 := hok.len hsz
    have h2 := hfr.len hsz
    have h3 : ok.length + (turnF sz tabs ok).length ≤ 2 ^ sz := by
      have := nodup_len (2 ^ sz) (ok ++ turnF sz tabs ok) (List.nodup_append.mpr ⟨hok.nd, hfr.nd, fun a ha b hb => by rintro rfl; exact hdis a hb ha⟩) (fun x hx => (List.mem_append.mp hx).elim (hok.lt x) (hfr.lt x))
      rwa [List.length_append] at this
    have h4 : (2 : Nat) ^ sz ≤ 2 ^ 16 := Nat.pow_le_pow_right (by decide) hsz
    have h5 : (kz ok).length + (kz (turnF sz tabs ok)).length ≤ lim := by
      simp only [kz, List.length_map]; show _ ≤ 16777216; omega
    simp only [hupdD, if_pos h5]
    rw [addK_kz hfr.nd hdis]
  have hemp : (kz (turnF sz tabs ok)).isEmpty = (turnF sz tabs ok).isEmpty := by cases turnF sz tabs ok <;> rfl
  have hE : exL (call wf P G n) wf bTurn [some (false, sD sz (2 ^ sz - 1 : Nat) (strL tabs)), none, none, none, none] { st with hd := [.dks (kz ok), .dks []] } = some (.rt (.bl (!(turnF sz tabs ok).isEmpty)), [some (false, sD sz (2 ^ sz - 1 : Nat) (strL tabs)), some (false, .lst (intsL ok)), s2', s3', none], { st with hd := [.dks (kz (ok ++ turnF sz tabs ok)), .dks (kz (turnF sz tabs ok))] }) := by
    rw [show tabs.foldl (oneT sz ok) [] = turnF sz tabs ok from rfl] at e
    rw [show hst st ok [] = { st with hd := [.dks (kz ok), .dks []] } from rfl] at e
    generalize turnF sz tabs ok = fk at e hu hemp ⊢
    have ez : ((strL tabs).zipIdx.map fun p => D.tup [.int (p.2 : Nat), p.1]) = (((strL tabs).zipIdx 0).map fun p => .tup [.int p.2, p.1]) := rfl
    have hne : decide ((0 : Nat) ≠ 1) = true := by decide
    simp only [sD, hst] at e ⊢
    walk_at "ev"
  simp only [List.replicate, hE]
  obtain ⟨c, a, b, d, h⟩ := st
  simp only at hst0
  subst hst0
  rfl
end
end Ev
/-! Mx2 -/
/-! Mx2: what a spread has at its end is what comes from its rows. -/
namespace Ev
open Mx
theorem addN_sub {ok : List Nat} : ∀ {xs fk : List Nat} {y : Nat}, y ∈ fk → y ∈ xs.foldl (addN ok) fk := by
  intro xs
  induction xs with
  | nil => intro fk y h; exact h
  | cons a r ih =>
    intro fk y h
    refine ih (fk := addN ok fk a) ?_
    unfold addN
    split
    · exact h
    · exact List.mem_append.mpr (.inl h)
theorem addN_mem {ok : List Nat} : ∀ {xs fk : List Nat} {y : Nat}, y ∈ xs.foldl (addN ok) fk → y ∈ fk ∨ y ∈ xs := by
  intro xs
  induction xs with
  | nil => intro fk y h; exact .inl h
  | cons a r ih =>
    intro fk y h
    rcases ih (fk := addN ok fk a) h with h | h
    · unfold addN at h
      split at h
      · exact .inl h
      · rcases List.mem_append.mp h with h | h
        · exact .inl h
        · rw [List.mem_singleton] at h; exact .inr (by simp [h])
    · exact .inr (List.mem_cons_of_mem _ h)
theorem addN_all {ok : List Nat} : ∀ {xs fk : List Nat} {y : Nat}, y ∈ xs → y ∈ ok ∨ y ∈ xs.foldl (addN ok) fk := by
  intro xs
  induction xs with
  | nil => intro fk y h; cases h
  | cons a r ih =>
    intro fk y h
    rcases List.mem_cons.mp h with rfl | h
    · by_cases h1 : y ∈ ok
      · exact .inl h1
      · refine .inr ?_
        show y ∈ r.foldl (addN ok) (addN ok fk y)
        refine addN_sub ?_
        unfold addN
        split
        · rename_i z; exact z.resolve_left h1
        · simp
    · exact ih (fk := addN ok fk a) h
theorem oneT_sub {sz : Nat} {ok fk t : List Nat} {y : Nat} (h : y ∈ fk) : y ∈ oneT sz ok fk t := by
  unfold oneT
  split
  · exact addN_sub h
  · exact h
theorem turn_sub {sz : Nat} {ok : List Nat} {tabs : List (List Nat)} {y : Nat} : ∀ {fk : List Nat}, y ∈ fk → y ∈ tabs.foldl (oneT sz ok) fk := by
  induction tabs with
  | nil => intro fk h; exact h
  | cons t r ih => intro fk h; exact ih (oneT_sub h)
theorem turn_mem {sz : Nat} {ok : List Nat} {tabs : List (List Nat)} {y : Nat} (ht : ∀ t ∈ tabs, IsTab t) : ∀ {fk : List Nat}, y ∈ tabs.foldl (oneT sz ok) fk → y ∈ fk ∨ ∃ t ∈ tabs, ∃ ms : List Nat, t.length = 2 ^ ms.length ∧ 0 < ms.length ∧ (∀ m ∈ ms, m ∈ ok) ∧ y = app sz t ms := by
  induction tabs with
  | nil => intro fk h; exact .inl h
  | cons t r ih =>
    intro fk h
    rcases ih (fun u hu => ht u (by simp [hu])) (fk := oneT sz ok fk t) h with h | ⟨u, hu, ms, k⟩
    · unfold oneT at h
      split at h
      · rcases addN_mem h with h | h
        · exact .inl h
        · obtain ⟨j, hj, hl⟩ := ht t (by simp)
          rw [hl, Nat.log2_two_pow] at h
          obtain ⟨ms, h1, h2, h3⟩ := mem_outs.mp h
          refine .inr ⟨t, by simp, ms, by rw [hl, h1], by omega, h2, ?_⟩
          rw [app_mem (by rw [hl, h1])] at h3
          simpa using h3
      · exact .inl h
    · exact .inr ⟨u, by simp [hu], ms, k⟩
/-- all numbers below are there -/
theorem all_there {n : Nat} {l : List Nat} (hn : l.Nodup) (hl : ∀ x ∈ l, x < n) (h : n ≤ l.length) : ∀ x, x < n → x ∈ l := by
  intro x hx
  by_cases hm : x ∈ l
  · exact hm
  · have := nodup_len n (x :: l) (List.nodup_cons.mpr ⟨hm, hn⟩) (fun y hy => (List.mem_cons.mp hy).elim (fun e => e ▸ hx) (hl y))
    simp at this; omega
theorem turn_end {sz : Nat} {ok : List Nat} {tabs : List (List Nat)} (ht : ∀ t ∈ tabs, IsTab t) (hok : Fr sz ok) (h : turnF sz tabs ok = []) {t ms : List Nat} (h1 : t ∈ tabs) (h2 : t.length = 2 ^ ms.length) (h3 : ∀ m ∈ ms, m ∈ ok) : app sz t ms ∈ ok := by
  by_cases hg : ok.length ≤ 2 ^ sz - 1
  · have key : ∀ (r : List (List Nat)), r.foldl (oneT sz ok) [] = [] → t ∈ r → app sz t ms ∈ ok := by
      intro r
      induction r with
      | nil => intro _ h; cases h
      | cons u r ih =>
        intro hr hm
        have h0 : oneT sz ok [] u = [] := by
          cases e : oneT sz ok [] u with
          | nil => rfl
          | cons a b =>
            have : a ∈ r.foldl (oneT sz ok) (oneT sz ok [] u) := turn_sub (by rw [e]; simp)
            rw [show r.foldl (oneT sz ok) (oneT sz ok [] u) = [] from hr] at this
            cases this
        rcases List.mem_cons.mp hm with rfl | hm
        · unfold oneT at h0
          rw [if_pos (by simpa using hg), h2, Nat.log2_two_pow] at h0
          have hin : app sz t ms ∈ outs ok ms.length (vals sz t) := mem_outs.mpr ⟨ms, rfl, h3, by rw [app_mem h2]; simp⟩
          rcases addN_all (ok := ok) (fk := []) hin with z | z
          · exact z
          · rw [h0] at z; cases z
        · refine ih ?_ hm
          have : r.foldl (oneT sz ok) (oneT sz ok [] u) = [] := hr
          rwa [h0] at this
    exact key tabs h h1
  · exact all_there hok.nd hok.lt (by omega) _ app_lt
section
variable {wf : Nat} {P : Pr} {G : String → Option Fn} (hG : SpG P G)
include hG
theorem loop_eq {n sz : Nat} {st : PSt} {tabs : List (List Nat)} {rows : List Nat} (hsz : sz ≤ 16) (hn : 21 ≤ n) (ht : ∀ t ∈ tabs, IsTab t) (hst0 : st.hd = []) : ∀ (k : Nat) (ok : List Nat), 2 ^ sz - ok.length ≤ k → Fr sz ok → (∀ x ∈ ok, Clo sz tabs rows x) → (∀ x ∈ rows, x ∈ ok) →
    ∃ ok' N, loopE (call wf P G n) wf bTurn 4 sz (2 ^ sz - 1 : Nat) (strL tabs) N (kz ok) st = some (kz ok', st) ∧ Fr sz ok' ∧ ∀ x, x ∈ ok' ↔ Clo sz tabs rows x := by
  intro k
  induction k with
  | zero =>
    intro ok hk hok hc hr
    have hz : turnF sz tabs ok = [] := by
      cases e : turnF sz tabs ok with
      | nil => rfl
      | cons a b =>
        have h1 : a ∈ turnF sz tabs ok := by rw [e]; simp
        have h2 : a < 2 ^ sz := (turnF_fr (sz := sz) (ok := ok) (tabs := tabs) (fk := []) ⟨by simp, by simp⟩).lt a h1
        exact absurd (all_there hok.nd hok.lt (by omega) a h2) (turnF_dis (fk := []) (by simp) a h1)
    refine ⟨ok, 1, ?_, hok, fun x => ⟨hc x, fun h => ?_⟩⟩
    · rw [loopE, turnE_eq hG hsz hn ht hok hst0, hz, List.append_nil]
      rfl
    · induction h with
      | base h => exact hr _ h
      | step h1 h2 _ h3 ih => exact turn_end ht hok hz h1 h2 ih
  | succ k ih =>
    intro ok hk hok hc hr
    cases e : turnF sz tabs ok with
    | nil =>
      refine ⟨ok, 1, ?_, hok, fun x => ⟨hc x, fun h => ?_⟩⟩
      · rw [loopE, turnE_eq hG hsz hn ht hok hst0, e, List.append_nil]
        rfl
      · induction h with
        | base h => exact hr _ h
        | step h1 h2 _ h3 ih => exact turn_end ht hok e h1 h2 ih
    | cons a b =>
      have hfr : Fr sz (turnF sz tabs ok) := turnF_fr ⟨by simp, by simp⟩
      have hdis : ∀ x ∈ turnF sz tabs ok, x ∉ ok := turnF_dis (by simp)
      have hok2 : Fr sz (ok ++ turnF sz tabs ok) := ⟨List.nodup_append.mpr ⟨hok.nd, hfr.nd, fun x hx y hy => by rintro rfl; exact hdis x hy hx⟩, fun x hx => (List.mem_append.mp hx).elim (hok.lt x) (hfr.lt x)⟩
      have hlen : (ok ++ turnF sz tabs ok).length = ok.length + (b.length + 1) := by rw [List.length_append, e]; rfl
      obtain ⟨ok', N, h1, h2, h3⟩ := ih (ok ++ turnF sz tabs ok) (by rw [hlen]; omega) hok2 (fun x hx => by
        rcases List.mem_append.mp hx with hx | hx
        · exact hc x hx
        · rcases turn_mem ht (fk := []) hx with z | ⟨t, k1, ms, k2, k3, k4, rfl⟩
          · cases z
          · exact .step k1 k2 k3 fun m hm => hc m (k4 m hm)) (fun x hx => List.mem_append.mpr (.inl (hr x hx)))
      refine ⟨ok', N + 1, ?_, h2, h3⟩
      rw [loopE, turnE_eq hG hsz hn ht hok hst0]
      have : (turnF sz tabs ok).isEmpty = false := by rw [e]; rfl
      rw [this]
      exact h1
end
end Ev
/-! ClF -/
/-! ClF: closed_rows as a function on data. -/
namespace Ev
open Mx
local macro_rules | `(tactic| walk_at "ev") => `(tactic| simp -implicitDefEqProofs only [↓bK_v, ↓cK_v, ↓oK_v, ↓tK_v, ↓iK_v, ↓sK_v, ↓vK_v, ↓insK_v, ↓hK_v, bK_w, cK_w, oK_w, tK_wt, tK_wf, iK_w, sK_wn, sK_wr, vK_w, insK_w, hK_w, vec_one, z_var, z_mv, z_int, z_bl, z_non, z_str, z_glb, z_bin, z_neg, z_inv, z_not, z_cmp, z_isN, z_ntN, z_chain, z_and, z_or, z_ite, z_tup, z_lst, z_call, z_lend, z_meth, z_fld, z_bi, z_bf, z_idx, z_sl, z_sget, z_snz, z_lzip, z_hin, z_hlen, z_hkeys, z_hne, z_lc, z_nil, z_cons, z_no, z_so, z_no', z_so', lcB_app, forB_app, whC_app, whB_app, z_bnm, z_set, z_own, z_tset, z_par, z_app, z_ext, z_put, z_site, z_whl, z_for, z_ret, z_ex, z_pass, z_snil, z_scons, z_sput, z_hput, z_hupd, bK_some, cK_some, oK_some, tK_true, tK_false, iK_true, sK_nx, sK_rt, fK_rt, fK_nx, vK_some, insK_some, hK_some, negD, invD, notD, fldD, intO, seqO, lstO, intI, hndI, isNonD, setAll, bindD, ownL, ownD, wipeE, backE, isStt, stGet, stPut, Option.getD_some, Option.bind_some, Option.map_some, List.length_cons, List.length_nil, Int.toNat_natCast, Nat.reduceAdd, Nat.reduceSub, Nat.reduceEqDiff, List.map_cons, List.map_nil, List.replicate, List.cons_append, List.nil_append, List.getElem?_cons_zero, List.getElem?_cons_succ, List.set_cons_zero, List.set_cons_succ, ite_true, ite_false, hget, keyD, Bool.not_true, Bool.not_false, Bool.false_eq_true, if_false, if_true, if_pos, flatD, y_add, y_addS, y_addL, y_sub, y_mulR, y_mulL, y_mulS, y_mod, y_div, y_pow, y_band, y_bor, y_eq, y_ne, y_lt, y_le, y_gt, y_ge, y_ltS, y_inn, y_nin, e_ii, e_ss, e_bb, e_nn, e_si, e_is, i_ss, i_s1, i_sL, i_sT, q_lenL, q_lenT, q_lenS, q_lenD, q_abs, q_max, q_min, q_int, q_int2, q_all, q_any, q_join, c_listL, c_listT, d_lst, d_tup, d_str, d_lst0, d_lst1, d_lst2, d_tup0, d_tup1, d_tup2, d_str0, s_seqL, s_seqT, s_seqS, s_rng, s_rng1, s_rng2, s_rng3, s_rng4, s_rng5, s_rng6, s_rng7, s_rng8, s_rng600, s_enm, s_zpL, s_zpT, z_isi', t_1, t_2, t_3, t_4, t_5, t_6, t_7, t_8, t_9, t_10, t_11, t_12, t_13, t_14, t_15, t_16, t_17, t_18, t_19, t_20, t_21, t_22, t_23, t_24, t_25, t_26, t_27, t_28, t_29, t_30, t_31, t_32, t_33, t_34, t_35, t_36, t_37, t_38, t_39, t_40, t_41, t_42, t_43, t_44, t_45, t_46, t_47, t_48, t_49, t_50, t_51, t_52, t_53, t_54, t_55, t_56, t_57, t_58, t_59, t_60, t_61, t_62, t_63, t_64, t_65, t_66, t_67, t_68, t_69, t_70, t_71, t_72, t_73, t_74, t_75, t_76, t_77, t_78, t_79, t_80, t_81, Bool.and_true, Bool.true_and, Bool.false_and, Bool.or_false, Bool.false_or, Bool.true_or, decide_true, decide_false, List.isEmpty_nil, Option.isSome_some, hset, and_self, and_true, true_and, or_true, true_or, Int.cast_ofNat_Int, Int.reduceDiv, Int.reduceMod, Int.reduceLT, Int.reduceLE, Int.reduceAdd, Int.reduceSub, Int.reduceMul, Int.reduceNeg, Int.reduceBEq, Int.reduceEq, Int.reduceToNat, Nat.reduceLT, Nat.reduceLeDiff, Nat.reduceBEq, reduceIte, beq_self_eq_true, *])
/-- a number as so many signs -/
def sigA : Nat → Nat → List Nat → List Nat
  | 0, _, acc => acc
  | k + 1, x, acc => sigA k (x / 2) ((48 + x % 2) :: acc)
def sig (sz x : Nat) : List Nat := sigA sz x []
noncomputable def closedL (sz : Nat) (tabs : List (List Nat)) (rows : List Nat) : List Nat := (List.range (2 ^ sz)).filter fun x => @decide (Clo sz tabs rows x) (Classical.propDecidable _)
theorem mem_closedL {sz : Nat} {tabs : List (List Nat)} {rows : List Nat} (hr : ∀ y ∈ rows, y < 2 ^ sz) {x : Nat} : x ∈ closedL sz tabs rows ↔ Clo sz tabs rows x := by
  unfold closedL
  rw [List.mem_filter, List.mem_range]
  constructor
  · rintro ⟨_, h⟩; simpa using h
  · intro h; exact ⟨h.lt hr, by simpa using h⟩
def tabOk (t : List Nat) : Bool := decide (2 ≤ t.length) && decide (t.length = 2 ^ Nat.log2 t.length) && decide (Nat.log2 t.length ≤ 19)
theorem tabOk_is {t : List Nat} (h : tabOk t = true) : IsTab t := by
  simp only [tabOk, Bool.and_eq_true, decide_eq_true_eq] at h
  obtain ⟨⟨h1, h2⟩, h3⟩ := h
  cases e : Nat.log2 t.length with
  | zero => rw [e] at h2; simp at h2; omega
  | succ j => exact ⟨j, by omega, by rw [e] at h2; exact h2⟩
def rowsOk (sz : Nat) (ls : List (List Nat)) : Bool := decide (1 ≤ sz) && decide (sz ≤ 16) && decide (ls.length ≤ 65536) && ls.all fun l => l.length == sz && isBits l
noncomputable def closedF (ds : List D) (st : PSt) : Option (D × PSt) := match ds with
  | [.lst ts, .lst rs] => match strsD ts, strsD rs with
    | some tabs, some (l0 :: ls) => if rowsOk l0.length (l0 :: ls) && tabs.all tabOk && st.hd.isEmpty then some (.lst (strL ((closedL l0.length tabs ((l0 :: ls).map EvBin.worth)).map (sig l0.length))), st) else none
    | _, _ => none
  | _ => none
theorem strsD_strL : ∀ {ds : List D} {ls : List (List Nat)}, strsD ds = some ls → ds = strL ls
  | [], ls, h => by cases h; rfl
  | .str i :: r, ls, h => by
    simp only [strsD] at h
    cases e : strsD r with
    | none => rw [e] at h; cases h
    | some m => rw [e] at h; cases h; rw [strsD_strL e]; rfl
  | .non :: _, _, h => by simp [strsD] at h
  | .bl _ :: _, _, h => by simp [strsD] at h
  | .int _ :: _, _, h => by simp [strsD] at h
  | .lst _ :: _, _, h => by simp [strsD] at h
  | .tup _ :: _, _, h => by simp [strsD] at h
  | .dct _ _ :: _, _, h => by simp [strsD] at h
  | .dcT _ _ :: _, _, h => by simp [strsD] at h
  | .ins _ _ _ :: _, _, h => by simp [strsD] at h
  | .fn _ :: _, _, h => by simp [strsD] at h
  | .cls _ :: _, _, h => by simp [strsD] at h
  | .ty _ :: _, _, h => by simp [strsD] at h
  | .stt :: _, _, h => by simp [strsD] at h
  | .hnd _ :: _, _, h => by simp [strsD] at h
  | .dks _ :: _, _, h => by simp [strsD] at h
theorem plain_strL : ∀ ls : List (List Nat), plainDs (strL ls) = true
  | [] => rfl
  | l :: r => by show (plainD (.str l) && plainDs (strL r)) = true; rw [plain_strL r]; rfl
theorem worth_go : ∀ (l : List Nat) (a : Nat), (∀ c ∈ l, EvBin.Bit c) → l.foldl (fun a c => a * 2 + (c - 48)) a < (a + 1) * 2 ^ l.length
  | [], a, _ => by simp
  | c :: l, a, h => by
    rw [List.foldl_cons]
    have h1 := worth_go l (a * 2 + (c - 48)) fun d hd => h d (by simp [hd])
    have h2 : c - 48 ≤ 1 := by rcases h c (by simp) with rfl | rfl <;> decide
    rw [List.length_cons, Nat.pow_succ]
    have h3 : (a * 2 + (c - 48) + 1) * 2 ^ l.length ≤ (a + 1) * 2 * 2 ^ l.length := Nat.mul_le_mul_right _ (by omega)
    rw [Nat.mul_comm (2 ^ l.length) 2, ← Nat.mul_assoc]
    omega
theorem worth_lt {l : List Nat} (h : ∀ c ∈ l, EvBin.Bit c) : EvBin.worth l < 2 ^ l.length := by
  have := worth_go l 0 h
  unfold EvBin.worth; simpa using this
theorem isBits_of {l : List Nat} (h : isBits l = true) : ∀ c ∈ l, EvBin.Bit c := by
  intro c hc
  have := List.all_eq_true.mp h c hc
  simp only [Bool.or_eq_true, beq_iff_eq] at this
  exact this
theorem keysOf_kz : ∀ (ls : List (List Nat)) (fk : List Nat), ls.foldl addW (kz fk) = kz ((ls.map EvBin.worth).foldl (addN []) fk)
  | [], fk => rfl
  | l :: r, fk => by
    have h1 : addW (kz fk) l = kz (addN [] fk (EvBin.worth l)) := by
      unfold addW addK
      rw [any_kz]
      unfold addN
      by_cases h : EvBin.worth l ∈ fk
      · simp [h]
      · simp only [h, decide_false, Bool.false_eq_true, if_false, List.not_mem_nil, or_self]
        simp [kz]
    rw [List.foldl_cons, h1, keysOf_kz r, List.map_cons, List.foldl_cons]
theorem perm_of {a b : List Nat} (ha : a.Nodup) (hb : b.Nodup) (h : ∀ x, x ∈ a ↔ x ∈ b) : a.Perm b := (List.perm_ext_iff_of_nodup ha hb).mpr h
section
variable {wf : Nat} {P : Pr} {G : String → Option Fn}
theorem dbl_of (hG : P "doubled" = none ∧ G "doubled" = some ⟨1, 3, bDoubled, none⟩) {n k : Nat} {st : PSt} (hk : k < 1000) : call wf P G (n + 1) "doubled" [.int (k : Int)] st = some (.int ((2 ^ k : Nat) : Int), st) := by
  rw [z_fn hG rfl]
  have key : ∀ (m i a : Nat) (s2 : Slot), ∃ s2', forL (forB (call wf P G n) wf (.nm 2) [.set 1 (.bin .mul (.var 1) (.int 2))]) ((List.range' i m).map fun (i : Nat) => D.int i) [some (false, .int (k : Int)), some (false, .int (a : Int)), s2] st = some (.nx, [some (false, .int (k : Int)), some (false, .int ((a * 2 ^ m : Nat) : Int)), s2'], st) := by
    intro m
    induction m with
    | zero => intro i a s2; exact ⟨s2, by simp [forL]⟩
    | succ m ih =>
      intro i a s2
      obtain ⟨s2', e⟩ := ih (i + 1) (a * 2) (some (false, .int (i : Int)))
      refine ⟨s2', ?_⟩
      rw [List.range'_succ, List.map_cons, forL]
      have hm : binD .mul (.int (a : Int)) (.int 2) = some (.int ((a * 2 : Nat) : Int)) := by rw [y_mulR (by decide) (by decide), Int.natCast_mul]; rfl
      clear ih
      walk_at "ev"
      rw [Nat.pow_succ, Nat.mul_comm (2 ^ m) 2, ← Nat.mul_assoc]
  obtain ⟨s2', e⟩ := key k 0 1 none
  rw [← List.range_eq_range'] at e
  have hr := s_rng (k := k) (by omega)
  rw [Nat.one_mul] at e
  rw [show ((1 : Nat) : Int) = 1 from rfl] at e
  clear key
  unfold rngL at hr
  walk_at "ev"
theorem sgn_of (hG : P "signs_of" = none ∧ G "signs_of" = some ⟨2, 4, bSigns, none⟩) {n k : Nat} {x : Nat} {st : PSt} (hk : k < 1000) : call wf P G (n + 1) "signs_of" [.int (x : Int), .int (k : Int)] st = some (.str (sig k x), st) := by
  rw [z_fn hG rfl]
  have key : ∀ (m i x : Nat) (acc : List Nat) (s3 : Slot), m + acc.length < 2000 → ∃ s0 s3', forL (forB (call wf P G n) wf (.nm 3) [.set 2 (.bin .add (.bi .str1 [(.bin .mod (.var 0) (.int 2))]) (.var 2)), .set 0 (.bin .fdiv (.var 0) (.int 2))]) ((List.range' i m).map fun (i : Nat) => D.int i) [some (false, .int (x : Int)), some (false, .int (k : Int)), some (false, .str acc), s3] st = some (.nx, [s0, some (false, .int (k : Int)), some (false, .str (sigA m x acc)), s3'], st) := by
    intro m
    induction m with
    | zero => intro i x acc s3 _; exact ⟨some (false, .int (x : Int)), s3, by simp [forL, sigA]⟩
    | succ m ih =>
      intro i x acc s3 hl
      obtain ⟨s0, s3', e⟩ := ih (i + 1) (x / 2) ((48 + x % 2) :: acc) (some (false, .int (i : Int))) (by simp; omega)
      refine ⟨s0, s3', ?_⟩
      rw [List.range'_succ, List.map_cons, forL]
      have hb : biD .str1 [.int ((x : Int) % 2)] = some (.str [48 + x % 2]) := by
        rcases Nat.mod_two_eq_zero_or_one x with h | h
        · rw [show ((x : Int) % 2) = 0 by omega, h]; kernel_rfl
        · rw [show ((x : Int) % 2) = 1 by omega, h]; kernel_rfl
      have hl2 : binD .add (.str [48 + x % 2]) (.str acc) = some (.str ((48 + x % 2) :: acc)) := y_addS (by simp; show _ ≤ 16777216; omega)
      have hd : (x : Int) / 2 = ((x / 2 : Nat) : Int) := by omega
      clear ih
      walk_at "ev"
      rfl
  obtain ⟨s0, s3', e⟩ := key k 0 x [] none (by simp; omega)
  rw [← List.range_eq_range'] at e
  have hr := s_rng (k := k) (by omega)
  clear key
  unfold rngL at hr
  walk_at "ev"
  rfl
end
section
variable {wf : Nat} {P : Pr} {G : String → Option Fn} (hG : SpG P G)
include hG
abbrev bSpread : List S := [.ret (.lc [1] (.nm 1) .seq [(.bf .sorted [(.hkeys (.fld (.var 0) "origins"))])] none (.call "signs_of" [(.mv 1), (.fld (.var 0) "size")]))]
theorem intsD_of : ∀ l : List Int, intsD (l.map D.int) = some l
  | [] => rfl
  | i :: r => by show (intsD (r.map D.int)).map (i :: ·) = _; rw [intsD_of r]; rfl
theorem sorted_keys {sz : Nat} {tabs : List (List Nat)} {rows ok : List Nat} (hr : ∀ y ∈ rows, y < 2 ^ sz) (hf : Fr sz ok) (h : ∀ x, x ∈ ok ↔ Clo sz tabs rows x) : bfD .sorted [.lst (intsL ok)] = some (.lst (intsL (closedL sz tabs rows))) := by
  have h1 : intsD (intsL ok) = some (ok.map fun (x : Nat) => (x : Int)) := by
    have := intsD_of hG (ok.map fun (x : Nat) => (x : Int))
    rw [List.map_map] at this
    exact this
  show (intsD (intsL ok)).map _ = _
  rw [h1]
  show some (D.lst ((sortI (ok.map fun (x : Nat) => (x : Int))).map .int)) = _
  have hp : ((closedL sz tabs rows).map fun (x : Nat) => (x : Int)).Perm (ok.map fun (x : Nat) => (x : Int)) := by
    refine List.Perm.map _ (perm_of ?_ hf.nd fun x => by rw [mem_closedL hr, h])
    exact List.Pairwise.filter _ List.nodup_range
  have ho : ((closedL sz tabs rows).map fun (x : Nat) => (x : Int)).Pairwise (· ≤ ·) := by
    rw [List.pairwise_map]
    refine List.Pairwise.filter _ ?_
    exact List.pairwise_le_range.imp fun h => Int.ofNat_le.mpr h
  rw [← sortI_of hp ho, List.map_map]
  rfl
theorem spread_end {n sz : Nat} {st : PSt} {ts : List D} {tabs : List (List Nat)} {rows ok : List Nat} {fk : List Ky} {wh : Int} (hsz : sz ≤ 16) (hr : ∀ y ∈ rows, y < 2 ^ sz) (hf : Fr sz ok) (h : ∀ x, x ∈ ok ↔ Clo sz tabs rows x) :
    exL (call wf P G (n + 1)) wf bSpread [some (false, sD sz wh ts), none] { st with hd := [.dks (kz ok), .dks fk] } = some (.rt (.lst (strL ((closedL sz tabs rows).map (sig sz)))), [some (false, sD sz wh ts), none], { st with hd := [.dks (kz ok), .dks fk] }) := by
  have e0 : sfs.idxOf? "origins" = some 3 := by decide +kernel
  have e1 : sfs.idxOf? "size" = some 0 := by decide +kernel
  have hk := kz_keys ok
  have hs := sorted_keys hG hr hf h
  have hl : okLen ((strL ((closedL sz tabs rows).map (sig sz))).length) = true := okLen_of (by
    unfold strL closedL
    rw [List.length_map, List.length_map]
    have h1 := List.length_filter_le (fun x => @decide (Clo sz tabs rows x) (Classical.propDecidable _)) (List.range (2 ^ sz))
    rw [List.length_range] at h1
    have h4 : (2 : Nat) ^ sz ≤ 2 ^ 16 := Nat.pow_le_pow_right (by decide) hsz
    show _ ≤ 16777216
    omega)
  have hlc : lcLoop (lcB (call wf P G (n + 1)) [1] (.nm 1) none (.call "signs_of" [(.mv 1), (.fld (.var 0) "size")])) (intsL (closedL sz tabs rows)) [some (false, sD sz wh ts), none] { st with hd := [.dks (kz ok), .dks fk] } = some (strL ((closedL sz tabs rows).map (sig sz)), [some (false, sD sz wh ts), none], { st with hd := [.dks (kz ok), .dks fk] }) := by
    have e : strL ((closedL sz tabs rows).map (sig sz)) = (intsL (closedL sz tabs rows)).map fun d => match d with | .int i => D.str (sig sz i.toNat) | d => d := by
      unfold strL intsL
      rw [List.map_map, List.map_map]
      rfl
    rw [e]
    refine lcLoop_map fun d hd => ?_
    obtain ⟨x, hx, rfl⟩ := List.mem_map.mp hd
    have hsg := sgn_of hG.sgn (wf := wf) (n := n) (k := sz) (x := x) (st := { st with hd := [.dks (kz ok), .dks fk] }) (by omega)
    have hx' : (x : Int).toNat = x := rfl
    clear hd e hs hl
    simp only [sD]
    walk_at "ev"
  simp only [sD] at hlc ⊢
  walk_at "ev"
/-- what closedF tells is what closed_rows hands back -/
theorem closedAt_of {n : Nat} {ds : List D} {st st2 : PSt} {d : D} (hn : 22 ≤ n) (h : closedF ds st = some (d, st2)) : ∃ ts rs ls, ds = [.lst ts, .lst rs] ∧ strsD rs = some ls ∧ ClosedAt (call wf P G n "doubled") (call wf P G n) wf bTurn bSpread 4 1 ts ls d st st2 := by
  unfold closedF at h
  split at h
  · rename_i ts rs
    split at h
    · rename_i tabs l0 ls ht hr
      split at h
      · rename_i hc
        cases h
        simp only [Bool.and_eq_true] at hc
        obtain ⟨⟨hc1, hc2⟩, hc3⟩ := hc
        have hst : st.hd = [] := by simpa using hc3
        unfold rowsOk at hc1
        simp only [Bool.and_eq_true, decide_eq_true_eq, List.all_eq_true, beq_iff_eq] at hc1
        obtain ⟨⟨⟨c1, c2⟩, c3⟩, c4⟩ := hc1
        have htab : ∀ t ∈ tabs, IsTab t := fun t hm => tabOk_is (List.all_eq_true.mp hc2 t hm)
        have hets := strsD_strL ht
        subst hets
        refine ⟨_, rs, l0 :: ls, rfl, hr, ⟨l0, ((2 ^ l0.length - 1 : Nat) : Int), st, st, ?_⟩⟩
        have hrow : ∀ y ∈ (l0 :: ls).map EvBin.worth, y < 2 ^ l0.length := fun y hy => by
          obtain ⟨l, hl, rfl⟩ := List.mem_map.mp hy
          have := worth_lt (isBits_of (c4 l hl).2)
          rwa [(c4 l hl).1] at this
        have hfr : Fr l0.length (((l0 :: ls).map EvBin.worth).foldl (addN []) []) := Fr.adds ⟨by simp, by simp⟩ hrow
        obtain ⟨ok', N, k1, k2, k3⟩ := loop_eq hG (wf := wf) (n := n) (st := st) (tabs := tabs) (rows := (l0 :: ls).map EvBin.worth) c2 (by omega) htab hst _ _ (Nat.le_refl _) hfr (fun x hx => by
          rcases addN_mem hx with z | z
          · cases z
          · exact .base z) (fun x hx => (addN_all (ok := []) hx).resolve_left (by simp))
        refine ⟨N, kz ok', plain_strL _, rfl, by show _ ≤ 16777216; omega, fun l hl => ?_, by show _ < 16777216; omega, hst, ?_, hst, ?_, ?_, fun fk => ?_, hst⟩
        · obtain ⟨h1, h2⟩ := c4 l hl
          exact ⟨by rintro rfl; simp at h1; omega, by omega, isBits_of h2⟩
        · obtain ⟨m, rfl⟩ : ∃ m, n = m + 1 := ⟨n - 1, by omega⟩
          rw [dbl_of hG.dbl (by omega)]
          have := Nat.two_pow_pos l0.length
          congr 3
          omega
        · have := keysOf_kz (l0 :: ls) []
          unfold keysOf
          rw [show (([] : List Ky)) = kz [] from rfl, this]
          exact k1
        · exact plain_strL _
        · obtain ⟨m, rfl⟩ : ∃ m, n = m + 1 := ⟨n - 1, by omega⟩
          exact ⟨_, spread_end hG c2 hrow k2 k3⟩
      · cases h
    · cases h
  · cases h
end
end Ev
/-! Lib -/
/-! Lib: texts of defs that several laws have (written by genlib.py). -/
namespace Ev
abbrev x_is_integer : Fn := ⟨1, 1, [.ret (.and (.isi (.var 0) ["int"]) (.not (.isi (.var 0) ["bool"])))], none⟩
abbrev x_is_list : Fn := ⟨1, 1, [.ret (.isi (.var 0) ["list", "tuple"])], none⟩
abbrev x_is_row : Fn := ⟨2, 2, [.ret (.and (.lend "is_list" [(.var 0)]) (.cmp .eq (.bi .len [(.var 0)]) (.var 1)))], none⟩
abbrev x_is_text : Fn := ⟨1, 1, [.ret (.isi (.var 0) ["str"])], none⟩
abbrev x_is_letters : Fn := ⟨1, 2, [.ret (.and (.lend "is_text" [(.var 0)]) (.and (.cmp .gt (.bi .len [(.var 0)]) (.int 0)) (.bi .all [(.lc [1] (.nm 1) .seq [(.mv 0)] none (.cmp .inn (.var 1) (.glb (.str [97, 98, 99, 100, 101, 102, 103, 104, 105, 106, 107, 108, 109, 110, 111, 112, 113, 114, 115, 116, 117, 118, 119, 120, 121, 122]))))])))], none⟩
abbrev x_is_word : Fn := ⟨1, 1, [.ret (.and (.lend "is_letters" [(.var 0)]) (.cmp .le (.bi .len [(.var 0)]) (.int 8)))], none⟩
abbrev x_are_signs : Fn := ⟨2, 3, [.ret (.and (.lend "is_text" [(.var 0)]) (.and (.cmp .eq (.bi .len [(.var 0)]) (.var 1)) (.bi .all [(.lc [2] (.nm 2) .seq [(.mv 0)] none (.cmp .inn (.var 2) (.str [48, 49])))])))], none⟩
abbrev x_doubled : Fn := ⟨1, 3, [.set 1 (.int 1), .for (.nm 2) .rng [(.mv 0)] [.set 1 (.bin .mul (.var 1) (.int 2))], .ret (.mv 1)], none⟩
abbrev x_count_inputs : Fn := ⟨1, 2, [.set 1 (.int 1), .whl (.cmp .lt (.lend "doubled" [(.var 1)]) (.bi .len [(.var 0)])) [.set 1 (.bin .add (.var 1) (.int 1))], .ret (.ite (.cmp .eq (.lend "doubled" [(.var 1)]) (.bi .len [(.var 0)])) (.mv 1) .non)], none⟩
abbrev x_is_table : Fn := ⟨1, 1, [.ite (.or (.not (.lend "is_text" [(.var 0)])) (.not (.lend "are_signs" [(.var 0), (.bi .len [(.var 0)])]))) [.ret (.bl false)] [], .ret (.ntN (.lend "count_inputs" [(.var 0)]))], none⟩
abbrev x_need_table : Fn := ⟨1, 1, [.ite (.not (.lend "is_table" [(.var 0)])) [.never] []], none⟩
abbrev x_check_many : Fn := ⟨1, 1, [.ite (.or (.not (.lend "is_integer" [(.var 0)])) (.cmp .lt (.var 0) (.int 1))) [.never] []], none⟩
abbrev x_inputs_of : Fn := ⟨1, 1, [.ex (.lend "need_table" [(.var 0)]), .ret (.lend "count_inputs" [(.var 0)])], none⟩
abbrev x_at_inputs : Fn := ⟨2, 2, [.ret (.idx (.var 0) (.bi .int2 [(.var 1), (.int 2)]))], none⟩
abbrev x_signs_of : Fn := ⟨2, 4, [.set 2 (.str []), .for (.nm 3) .rng [(.mv 1)] [.set 2 (.bin .add (.bi .str1 [(.bin .mod (.var 0) (.int 2))]) (.var 2)), .set 0 (.bin .fdiv (.var 0) (.int 2))], .ret (.mv 2)], none⟩
abbrev x_all_inputs : Fn := ⟨1, 2, [.ret (.lc [1] (.nm 1) .rng [(.lend "doubled" [(.var 0)])] none (.lend "signs_of" [(.var 1), (.var 0)]))], none⟩
abbrev x_projection : Fn := ⟨2, 3, [.ret (.bi .join [(.str []), (.lc [2] (.nm 2) .seq [(.call "all_inputs" [(.mv 0)])] none (.idx (.var 2) (.var 1)))])], none⟩
abbrev x_wrong_gates : Fn := ⟨1, 4, [.ite (.not (.lend "is_list" [(.var 0)])) [.ret (.int 0)] [], .own 1 (.lst []), .for (.tp [2, 3]) .enm [(.mv 0)] [.ite (.or (.not (.lend "is_row" [(.var 3), (.int 2)])) (.or (.not (.lend "is_word" [(.idx (.var 3) (.int 0))])) (.or (.cmp .inn (.idx (.var 3) (.int 0)) (.var 1)) (.not (.lend "is_table" [(.idx (.var 3) (.int 1))]))))) [.ret (.mv 2)] [], .app 1 (.idx (.var 3) (.int 0))], .ret .non], none⟩
abbrev x_Gates___init__ : Fn := ⟨2, 5, [.set 2 (.lend "wrong_gates" [(.var 1)]), .ite (.ntN (.var 2)) [.never] [], .fst 0 "_pairs" (.lc [3, 4] (.tp [3, 4]) .seq [(.mv 1)] none (.tup [(.mv 3), (.mv 4)]))], some "Gates"⟩
abbrev x_Gates_pairs : Fn := ⟨1, 1, [.ret (.bf .list [(.fld (.var 0) "_pairs")])], none⟩
abbrev x_need_gates : Fn := ⟨1, 1, [.ite (.not (.isi (.var 0) ["Gates"])) [.never] []], none⟩
abbrev x_tables_in : Fn := ⟨1, 3, [.ret (.lc [1, 2] (.tp [1, 2]) .seq [(.meth "Gates" "pairs" "Gates.pairs" (.mv 0) [])] none (.mv 2))], none⟩
abbrev x_rows_of_inputs : Fn := ⟨1, 2, [.ret (.lc [1] (.nm 1) .rng [(.mv 0)] none (.lend "projection" [(.var 0), (.var 1)]))], none⟩
abbrev x_built_all : Fn := ⟨2, 2, [.ret (.call "closed_rows" [(.call "tables_in" [(.mv 0)]), (.call "rows_of_inputs" [(.mv 1)])])], none⟩
abbrev x_is_built : Fn := ⟨2, 2, [.ret (.cmp .inn (.var 1) (.call "built_all" [(.mv 0), (.lend "count_inputs" [(.var 1)])]))], none⟩
abbrev x_can_build : Fn := ⟨2, 2, [.ex (.lend "need_gates" [(.var 0)]), .ex (.lend "need_table" [(.var 1)]), .ret (.lend "is_built" [(.var 0), (.var 1)])], none⟩
abbrev x_need_many : Fn := ⟨2, 2, [.ex (.lend "need_gates" [(.var 0)]), .ex (.lend "check_many" [(.var 1)])], none⟩
abbrev x_number_built : Fn := ⟨2, 2, [.ex (.lend "need_many" [(.var 0), (.var 1)]), .ret (.bi .len [(.call "built_all" [(.mv 0), (.mv 1)])])], none⟩
abbrev x__law_pick : Fn := ⟨2, 5, [.sput 0 2 (.bin .add (.sget 0 2) (.int 1)), .whl (.and (.cmp .eq (.sget 0 1) (.int 0)) (.snz 0)) [.set 3 (.bi .abs [(.spop 0)]), .sput 0 3 (.bin .mod (.bi .int1 [(.bin .add (.bin .add (.bin .mul (.sget 0 3) (.int 6151)) (.var 3)) (.int 5))]) (.int 2147483647)), .sput 0 1 (.ite (.cmp .ge (.var 3) (.bin .pow (.int 10) (.int 18))) (.mv 3) (.int 0))], .ite (.cmp .gt (.sget 0 1) (.int 0)) [.set 4 (.bin .mod (.bi .int1 [(.sget 0 1)]) (.var 1)), .sput 0 1 (.bin .fdiv (.sget 0 1) (.var 1)), .ret (.mv 4)] [], .set 2 (.bin .mod (.bi .int1 [(.bin .pow (.bin .add (.bin .add (.sget 0 3) (.bin .mul (.int 7907) (.sget 0 2))) (.int 104723)) (.int 5))]) (.int 2147483629)), .ret (.bin .mod (.bin .mod (.bi .int1 [(.bin .pow (.bin .add (.bin .add (.bin .mul (.var 2) (.int 48271)) (.bin .mul (.int 30011) (.sget 0 2))) (.int 31)) (.int 3))]) (.int 1000000007)) (.var 1))], none⟩
abbrev x__law_one : Fn := ⟨2, 2, [.ret (.idx (.var 1) (.lend "_law_pick" [(.var 0), (.bi .len [(.var 1)])]))], none⟩
abbrev x__law_mixed : Fn := ⟨2, 5, [.par true true 3 4 (.bf .list [(.var 1)]) (.lst []), .for (.nm 2) .rng [(.bi .len [(.var 3)])] [.appPop 4 3 (.lend "_law_pick" [(.var 0), (.bi .len [(.var 3)])])], .ret (.mv 4)], none⟩
abbrev x__law_same : Fn := ⟨2, 5, [.ite (.isi (.var 1) ["list", "tuple"]) [.ite (.or (.cmp .ne (.isi (.var 0) ["list"]) (.isi (.var 1) ["list"])) (.cmp .ne (.isi (.var 0) ["tuple"]) (.isi (.var 1) ["tuple"]))) [.ret (.bl false)] [], .ret (.and (.cmp .eq (.bi .len [(.var 0)]) (.bi .len [(.var 1)])) (.bi .all [(.lc [3, 4] (.tp [3, 4]) .zp [(.mv 0), (.mv 1)] none (.lend "_law_same" [(.var 3), (.var 4)]))]))] [], .ite (.isi (.var 1) ["dict"]) [.ite (.or (.not (.isi (.var 0) ["dict"])) (.not (.lend "_law_same" [(.bf .list [(.var 0)]), (.bf .list [(.var 1)])]))) [.ret (.bl false)] [], .ret (.bi .all [(.lc [2] (.nm 2) .seq [(.mv 1)] none (.lend "_law_same" [(.idx (.var 0) (.var 2)), (.idx (.var 1) (.var 2))]))])] [], .ite (.isN (.var 1)) [.ret (.isN (.var 0))] [], .ite (.isi (.var 1) ["bool"]) [.ret (.and (.isi (.var 0) ["bool"]) (.cmp .eq (.var 0) (.var 1)))] [], .ite (.isi (.var 1) ["int"]) [.ret (.and (.isi (.var 0) ["int"]) (.and (.not (.isi (.var 0) ["bool"])) (.cmp .eq (.var 0) (.var 1))))] [], .ret (.and (.isi (.var 0) ["str"]) (.cmp .eq (.var 0) (.var 1)))], none⟩
abbrev x__law_free_word : Fn := ⟨2, 3, [.for (.nm 2) .rng [(.int 600)] [.ite (.cmp .nin (.var 1) (.var 0)) [.ret (.mv 1)] [], .set 1 (.bin .add (.bin .add (.idx (.str [113, 120, 121, 122]) (.bin .mod (.var 2) (.int 4))) (.idx (.str [97, 98, 99, 100, 101, 102, 103, 104, 105, 106, 107, 108, 109, 110, 111, 112, 113, 114, 115, 116, 117, 118, 119, 120, 121, 122]) (.bin .mod (.bin .fdiv (.var 2) (.int 4)) (.int 26)))) (.idx (.str [97, 98, 99, 100, 101, 102, 103, 104, 105, 106]) (.bin .fdiv (.var 2) (.int 104))))], .ret (.mv 1)], none⟩
abbrev x__law_words : Fn := ⟨2, 7, [.par false true 3 4 (.cmp .eq (.lend "_law_pick" [(.var 0), (.int 2)]) (.int 0)) (.lst []), .for (.nm 2) .rng [(.mv 1)] [.set 5 (.ite (.var 3) (.idx (.str [97, 98]) (.lend "_law_pick" [(.var 0), (.int 2)])) (.idx (.str [97, 98, 99, 100, 101, 102, 103, 104, 105, 106, 107, 108, 109, 110, 111, 112, 113, 114, 115, 116, 117, 118, 119, 120, 121, 122]) (.lend "_law_pick" [(.var 0), (.int 26)]))), .for (.nm 6) .rng [(.lend "_law_pick" [(.var 0), (.ite (.var 3) (.int 3) (.int 8))])] [.set 5 (.bin .add (.var 5) (.ite (.var 3) (.idx (.str [97, 98, 99]) (.lend "_law_pick" [(.var 0), (.int 3)])) (.idx (.str [97, 98, 99, 100, 101, 102, 103, 104, 105, 106, 107, 108, 109, 110, 111, 112, 113, 114, 115, 116, 117, 118, 119, 120, 121, 122]) (.lend "_law_pick" [(.var 0), (.int 26)]))))], .app 4 (.lend "_law_free_word" [(.var 4), (.var 5)])], .ret (.mv 4)], none⟩
abbrev x__law_bits : Fn := ⟨2, 3, [.ret (.bi .join [(.str []), (.lc [2] (.nm 2) .rng [(.mv 1)] none (.idx (.lst [(.str [48]), (.str [49])]) (.lend "_law_pick" [(.var 0), (.int 2)])))])], none⟩
abbrev x__law_all_signs : Fn := ⟨1, 5, [.set 1 (.lst [(.str [])]), .for (.nm 2) .rng [(.mv 0)] [.own 3 (.lst []), .for (.nm 4) .seq [(.mv 1)] [.ext 3 (.lst [(.bin .add (.var 4) (.str [48])), (.bin .add (.var 4) (.str [49]))])], .set 1 (.mv 3)], .ret (.mv 1)], none⟩
def libL : List (String × Fn) := [("is_integer", x_is_integer), ("is_list", x_is_list), ("is_row", x_is_row), ("is_text", x_is_text), ("is_letters", x_is_letters), ("is_word", x_is_word), ("are_signs", x_are_signs), ("doubled", x_doubled), ("count_inputs", x_count_inputs), ("is_table", x_is_table), ("need_table", x_need_table), ("check_many", x_check_many), ("inputs_of", x_inputs_of), ("at_inputs", x_at_inputs), ("signs_of", x_signs_of), ("all_inputs", x_all_inputs), ("projection", x_projection), ("wrong_gates", x_wrong_gates), ("Gates.__init__", x_Gates___init__), ("Gates.pairs", x_Gates_pairs), ("need_gates", x_need_gates), ("tables_in", x_tables_in), ("rows_of_inputs", x_rows_of_inputs), ("built_all", x_built_all), ("is_built", x_is_built), ("can_build", x_can_build), ("need_many", x_need_many), ("number_built", x_number_built), ("_law_pick", x__law_pick), ("_law_one", x__law_one), ("_law_mixed", x__law_mixed), ("_law_same", x__law_same), ("_law_free_word", x__law_free_word), ("_law_words", x__law_words), ("_law_bits", x__law_bits), ("_law_all_signs", x__law_all_signs)]
structure Lib (P : Pr) (G : String → Option Fn) : Prop where
  has : ∀ q ∈ libL, P q.1 = none ∧ G q.1 = some q.2
  clo : P "closed_rows" = some closedF
section
variable {P : Pr} {G : String → Option Fn} (h : Lib P G)
include h
theorem g_x_is_integer : P "is_integer" = none ∧ G "is_integer" = some x_is_integer := h.has _ (List.mem_of_getElem? (i := 0) rfl)
theorem g_x_is_list : P "is_list" = none ∧ G "is_list" = some x_is_list := h.has _ (List.mem_of_getElem? (i := 1) rfl)
theorem g_x_is_row : P "is_row" = none ∧ G "is_row" = some x_is_row := h.has _ (List.mem_of_getElem? (i := 2) rfl)
theorem g_x_is_text : P "is_text" = none ∧ G "is_text" = some x_is_text := h.has _ (List.mem_of_getElem? (i := 3) rfl)
theorem g_x_is_letters : P "is_letters" = none ∧ G "is_letters" = some x_is_letters := h.has _ (List.mem_of_getElem? (i := 4) rfl)
theorem g_x_is_word : P "is_word" = none ∧ G "is_word" = some x_is_word := h.has _ (List.mem_of_getElem? (i := 5) rfl)
theorem g_x_are_signs : P "are_signs" = none ∧ G "are_signs" = some x_are_signs := h.has _ (List.mem_of_getElem? (i := 6) rfl)
theorem g_x_doubled : P "doubled" = none ∧ G "doubled" = some x_doubled := h.has _ (List.mem_of_getElem? (i := 7) rfl)
theorem g_x_count_inputs : P "count_inputs" = none ∧ G "count_inputs" = some x_count_inputs := h.has _ (List.mem_of_getElem? (i := 8) rfl)
theorem g_x_is_table : P "is_table" = none ∧ G "is_table" = some x_is_table := h.has _ (List.mem_of_getElem? (i := 9) rfl)
theorem g_x_need_table : P "need_table" = none ∧ G "need_table" = some x_need_table := h.has _ (List.mem_of_getElem? (i := 10) rfl)
theorem g_x_check_many : P "check_many" = none ∧ G "check_many" = some x_check_many := h.has _ (List.mem_of_getElem? (i := 11) rfl)
theorem g_x_inputs_of : P "inputs_of" = none ∧ G "inputs_of" = some x_inputs_of := h.has _ (List.mem_of_getElem? (i := 12) rfl)
theorem g_x_at_inputs : P "at_inputs" = none ∧ G "at_inputs" = some x_at_inputs := h.has _ (List.mem_of_getElem? (i := 13) rfl)
theorem g_x_signs_of : P "signs_of" = none ∧ G "signs_of" = some x_signs_of := h.has _ (List.mem_of_getElem? (i := 14) rfl)
theorem g_x_all_inputs : P "all_inputs" = none ∧ G "all_inputs" = some x_all_inputs := h.has _ (List.mem_of_getElem? (i := 15) rfl)
theorem g_x_projection : P "projection" = none ∧ G "projection" = some x_projection := h.has _ (List.mem_of_getElem? (i := 16) rfl)
theorem g_x_wrong_gates : P "wrong_gates" = none ∧ G "wrong_gates" = some x_wrong_gates := h.has _ (List.mem_of_getElem? (i := 17) rfl)
theorem g_x_Gates___init__ : P "Gates.__init__" = none ∧ G "Gates.__init__" = some x_Gates___init__ := h.has _ (List.mem_of_getElem? (i := 18) rfl)
theorem g_x_Gates_pairs : P "Gates.pairs" = none ∧ G "Gates.pairs" = some x_Gates_pairs := h.has _ (List.mem_of_getElem? (i := 19) rfl)
theorem g_x_need_gates : P "need_gates" = none ∧ G "need_gates" = some x_need_gates := h.has _ (List.mem_of_getElem? (i := 20) rfl)
theorem g_x_tables_in : P "tables_in" = none ∧ G "tables_in" = some x_tables_in := h.has _ (List.mem_of_getElem? (i := 21) rfl)
theorem g_x_rows_of_inputs : P "rows_of_inputs" = none ∧ G "rows_of_inputs" = some x_rows_of_inputs := h.has _ (List.mem_of_getElem? (i := 22) rfl)
theorem g_x_built_all : P "built_all" = none ∧ G "built_all" = some x_built_all := h.has _ (List.mem_of_getElem? (i := 23) rfl)
theorem g_x_is_built : P "is_built" = none ∧ G "is_built" = some x_is_built := h.has _ (List.mem_of_getElem? (i := 24) rfl)
theorem g_x_can_build : P "can_build" = none ∧ G "can_build" = some x_can_build := h.has _ (List.mem_of_getElem? (i := 25) rfl)
theorem g_x_need_many : P "need_many" = none ∧ G "need_many" = some x_need_many := h.has _ (List.mem_of_getElem? (i := 26) rfl)
theorem g_x_number_built : P "number_built" = none ∧ G "number_built" = some x_number_built := h.has _ (List.mem_of_getElem? (i := 27) rfl)
theorem g_x__law_pick : P "_law_pick" = none ∧ G "_law_pick" = some x__law_pick := h.has _ (List.mem_of_getElem? (i := 28) rfl)
theorem g_x__law_one : P "_law_one" = none ∧ G "_law_one" = some x__law_one := h.has _ (List.mem_of_getElem? (i := 29) rfl)
theorem g_x__law_mixed : P "_law_mixed" = none ∧ G "_law_mixed" = some x__law_mixed := h.has _ (List.mem_of_getElem? (i := 30) rfl)
theorem g_x__law_same : P "_law_same" = none ∧ G "_law_same" = some x__law_same := h.has _ (List.mem_of_getElem? (i := 31) rfl)
theorem g_x__law_free_word : P "_law_free_word" = none ∧ G "_law_free_word" = some x__law_free_word := h.has _ (List.mem_of_getElem? (i := 32) rfl)
theorem g_x__law_words : P "_law_words" = none ∧ G "_law_words" = some x__law_words := h.has _ (List.mem_of_getElem? (i := 33) rfl)
theorem g_x__law_bits : P "_law_bits" = none ∧ G "_law_bits" = some x__law_bits := h.has _ (List.mem_of_getElem? (i := 34) rfl)
theorem g_x__law_all_signs : P "_law_all_signs" = none ∧ G "_law_all_signs" = some x__law_all_signs := h.has _ (List.mem_of_getElem? (i := 35) rfl)
end
end Ev
/-! SpPick -/
/-! SpPick: the laws' drawing. -/
namespace Ev
open Mx
def popS (st : PSt) : Option (Int × PSt) := match st.cells with | v :: r => some (v, { st with cells := r }) | [] => none
def popOk (i j n : Nat) (k : Int) : Bool := decide (i ≠ j ∧ n < lim ∧ 0 ≤ k ∧ k < 2 ^ 62)
section
variable {cl : Cl} {wf : Nat} {ρ : Env} {st : PSt}
theorem z_spop {i : Nat} : evE cl (.spop i) ρ st = iK (isStt ρ i) (oK (popS st) fun p => some (.int p.1, ρ, p.2)) := by
  rw [evE]; unfold iK popS
  cases isStt ρ i with
  | false => rfl
  | true =>
    simp only [if_true]
    rcases st.cells with _ | ⟨v, r⟩ <;> rfl
theorem z_appPop {i j : Nat} {e : E} : exS cl wf (.appPop i j e) ρ st = oK (ownL ρ i) fun _ => oK (ownL ρ j) fun _ => bK (evE cl e ρ st) fun x ρ1 st1 => oK (intI x) fun k => oK (ownL ρ1 i) fun xs => oK (ownL ρ1 j) fun ys => iK (popOk i j xs.length k) (oK (ys[k.toNat]?) fun y => some (.nx, (ρ1.set j (some (true, .lst (ys.eraseIdx k.toNat)))).set i (some (true, .lst (xs ++ [y]))), st1)) := by
  rw [exS]
  rcases h1 : ownL ρ i with _ | q1
  · rfl
  · simp only [oK_some]
    rcases h2 : ownL ρ j with _ | q2
    · rfl
    · simp only [oK_some]
      rcases h3 : evE cl e ρ st with _ | ⟨x, ρ1, st1⟩
      · rfl
      · simp only [bK_some]
        cases x with
        | int k =>
          simp only [intI, oK_some]
          rcases h4 : ownL ρ1 i with _ | xs
          · rfl
          · simp only [oK_some]
            rcases h5 : ownL ρ1 j with _ | ys
            · rfl
            · simp only [oK_some]
              unfold iK popOk
              by_cases hc : i ≠ j ∧ xs.length < lim ∧ 0 ≤ k ∧ k < 2 ^ 62
              · rw [if_pos hc, decide_eq_true hc, if_pos rfl]
                rcases h6 : ys[k.toNat]? with _ | y <;> rfl
              · rw [if_neg hc, decide_eq_false hc, if_neg (by decide)]
        | _ => rfl
theorem popOk_of {i j n k : Nat} (h : i ≠ j) (h1 : n < 1000000) (h2 : k < 1000000) : popOk i j n (k : Int) = true := by
  unfold popOk
  refine decide_eq_true ⟨h, ?_, by omega, by omega⟩
  show n < 16777216
  omega
end
local macro_rules | `(tactic| walk_at "ev") => `(tactic| simp -implicitDefEqProofs only [↓bK_v, ↓cK_v, ↓oK_v, ↓tK_v, ↓iK_v, ↓sK_v, ↓vK_v, ↓insK_v, ↓hK_v, bK_w, cK_w, oK_w, tK_wt, tK_wf, iK_w, sK_wn, sK_wr, vK_w, insK_w, hK_w, vec_one, z_var, z_mv, z_int, z_bl, z_non, z_str, z_glb, z_bin, z_neg, z_inv, z_not, z_cmp, z_isN, z_ntN, z_chain, z_and, z_or, z_ite, z_tup, z_lst, z_call, z_lend, z_meth, z_fld, z_bi, z_bf, z_idx, z_sl, z_sget, z_snz, z_spop, z_appPop, z_lzip, z_hin, z_hlen, z_hkeys, z_hne, z_lc, z_nil, z_cons, z_no, z_so, z_no', z_so', lcB_app, forB_app, whC_app, whB_app, z_bnm, z_set, z_own, z_tset, z_par, z_app, z_ext, z_put, z_site, z_whl, z_for, z_ret, z_ex, z_pass, z_snil, z_scons, z_sput, z_hput, z_hupd, bK_some, cK_some, oK_some, tK_true, tK_false, iK_true, sK_nx, sK_rt, fK_rt, fK_nx, vK_some, insK_some, hK_some, negD, invD, notD, fldD, intO, seqO, lstO, intI, hndI, isNonD, setAll, bindD, ownL, ownD, wipeE, backE, isStt, stGet, stPut, Option.getD_some, Option.bind_some, Option.map_some, List.length_cons, List.length_nil, Int.toNat_natCast, Nat.reduceAdd, Nat.reduceSub, Nat.reduceEqDiff, List.map_cons, List.map_nil, List.replicate, List.cons_append, List.nil_append, List.getElem?_cons_zero, List.getElem?_cons_succ, List.set_cons_zero, List.set_cons_succ, ite_true, ite_false, hget, keyD, Bool.not_true, Bool.not_false, Bool.false_eq_true, if_false, if_true, if_pos, flatD, y_add, y_addS, y_addL, y_sub, y_mulR, y_mulL, y_mulS, y_mod, y_div, y_pow, y_band, y_bor, y_eq, y_ne, y_lt, y_le, y_gt, y_ge, y_ltS, y_inn, y_nin, e_ii, e_ss, e_bb, e_nn, e_si, e_is, i_ss, i_s1, i_sL, i_sT, q_lenL, q_lenT, q_lenS, q_lenD, q_abs, q_max, q_min, q_int, q_int2, q_all, q_any, q_join, c_listL, c_listT, d_lst, d_tup, d_str, d_lst0, d_lst1, d_lst2, d_tup0, d_tup1, d_tup2, d_str0, s_seqL, s_seqT, s_seqS, s_rng, s_rng1, s_rng2, s_rng3, s_rng4, s_rng5, s_rng6, s_rng7, s_rng8, s_rng600, s_enm, s_zpL, s_zpT, z_isi', t_1, t_2, t_3, t_4, t_5, t_6, t_7, t_8, t_9, t_10, t_11, t_12, t_13, t_14, t_15, t_16, t_17, t_18, t_19, t_20, t_21, t_22, t_23, t_24, t_25, t_26, t_27, t_28, t_29, t_30, t_31, t_32, t_33, t_34, t_35, t_36, t_37, t_38, t_39, t_40, t_41, t_42, t_43, t_44, t_45, t_46, t_47, t_48, t_49, t_50, t_51, t_52, t_53, t_54, t_55, t_56, t_57, t_58, t_59, t_60, t_61, t_62, t_63, t_64, t_65, t_66, t_67, t_68, t_69, t_70, t_71, t_72, t_73, t_74, t_75, t_76, t_77, t_78, t_79, t_80, t_81, Bool.and_true, Bool.true_and, Bool.false_and, Bool.or_false, Bool.false_or, Bool.true_or, decide_true, decide_false, List.isEmpty_nil, Option.isSome_some, hset, and_self, and_true, true_and, or_true, true_or, Int.cast_ofNat_Int, Int.reduceDiv, Int.reduceMod, Int.reduceLT, Int.reduceLE, Int.reduceAdd, Int.reduceSub, Int.reduceMul, Int.reduceNeg, Int.reduceBEq, Int.reduceEq, Int.reduceToNat, Nat.reduceLT, Nat.reduceLeDiff, Nat.reduceBEq, reduceIte, beq_self_eq_true, *])
/-- a state with so many draws left, at the least -/
structure Pk (m : Nat) (st : PSt) : Prop where
  hd : st.hd = []
  a0 : 0 ≤ st.a
  b0 : 0 ≤ st.b
  b1 : st.b + m ≤ 100000000000
  c0 : 0 ≤ st.c
  c1 : st.c < 2147483647
  ln : st.cells.length ≤ 63
theorem Pk.less {m n : Nat} {st : PSt} (h : Pk m st) (hn : n ≤ m) : Pk n st := ⟨h.hd, h.a0, h.b0, by have := h.b1; omega, h.c0, h.c1, h.ln⟩
section
variable {wf : Nat} {P : Pr} {G : String → Option Fn} (L : Lib P G) (hw : 1000 ≤ wf)
include L hw
theorem sp_pick {n m many : Nat} {st : PSt} (h0 : 0 < many) (h1 : many < 1000000000) (hp : Pk (m + 1) st) :
    ∃ (r : Nat) (st' : PSt), r < many ∧ Pk m st' ∧ call wf P G (n + 1) "_law_pick" [.stt, .int (many : Int)] st = some (.int (r : Int), st') := by
  rw [z_fn (g_x__law_pick L) rfl]
  obtain ⟨cells, a, b, c, hd⟩ := st
  obtain ⟨hd0, a0, b0, b1, c0, c1, ln⟩ := hp
  simp only at hd0 a0 b0 b1 c0 c1 ln
  subst hd0
  have loop : ∀ (cells : List Int) (a c : Int) (k : Nat) (s3 : Slot), cells.length < k → 0 ≤ a → 0 ≤ c → c < 2147483647 → ∃ (cells' : List Int) (a' c' : Int) (s3' : Slot), cells'.length ≤ cells.length ∧ 0 ≤ a' ∧ 0 ≤ c' ∧ c' < 2147483647 ∧
      whlL (whC (call wf P G n) (.and (.cmp .eq (.sget 0 1) (.int 0)) (.snz 0))) (whB (call wf P G n) wf [.set 3 (.bi .abs [(.spop 0)]), .sput 0 3 (.bin .mod (.bi .int1 [(.bin .add (.bin .add (.bin .mul (.sget 0 3) (.int 6151)) (.var 3)) (.int 5))]) (.int 2147483647)), .sput 0 1 (.ite (.cmp .ge (.var 3) (.bin .pow (.int 10) (.int 18))) (.mv 3) (.int 0))]) k
        [some (false, .stt), some (false, .int (many : Int)), none, s3, none] ⟨cells, a, b + 1, c, []⟩ = some (.nx, [some (false, .stt), some (false, .int (many : Int)), none, s3', none], ⟨cells', a', b + 1, c', []⟩) := by
    intro cells
    induction cells with
    | nil =>
      intro a c k s3 hk ha hc hc2
      obtain ⟨k, rfl⟩ : ∃ k', k = k' + 1 := ⟨k - 1, by simp at hk; omega⟩
      refine ⟨[], a, c, s3, Nat.le_refl _, ha, hc, hc2, ?_⟩
      have e : whC (call wf P G n) (.and (.cmp .eq (.sget 0 1) (.int 0)) (.snz 0)) [some (false, .stt), some (false, .int (many : Int)), none, s3, none] ⟨[], a, b + 1, c, []⟩ = some (.bl false, [some (false, .stt), some (false, .int (many : Int)), none, s3, none], ⟨[], a, b + 1, c, []⟩) := by
        cases hz : (a == 0) <;> walk_at "ev"
      rw [whlL, e]
    | cons v r ih =>
      intro a c k s3 hk ha hc hc2
      obtain ⟨k, rfl⟩ : ∃ k', k = k' + 1 := ⟨k - 1, by simp at hk; omega⟩
      cases hz : (a == 0) with
      | false =>
        refine ⟨v :: r, a, c, s3, Nat.le_refl _, ha, hc, hc2, ?_⟩
        have e : whC (call wf P G n) (.and (.cmp .eq (.sget 0 1) (.int 0)) (.snz 0)) [some (false, .stt), some (false, .int (many : Int)), none, s3, none] ⟨v :: r, a, b + 1, c, []⟩ = some (.bl false, [some (false, .stt), some (false, .int (many : Int)), none, s3, none], ⟨v :: r, a, b + 1, c, []⟩) := by
          walk_at "ev"
        rw [whlL, e]
      | true =>
        have hv : 0 ≤ (if v < 0 then -v else v) := by split <;> omega
        generalize hq : (if v < 0 then -v else v) = q at hv
        have hpw : binD .pow (.int 10) (.int 18) = some (.int (10 ^ 18)) := y_pow (by decide) (by decide) (by decide)
        have hsp : popS ⟨v :: r, a, b + 1, c, []⟩ = some (v, ⟨r, a, b + 1, c, []⟩) := rfl
        have e : whC (call wf P G n) (.and (.cmp .eq (.sget 0 1) (.int 0)) (.snz 0)) [some (false, .stt), some (false, .int (many : Int)), none, s3, none] ⟨v :: r, a, b + 1, c, []⟩ = some (.bl true, [some (false, .stt), some (false, .int (many : Int)), none, s3, none], ⟨v :: r, a, b + 1, c, []⟩) := by
          clear ih
          walk_at "ev"
          rfl
        have e2 : ∃ a', 0 ≤ a' ∧ whB (call wf P G n) wf [.set 3 (.bi .abs [(.spop 0)]), .sput 0 3 (.bin .mod (.bi .int1 [(.bin .add (.bin .add (.bin .mul (.sget 0 3) (.int 6151)) (.var 3)) (.int 5))]) (.int 2147483647)), .sput 0 1 (.ite (.cmp .ge (.var 3) (.bin .pow (.int 10) (.int 18))) (.mv 3) (.int 0))] [some (false, .stt), some (false, .int (many : Int)), none, s3, none] ⟨v :: r, a, b + 1, c, []⟩ = some (.nx, [some (false, .stt), some (false, .int (many : Int)), none, some (false, .int q), none], ⟨r, a', b + 1, (c * 6151 + q + 5) % 2147483647, []⟩) := by
          clear ih e
          by_cases hg : (10 ^ 18 : Int) ≤ q
          · refine ⟨q, hv, ?_⟩
            have hg' := decide_eq_true hg
            walk_at "ev"
          · refine ⟨0, by omega, ?_⟩
            have hg' := decide_eq_false hg
            walk_at "ev"
        obtain ⟨a1, ha1, e2⟩ := e2
        obtain ⟨cells', a', c', s3', g1, g2, g3, g4, g5⟩ := ih a1 ((c * 6151 + q + 5) % 2147483647) k (some (false, .int q)) (by simp at hk; omega) ha1 (Int.emod_nonneg _ (by decide)) (Int.emod_lt_of_pos _ (by decide))
        refine ⟨cells', a', c', s3', by simp; omega, g2, g3, g4, ?_⟩
        rw [whlL, e]
        simp only [e2]
        exact g5
  obtain ⟨cells', a', c', s3', g1, g2, g3, g4, g5⟩ := loop cells a c wf none (by omega) a0 c0 c1
  clear loop
  have hmany : (0 : Int) < (many : Int) := by omega
  have hmany2 : (many : Int) < 1073741824 := by omega
  by_cases ha : 0 < a'
  · have hd := decide_eq_true ha
    refine ⟨(a' % many).toNat, ⟨cells', a' / many, b + 1, c', []⟩, ?_, ⟨rfl, Int.ediv_nonneg g2 (by omega), by simp only; omega, by simp only; omega, g3, g4, by simp only; omega⟩, ?_⟩
    · have h1 := Int.emod_nonneg a' (show (many : Int) ≠ 0 by omega)
      have h2 := Int.emod_lt_of_pos a' hmany
      omega
    · have h1 : (((a' % many).toNat : Nat) : Int) = a' % many := Int.toNat_of_nonneg (Int.emod_nonneg a' (by omega))
      rw [h1]
      clear h1
      have e1 : binD .mod (.int a') (.int (many : Int)) = some (.int (a' % many)) := y_mod hmany
      have e2 : binD .fdiv (.int a') (.int (many : Int)) = some (.int (a' / many)) := y_div hmany hmany2
      walk_at "ev"
  · have hd := decide_eq_false ha
    have hm1 : binD .mul (.int 7907) (.int (b + 1)) = some (.int (7907 * (b + 1))) := y_mulL (by decide) (by decide)
    have hp1 : binD .pow (.int (c' + 7907 * (b + 1) + 104723)) (.int 5) = some (.int ((c' + 7907 * (b + 1) + 104723) ^ 5)) := y_pow (by decide) (by decide) (by omega)
    have hmx := Int.emod_nonneg ((c' + 7907 * (b + 1) + 104723) ^ 5) (show (2147483629 : Int) ≠ 0 by decide)
    have hmx2 := Int.emod_lt_of_pos ((c' + 7907 * (b + 1) + 104723) ^ 5) (show (0 : Int) < 2147483629 by decide)
    generalize hx : (c' + 7907 * (b + 1) + 104723) ^ 5 % 2147483629 = x at hmx hmx2
    have hm2 : binD .mul (.int 30011) (.int (b + 1)) = some (.int (30011 * (b + 1))) := y_mulL (by decide) (by decide)
    have hp2 : binD .pow (.int (x * 48271 + 30011 * (b + 1) + 31)) (.int 3) = some (.int ((x * 48271 + 30011 * (b + 1) + 31) ^ 3)) := y_pow (by decide) (by decide) (by omega)
    generalize hy : (x * 48271 + 30011 * (b + 1) + 31) ^ 3 = y at hp2
    have e1 : binD .mod (.int (y % 1000000007)) (.int (many : Int)) = some (.int (y % 1000000007 % many)) := y_mod hmany
    refine ⟨(y % 1000000007 % many).toNat, ⟨cells', a', b + 1, c', []⟩, ?_, ⟨rfl, g2, by simp only; omega, by simp only; omega, g3, g4, by simp only; omega⟩, ?_⟩
    · have h1 := Int.emod_nonneg (y % 1000000007) (show (many : Int) ≠ 0 by omega)
      have h2 := Int.emod_lt_of_pos (y % 1000000007) hmany
      omega
    · have h1 : (((y % 1000000007 % many).toNat : Nat) : Int) = y % 1000000007 % many := Int.toNat_of_nonneg (Int.emod_nonneg _ (by omega))
      rw [h1]
      clear h1
      walk_at "ev"
end
end Ev
/-! SpLaw -/
/-! SpLaw: the laws' drawn words, bits, orders. -/
namespace Ev
open Mx
local macro_rules | `(tactic| walk_at "ev") => `(tactic| simp -implicitDefEqProofs only [↓bK_v, ↓cK_v, ↓oK_v, ↓tK_v, ↓iK_v, ↓sK_v, ↓vK_v, ↓insK_v, ↓hK_v, bK_w, cK_w, oK_w, tK_wt, tK_wf, iK_w, sK_wn, sK_wr, vK_w, insK_w, hK_w, vec_one, z_var, z_mv, z_int, z_bl, z_non, z_str, z_glb, z_bin, z_neg, z_inv, z_not, z_cmp, z_isN, z_ntN, z_chain, z_and, z_or, z_ite, z_tup, z_lst, z_call, z_lend, z_meth, z_fld, z_bi, z_bf, z_idx, z_sl, z_sget, z_snz, z_spop, z_appPop, z_lzip, z_hin, z_hlen, z_hkeys, z_hne, z_lc, z_nil, z_cons, z_no, z_so, z_no', z_so', lcB_app, forB_app, whC_app, whB_app, z_bnm, z_set, z_own, z_tset, z_par, z_app, z_ext, z_put, z_site, z_whl, z_for, z_ret, z_ex, z_pass, z_snil, z_scons, z_sput, z_hput, z_hupd, bK_some, cK_some, oK_some, tK_true, tK_false, iK_true, sK_nx, sK_rt, fK_rt, fK_nx, vK_some, insK_some, hK_some, negD, invD, notD, fldD, intO, seqO, lstO, intI, hndI, isNonD, setAll, bindD, ownL, ownD, wipeE, backE, isStt, stGet, stPut, Option.getD_some, Option.bind_some, Option.map_some, List.length_cons, List.length_nil, Int.toNat_natCast, Nat.reduceAdd, Nat.reduceSub, Nat.reduceEqDiff, List.map_cons, List.map_nil, List.replicate, List.cons_append, List.nil_append, List.getElem?_cons_zero, List.getElem?_cons_succ, List.set_cons_zero, List.set_cons_succ, ite_true, ite_false, hget, keyD, Bool.not_true, Bool.not_false, Bool.false_eq_true, if_false, if_true, if_pos, flatD, y_add, y_addS, y_addL, y_sub, y_mulR, y_mulL, y_mulS, y_mod, y_div, y_pow, y_band, y_bor, y_eq, y_ne, y_lt, y_le, y_gt, y_ge, y_ltS, y_inn, y_nin, e_ii, e_ss, e_bb, e_nn, e_si, e_is, i_ss, i_s1, i_sL, i_sT, q_lenL, q_lenT, q_lenS, q_lenD, q_abs, q_max, q_min, q_int, q_int2, q_all, q_any, q_join, c_listL, c_listT, d_lst, d_tup, d_str, d_lst0, d_lst1, d_lst2, d_tup0, d_tup1, d_tup2, d_str0, s_seqL, s_seqT, s_seqS, s_rng, s_rng1, s_rng2, s_rng3, s_rng4, s_rng5, s_rng6, s_rng7, s_rng8, s_rng600, s_enm, s_zpL, s_zpT, z_isi', t_1, t_2, t_3, t_4, t_5, t_6, t_7, t_8, t_9, t_10, t_11, t_12, t_13, t_14, t_15, t_16, t_17, t_18, t_19, t_20, t_21, t_22, t_23, t_24, t_25, t_26, t_27, t_28, t_29, t_30, t_31, t_32, t_33, t_34, t_35, t_36, t_37, t_38, t_39, t_40, t_41, t_42, t_43, t_44, t_45, t_46, t_47, t_48, t_49, t_50, t_51, t_52, t_53, t_54, t_55, t_56, t_57, t_58, t_59, t_60, t_61, t_62, t_63, t_64, t_65, t_66, t_67, t_68, t_69, t_70, t_71, t_72, t_73, t_74, t_75, t_76, t_77, t_78, t_79, t_80, t_81, Bool.and_true, Bool.true_and, Bool.false_and, Bool.or_false, Bool.false_or, Bool.true_or, decide_true, decide_false, List.isEmpty_nil, Option.isSome_some, hset, and_self, and_true, true_and, or_true, true_or, Int.cast_ofNat_Int, Int.reduceDiv, Int.reduceMod, Int.reduceLT, Int.reduceLE, Int.reduceAdd, Int.reduceSub, Int.reduceMul, Int.reduceNeg, Int.reduceBEq, Int.reduceEq, Int.reduceToNat, Nat.reduceLT, Nat.reduceLeDiff, Nat.reduceBEq, reduceIte, beq_self_eq_true, *])
structure IsW (w : List Nat) : Prop where
  ne : w ≠ []
  le : w.length ≤ 8
  ch : ∀ c ∈ w, 97 ≤ c ∧ c ≤ 122
def genW (k : Nat) : List Nat := [[113, 120, 121, 122].getD (k % 4) 0, 97 + k / 4 % 26, 97 + k / 104]
theorem genW_inj {j k : Nat} (hj : j < 600) (hk : k < 600) (h : genW j = genW k) : j = k := by
  unfold genW at h
  simp only [List.cons.injEq, and_true] at h
  obtain ⟨h1, h2, h3⟩ := h
  have h4 : j % 4 = k % 4 := by
    have a : j % 4 < 4 := Nat.mod_lt _ (by decide)
    have b : k % 4 < 4 := Nat.mod_lt _ (by decide)
    generalize j % 4 = x at h1 a ⊢
    generalize k % 4 = y at h1 b ⊢
    match x, y, a, b, h1 with
    | 0, 0, _, _, _ => rfl
    | 1, 1, _, _, _ => rfl
    | 2, 2, _, _, _ => rfl
    | 3, 3, _, _, _ => rfl
    | 0, 1, _, _, h => simp at h
    | 0, 2, _, _, h => simp at h
    | 0, 3, _, _, h => simp at h
    | 1, 0, _, _, h => simp at h
    | 1, 2, _, _, h => simp at h
    | 1, 3, _, _, h => simp at h
    | 2, 0, _, _, h => simp at h
    | 2, 1, _, _, h => simp at h
    | 2, 3, _, _, h => simp at h
    | 3, 0, _, _, h => simp at h
    | 3, 1, _, _, h => simp at h
    | 3, 2, _, _, h => simp at h
  omega
theorem genW_is {k : Nat} (h : k < 600) : IsW (genW k) := by
  refine ⟨by simp [genW], by simp [genW], fun c hc => ?_⟩
  unfold genW at hc
  simp only [List.mem_cons, List.not_mem_nil, or_false] at hc
  rcases hc with rfl | rfl | rfl
  · have a : k % 4 < 4 := Nat.mod_lt _ (by decide)
    generalize k % 4 = x at a ⊢
    match x, a with
    | 0, _ => decide
    | 1, _ => decide
    | 2, _ => decide
    | 3, _ => decide
  · omega
  · omega
theorem sub_len {α : Type} [DecidableEq α] : ∀ (l t : List α), l.Nodup → (∀ x ∈ l, x ∈ t) → l.length ≤ t.length
  | [], t, _, _ => Nat.zero_le _
  | a :: l, t, hn, h => by
    rw [List.nodup_cons] at hn
    have h1 := sub_len l (t.erase a) hn.2 fun x hx => by
      have hne : x ≠ a := by rintro rfl; exact hn.1 hx
      exact (List.mem_erase_of_ne hne).mpr (h x (by simp [hx]))
    rw [List.length_erase_of_mem (h a (by simp))] at h1
    have := List.length_pos_of_mem (h a (by simp))
    simp; omega
section
variable {wf : Nat} {P : Pr} {G : String → Option Fn} (L : Lib P G)
include L
theorem sp_free {n : Nat} {st : PSt} {taken : List (List Nat)} {w : List Nat} (ht : taken.length < 500) (hs : st.hd = []) (hW : IsW w) :
    ∃ w', IsW w' ∧ w' ∉ taken ∧ call wf P G (n + 1) "_law_free_word" [.lst (strL taken), .str w] st = some (.str w', st) := by
  rw [z_fn (g_x__law_free_word L) rfl]
  have key : ∀ (m k : Nat) (w : List Nat) (s2 : Slot), k + m = 600 → IsW w → (∀ j, j + 1 < k → genW j ∈ taken) → (0 < k → w = genW (k - 1)) →
      ∃ w' ρ', IsW w' ∧ w' ∉ taken ∧ forL (forB (call wf P G n) wf (.nm 2) [.ite (.cmp .nin (.var 1) (.var 0)) [.ret (.mv 1)] [], .set 1 (.bin .add (.bin .add (.idx (.str [113, 120, 121, 122]) (.bin .mod (.var 2) (.int 4))) (.idx (.str [97, 98, 99, 100, 101, 102, 103, 104, 105, 106, 107, 108, 109, 110, 111, 112, 113, 114, 115, 116, 117, 118, 119, 120, 121, 122]) (.bin .mod (.bin .fdiv (.var 2) (.int 4)) (.int 26)))) (.idx (.str [97, 98, 99, 100, 101, 102, 103, 104, 105, 106]) (.bin .fdiv (.var 2) (.int 104))))]) ((List.range' k m).map fun (i : Nat) => D.int i) [some (false, .lst (strL taken)), some (false, .str w), s2] st = some (.rt (.str w'), ρ', st) := by
    intro m
    induction m with
    | zero =>
      intro k w s2 hk _ hall _
      exfalso
      have h1 := sub_len ((List.range 599).map genW) taken (by
        rw [List.Nodup, List.pairwise_map]
        refine List.Pairwise.imp_of_mem ?_ List.nodup_range
        intro a b ha hb hab e
        rw [List.mem_range] at ha hb
        exact hab (genW_inj (by omega) (by omega) e)) (fun x hx => by
        obtain ⟨j, hj, rfl⟩ := List.mem_map.mp hx
        rw [List.mem_range] at hj
        exact hall j (by omega))
      rw [List.length_map, List.length_range] at h1
      omega
    | succ m ih =>
      intro k w s2 hk hW hall hw
      rw [List.range'_succ, List.map_cons, forL]
      by_cases hin : w ∈ taken
      · have hd := decide_eq_true hin
        obtain ⟨w', ρ', h1, h2, e⟩ := ih (k + 1) (genW k) (some (false, .int (k : Int))) (by omega) (genW_is (by omega)) (fun j hj => by
          by_cases hjk : j + 1 < k
          · exact hall j hjk
          · have : j = k - 1 := by omega
            subst this
            rw [← hw (by omega)]; exact hin) (fun _ => rfl)
        refine ⟨w', ρ', h1, h2, ?_⟩
        have a1 : idxD (.str [113, 120, 121, 122]) (.int ((k : Int) % 4)) = some (.str [[113, 120, 121, 122].getD (k % 4) 0]) := by
          have hm : k % 4 < 4 := Nat.mod_lt _ (by decide)
          rw [show (k : Int) % 4 = ((k % 4 : Nat) : Int) by omega]
          refine d_str ?_ (by decide)
          rw [List.getD_eq_getElem?_getD, List.getElem?_eq_getElem (by exact hm)]; rfl
        have a2 : idxD (.str [97, 98, 99, 100, 101, 102, 103, 104, 105, 106, 107, 108, 109, 110, 111, 112, 113, 114, 115, 116, 117, 118, 119, 120, 121, 122]) (.int ((k : Int) / 4 % 26)) = some (.str [97 + k / 4 % 26]) := by
          have hm : k / 4 % 26 < 26 := Nat.mod_lt _ (by decide)
          rw [show (k : Int) / 4 % 26 = ((k / 4 % 26 : Nat) : Int) by omega]
          refine d_str ?_ (by decide)
          rw [show ([97, 98, 99, 100, 101, 102, 103, 104, 105, 106, 107, 108, 109, 110, 111, 112, 113, 114, 115, 116, 117, 118, 119, 120, 121, 122] : List Nat) = List.range' 97 26 by decide, List.getElem?_range' hm, Nat.one_mul]
        have a3 : idxD (.str [97, 98, 99, 100, 101, 102, 103, 104, 105, 106]) (.int ((k : Int) / 104)) = some (.str [97 + k / 104]) := by
          have hm : k / 104 < 10 := by omega
          rw [show (k : Int) / 104 = ((k / 104 : Nat) : Int) by omega]
          refine d_str ?_ (by decide)
          rw [show ([97, 98, 99, 100, 101, 102, 103, 104, 105, 106] : List Nat) = List.range' 97 10 by decide, List.getElem?_range' hm, Nat.one_mul]
        have a4 : ∀ x y : Nat, binD .add (.str [x]) (.str [y]) = some (.str [x, y]) := fun x y => y_addS (show 1 + 1 ≤ lim by decide)
        have a5 : ∀ x y z : Nat, binD .add (.str [x, y]) (.str [z]) = some (.str [x, y, z]) := fun x y z => y_addS (show 2 + 1 ≤ lim by decide)
        have e' := e
        unfold genW at e'
        clear ih e
        walk_at "ev"
      · have hd := decide_eq_false hin
        refine ⟨w, [some (false, .lst (strL taken)), some (false, .str w), some (false, .int (k : Int))], hW, hin, ?_⟩
        clear ih
        walk_at "ev"
  obtain ⟨w', ρ', h1, h2, e⟩ := key 600 0 w none (by omega) hW (fun j hj => by omega) (fun h => by omega)
  refine ⟨w', h1, h2, ?_⟩
  rw [← List.range_eq_range'] at e
  have hr := s_rng600
  unfold rngL at hr
  clear key
  walk_at "ev"
abbrev abc : List Nat := [97, 98, 99, 100, 101, 102, 103, 104, 105, 106, 107, 108, 109, 110, 111, 112, 113, 114, 115, 116, 117, 118, 119, 120, 121, 122]
omit L in
theorem letter_at {l : List Nat} {r : Nat} (hl : ∀ c ∈ l, 97 ≤ c ∧ c ≤ 122) (h2 : l.length ≤ lim) (h : r < l.length) : ∃ c, (97 ≤ c ∧ c ≤ 122) ∧ idxD (.str l) (.int (r : Int)) = some (.str [c]) :=
  ⟨l[r], hl _ (List.getElem_mem h), d_str (List.getElem?_eq_getElem h) h2⟩
abbrev wordLp : List S := [.set 5 (.bin .add (.var 5) (.ite (.var 3) (.idx (.str [97, 98, 99]) (.lend "_law_pick" [(.var 0), (.int 3)])) (.idx (.str abc) (.lend "_law_pick" [(.var 0), (.int 26)]))))]
abbrev wordsLp : List S := [.set 5 (.ite (.var 3) (.idx (.str [97, 98]) (.lend "_law_pick" [(.var 0), (.int 2)])) (.idx (.str abc) (.lend "_law_pick" [(.var 0), (.int 26)]))), .for (.nm 6) .rng [(.lend "_law_pick" [(.var 0), (.ite (.var 3) (.int 3) (.int 8))])] wordLp, .app 4 (.lend "_law_free_word" [(.var 4), (.var 5)])]
theorem word_in (hw : 1000 ≤ wf) {n : Nat} {mn k : Int} {few : Bool} {ws : D} {s5 : Slot} : ∀ (m i q : Nat) (w : List Nat) (s6 : Slot) (st : PSt), Pk (q + m) st → (∀ c ∈ w, 97 ≤ c ∧ c ≤ 122) → w.length + m ≤ 8 →
    ∃ w' s6' st', Pk q st' ∧ w'.length = w.length + m ∧ (∀ c ∈ w', 97 ≤ c ∧ c ≤ 122) ∧ forL (forB (call wf P G (n + 1)) wf (.nm 6) wordLp) ((List.range' i m).map fun (i : Nat) => D.int i) [some (false, .stt), some (false, .int mn), some (false, .int k), some (false, .bl few), some (true, ws), some (false, .str w), s6] st = some (.nx, [some (false, .stt), some (false, .int mn), some (false, .int k), some (false, .bl few), some (true, ws), some (false, .str w'), s6'], st') := by
  intro m
  induction m with
  | zero => intro i q w s6 st hp hc _; exact ⟨w, s6, st, hp, rfl, hc, by simp [forL]⟩
  | succ m ih =>
    intro i q w s6 st hp hc hl
    have step : ∃ c st1, (97 ≤ c ∧ c ≤ 122) ∧ Pk (q + m) st1 ∧ forB (call wf P G (n + 1)) wf (.nm 6) wordLp (.int (i : Int)) [some (false, .stt), some (false, .int mn), some (false, .int k), some (false, .bl few), some (true, ws), some (false, .str w), s6] st = some (.nx, [some (false, .stt), some (false, .int mn), some (false, .int k), some (false, .bl few), some (true, ws), some (false, .str (w ++ [c])), some (false, .int (i : Int))], st1) := by
      cases few with
      | true =>
        obtain ⟨r, st1, h1, h2, h3⟩ := sp_pick L hw (n := n) (m := q + m) (many := 3) (by decide) (by decide) hp
        obtain ⟨c, hc1, hc2⟩ := letter_at (l := [97, 98, 99]) (by decide) (by decide) h1
        refine ⟨c, st1, hc1, h2, ?_⟩
        have hh := h2.hd
        simp only [Int.cast_ofNat_Int] at h3
        have ha : binD .add (.str w) (.str [c]) = some (.str (w ++ [c])) := y_addS (by simp; show _ ≤ 16777216; omega)
        clear ih
        walk_at "ev"
      | false =>
        obtain ⟨r, st1, h1, h2, h3⟩ := sp_pick L hw (n := n) (m := q + m) (many := 26) (by decide) (by decide) hp
        obtain ⟨c, hc1, hc2⟩ := letter_at (l := abc) (by decide) (by decide) h1
        refine ⟨c, st1, hc1, h2, ?_⟩
        have hh := h2.hd
        simp only [Int.cast_ofNat_Int] at h3
        have ha : binD .add (.str w) (.str [c]) = some (.str (w ++ [c])) := y_addS (by simp; show _ ≤ 16777216; omega)
        clear ih
        walk_at "ev"
    obtain ⟨c, st1, hc1, h2, h3⟩ := step
    obtain ⟨w', s6', st', g1, g2, g3, g4⟩ := ih (i + 1) q (w ++ [c]) (some (false, .int (i : Int))) st1 h2 (fun x hx => by
      rcases List.mem_append.mp hx with hx | hx
      · exact hc x hx
      · rw [List.mem_singleton] at hx; subst hx; exact hc1) (by simp; omega)
    refine ⟨w', s6', st', g1, by rw [g2]; simp; omega, g3, ?_⟩
    rw [List.range'_succ, List.map_cons, forL, h3]
    exact g4
theorem words_step (hw : 1000 ≤ wf) {n q i : Nat} {mn : Int} {few : Bool} {ws : List (List Nat)} {s2 s5 s6 : Slot} {st : PSt} (hp : Pk (q + 10) st) (hl : ws.length < 400) :
    ∃ w s5' s6' st', IsW w ∧ w ∉ ws ∧ Pk q st' ∧ forB (call wf P G (n + 1)) wf (.nm 2) wordsLp (.int (i : Int)) [some (false, .stt), some (false, .int mn), s2, some (false, .bl few), some (true, .lst (strL ws)), s5, s6] st = some (.nx, [some (false, .stt), some (false, .int mn), some (false, .int (i : Int)), some (false, .bl few), some (true, .lst (strL (ws ++ [w]))), s5', s6'], st') := by
  have first : ∃ c st1, (97 ≤ c ∧ c ≤ 122) ∧ Pk (q + 9) st1 ∧ evE (call wf P G (n + 1)) (.ite (.var 3) (.idx (.str [97, 98]) (.lend "_law_pick" [(.var 0), (.int 2)])) (.idx (.str abc) (.lend "_law_pick" [(.var 0), (.int 26)]))) [some (false, .stt), some (false, .int mn), some (false, .int (i : Int)), some (false, .bl few), some (true, .lst (strL ws)), s5, s6] st = some (.str [c], [some (false, .stt), some (false, .int mn), some (false, .int (i : Int)), some (false, .bl few), some (true, .lst (strL ws)), s5, s6], st1) := by
    cases few with
    | true =>
      obtain ⟨r, st1, h1, h2, h3⟩ := sp_pick L hw (n := n) (m := q + 9) (many := 2) (by decide) (by decide) hp
      obtain ⟨c, hc1, hc2⟩ := letter_at (l := [97, 98]) (by decide) (by decide) h1
      refine ⟨c, st1, hc1, h2, ?_⟩
      have hh := h2.hd
      simp only [Int.cast_ofNat_Int] at h3
      walk_at "ev"
    | false =>
      obtain ⟨r, st1, h1, h2, h3⟩ := sp_pick L hw (n := n) (m := q + 9) (many := 26) (by decide) (by decide) hp
      obtain ⟨c, hc1, hc2⟩ := letter_at (l := abc) (by decide) (by decide) h1
      refine ⟨c, st1, hc1, h2, ?_⟩
      have hh := h2.hd
      simp only [Int.cast_ofNat_Int] at h3
      walk_at "ev"
  obtain ⟨c, st1, hc1, h1, e1⟩ := first
  have second : ∃ r st2, r < 8 ∧ Pk (q + 8) st2 ∧ evE (call wf P G (n + 1)) (.lend "_law_pick" [(.var 0), (.ite (.var 3) (.int 3) (.int 8))]) [some (false, .stt), some (false, .int mn), some (false, .int (i : Int)), some (false, .bl few), some (true, .lst (strL ws)), some (false, .str [c]), s6] st1 = some (.int (r : Nat), [some (false, .stt), some (false, .int mn), some (false, .int (i : Int)), some (false, .bl few), some (true, .lst (strL ws)), some (false, .str [c]), s6], st2) := by
    cases few with
    | true =>
      obtain ⟨r, st2, h1, h2, h3⟩ := sp_pick L hw (n := n) (m := q + 8) (many := 3) (by decide) (by decide) h1
      refine ⟨r, st2, by omega, h2, ?_⟩
      have hh := h2.hd
      simp only [Int.cast_ofNat_Int] at h3
      walk_at "ev"
    | false =>
      obtain ⟨r, st2, h1, h2, h3⟩ := sp_pick L hw (n := n) (m := q + 8) (many := 8) (by decide) (by decide) h1
      refine ⟨r, st2, h1, h2, ?_⟩
      have hh := h2.hd
      simp only [Int.cast_ofNat_Int] at h3
      walk_at "ev"
  obtain ⟨r, st2, hr, h2, e2⟩ := second
  obtain ⟨w, s6', st3, g1, g2, g3, g4⟩ := word_in L hw (n := n) (mn := mn) (k := i) (few := few) (ws := .lst (strL ws)) (s5 := none) r 0 q [c] s6 st2 (h2.less (by omega)) (by simpa using hc1) (by simp; omega)
  rw [← List.range_eq_range'] at g4
  have hW : IsW w := ⟨by intro z; rw [z] at g2; simp only [List.length_nil, List.length_cons] at g2; omega, by rw [g2]; simp; omega, g3⟩
  obtain ⟨w', k1, k2, k3⟩ := sp_free L (wf := wf) (n := n) (st := st3) (taken := ws) (w := w) (by omega) g1.hd hW
  refine ⟨w', some (false, .str w), s6', st3, k1, k2, g1, ?_⟩
  have hh := g1.hd
  have hr2 := s_rng (k := r) (by omega)
  unfold rngL at hr2
  have hap : strL (ws ++ [w']) = strL ws ++ [.str w'] := by simp [strL]
  have hln : okLen ((strL ws).length + 1) = true := okLen_of (by simp [strL]; show _ ≤ 16777216; omega)
  simp -implicitDefEqProofs only [forB_app, z_bnm, oK_some, List.set_cons_zero, List.set_cons_succ, z_scons, z_set, e1, bK_some, sK_nx, z_for, z_cons, z_nil, e2]
  walk_at "ev"
theorem sp_words (hw : 1000 ≤ wf) {n q many : Nat} {st : PSt} (hm : many ≤ 300) (hp : Pk (q + 10 * many + 1) st) :
    ∃ ws st', ws.length = many ∧ (∀ w ∈ ws, IsW w) ∧ ws.Nodup ∧ Pk q st' ∧ call wf P G (n + 2) "_law_words" [.stt, .int (many : Int)] st = some (.lst (strL ws), st') := by
  rw [z_fn (g_x__law_words L) rfl]
  obtain ⟨r, st1, h1, h2, h3⟩ := sp_pick L hw (n := n) (m := q + 10 * many) (many := 2) (by decide) (by decide) hp
  have key : ∀ (m i : Nat) (ws : List (List Nat)) (s2 s5 s6 : Slot) (st : PSt), Pk (q + 10 * m) st → ws.length + m ≤ 300 → (∀ w ∈ ws, IsW w) → ws.Nodup → ∃ ws' s2' s5' s6' st', ws'.length = ws.length + m ∧ (∀ w ∈ ws', IsW w) ∧ ws'.Nodup ∧ Pk q st' ∧
      forL (forB (call wf P G (n + 1)) wf (.nm 2) wordsLp) ((List.range' i m).map fun (i : Nat) => D.int i) [some (false, .stt), some (false, .int many), s2, some (false, .bl (((r : Int) == 0))), some (true, .lst (strL ws)), s5, s6] st = some (.nx, [some (false, .stt), some (false, .int many), s2', some (false, .bl (((r : Int) == 0))), some (true, .lst (strL ws')), s5', s6'], st') := by
    intro m
    induction m with
    | zero => intro i ws s2 s5 s6 st hp _ hW hn; exact ⟨ws, s2, s5, s6, st, rfl, hW, hn, hp, by simp [forL]⟩
    | succ m ih =>
      intro i ws s2 s5 s6 st hp hl hW hn
      obtain ⟨w, s5', s6', st1, k1, k2, k3, k4⟩ := words_step L hw (n := n) (q := q + 10 * m) (i := i) (mn := many) (few := ((r : Int) == 0)) (ws := ws) (s2 := s2) (s5 := s5) (s6 := s6) (st := st) (hp.less (by omega)) (by omega)
      obtain ⟨ws', t2, t5, t6, st', g1, g2, g3, g4, g5⟩ := ih (i + 1) (ws ++ [w]) (some (false, .int (i : Int))) s5' s6' st1 k3 (by simp; omega) (fun x hx => by
        rcases List.mem_append.mp hx with hx | hx
        · exact hW x hx
        · rw [List.mem_singleton] at hx; subst hx; exact k1) (by
        rw [List.nodup_append]
        refine ⟨hn, by simp, fun a ha b hb => ?_⟩
        rw [List.mem_singleton] at hb; subst hb
        rintro rfl; exact k2 ha)
      refine ⟨ws', t2, t5, t6, st', by rw [g1]; simp; omega, g2, g3, g4, ?_⟩
      rw [List.range'_succ, List.map_cons, forL, k4]
      exact g5
  obtain ⟨ws', s2', s5', s6', st', g1, g2, g3, g4, g5⟩ := key many 0 [] none none none st1 h2 (by simp; omega) (by simp) (by simp)
  clear key
  refine ⟨ws', st', by simpa using g1, g2, g3, g4, ?_⟩
  rw [← List.range_eq_range'] at g5
  have hh := h2.hd
  simp only [Int.cast_ofNat_Int] at h3
  have hr2 := s_rng (k := many) (by omega)
  unfold rngL at hr2
  rw [show strL [] = [] from rfl] at g5
  walk_at "ev"
end
end Ev
/-! SpLaw2 -/
/-! SpLaw2: drawn bits, one of some things, things in another order. -/
namespace Ev
open Mx
local macro_rules | `(tactic| walk_at "ev") => `(tactic| simp -implicitDefEqProofs only [↓bK_v, ↓cK_v, ↓oK_v, ↓tK_v, ↓iK_v, ↓sK_v, ↓vK_v, ↓insK_v, ↓hK_v, bK_w, cK_w, oK_w, tK_wt, tK_wf, iK_w, sK_wn, sK_wr, vK_w, insK_w, hK_w, vec_one, z_var, z_mv, z_int, z_bl, z_non, z_str, z_glb, z_bin, z_neg, z_inv, z_not, z_cmp, z_isN, z_ntN, z_chain, z_and, z_or, z_ite, z_tup, z_lst, z_call, z_lend, z_meth, z_fld, z_bi, z_bf, z_idx, z_sl, z_sget, z_snz, z_spop, z_appPop, z_lzip, z_hin, z_hlen, z_hkeys, z_hne, z_lc, z_nil, z_cons, z_no, z_so, z_no', z_so', lcB_app, forB_app, whC_app, whB_app, z_bnm, z_set, z_own, z_tset, z_par, z_app, z_ext, z_put, z_site, z_whl, z_for, z_ret, z_ex, z_pass, z_snil, z_scons, z_sput, z_hput, z_hupd, bK_some, cK_some, oK_some, tK_true, tK_false, iK_true, sK_nx, sK_rt, fK_rt, fK_nx, vK_some, insK_some, hK_some, negD, invD, notD, fldD, intO, seqO, lstO, intI, hndI, isNonD, setAll, bindD, ownL, ownD, wipeE, backE, isStt, stGet, stPut, Option.getD_some, Option.bind_some, Option.map_some, List.length_cons, List.length_nil, Int.toNat_natCast, Nat.reduceAdd, Nat.reduceSub, Nat.reduceEqDiff, List.map_cons, List.map_nil, List.replicate, List.cons_append, List.nil_append, List.getElem?_cons_zero, List.getElem?_cons_succ, List.set_cons_zero, List.set_cons_succ, ite_true, ite_false, hget, keyD, Bool.not_true, Bool.not_false, Bool.false_eq_true, if_false, if_true, if_pos, flatD, y_add, y_addS, y_addL, y_sub, y_mulR, y_mulL, y_mulS, y_mod, y_div, y_pow, y_band, y_bor, y_eq, y_ne, y_lt, y_le, y_gt, y_ge, y_ltS, y_inn, y_nin, e_ii, e_ss, e_bb, e_nn, e_si, e_is, i_ss, i_s1, i_sL, i_sT, q_lenL, q_lenT, q_lenS, q_lenD, q_abs, q_max, q_min, q_int, q_int2, q_all, q_any, q_join, c_listL, c_listT, d_lst, d_tup, d_str, d_lst0, d_lst1, d_lst2, d_tup0, d_tup1, d_tup2, d_str0, s_seqL, s_seqT, s_seqS, s_rng, s_rng1, s_rng2, s_rng3, s_rng4, s_rng5, s_rng6, s_rng7, s_rng8, s_rng600, s_enm, s_zpL, s_zpT, z_isi', t_1, t_2, t_3, t_4, t_5, t_6, t_7, t_8, t_9, t_10, t_11, t_12, t_13, t_14, t_15, t_16, t_17, t_18, t_19, t_20, t_21, t_22, t_23, t_24, t_25, t_26, t_27, t_28, t_29, t_30, t_31, t_32, t_33, t_34, t_35, t_36, t_37, t_38, t_39, t_40, t_41, t_42, t_43, t_44, t_45, t_46, t_47, t_48, t_49, t_50, t_51, t_52, t_53, t_54, t_55, t_56, t_57, t_58, t_59, t_60, t_61, t_62, t_63, t_64, t_65, t_66, t_67, t_68, t_69, t_70, t_71, t_72, t_73, t_74, t_75, t_76, t_77, t_78, t_79, t_80, t_81, Bool.and_true, Bool.true_and, Bool.false_and, Bool.or_false, Bool.false_or, Bool.true_or, decide_true, decide_false, List.isEmpty_nil, Option.isSome_some, hset, and_self, and_true, true_and, or_true, true_or, Int.cast_ofNat_Int, Int.reduceDiv, Int.reduceMod, Int.reduceLT, Int.reduceLE, Int.reduceAdd, Int.reduceSub, Int.reduceMul, Int.reduceNeg, Int.reduceBEq, Int.reduceEq, Int.reduceToNat, Nat.reduceLT, Nat.reduceLeDiff, Nat.reduceBEq, reduceIte, beq_self_eq_true, *])
theorem erase_perm {α : Type} : ∀ (l : List α) (i : Nat) (h : i < l.length), (l[i] :: l.eraseIdx i).Perm l
  | a :: l, 0, h => by simp
  | a :: l, i + 1, h => by
    simp only [List.getElem_cons_succ, List.eraseIdx_cons_succ]
    exact (List.Perm.swap a _ _).trans ((erase_perm l i (by simpa using h)).cons a)
section
variable {wf : Nat} {P : Pr} {G : String → Option Fn} (L : Lib P G) (hw : 1000 ≤ wf)
include L hw
theorem sp_bits {n q many : Nat} {st : PSt} (hm : many ≤ 100000) (hp : Pk (q + many) st) :
    ∃ l st', l.length = many ∧ isBits l = true ∧ Pk q st' ∧ call wf P G (n + 2) "_law_bits" [.stt, .int (many : Int)] st = some (.str l, st') := by
  rw [z_fn (g_x__law_bits L) rfl]
  have step : ∀ (i q : Nat) (st : PSt), Pk (q + 1) st → ∃ c st', (c = 48 ∨ c = 49) ∧ Pk q st' ∧ lcB (call wf P G (n + 1)) [2] (.nm 2) none (.idx (.lst [(.str [48]), (.str [49])]) (.lend "_law_pick" [(.var 0), (.int 2)])) (.int (i : Int)) [some (false, .stt), some (false, .int (many : Int)), none] st = some (some (.str [c]), [some (false, .stt), some (false, .int (many : Int)), none], st') := by
    intro i q st hp
    obtain ⟨r, st1, h1, h2, h3⟩ := sp_pick L hw (n := n) (m := q) (many := 2) (by decide) (by decide) hp
    have hh := h2.hd
    simp only [Int.cast_ofNat_Int] at h3
    match r, h1 with
    | 0, _ =>
      refine ⟨48, st1, .inl rfl, h2, ?_⟩
      have : ((0 : Nat) : Int) = 0 := rfl
      rw [this] at h3
      walk_at "ev"
    | 1, _ =>
      refine ⟨49, st1, .inr rfl, h2, ?_⟩
      have : ((1 : Nat) : Int) = 1 := rfl
      rw [this] at h3
      walk_at "ev"
  have loop : ∀ (m i q : Nat) (st : PSt), Pk (q + m) st → ∃ l st', l.length = m ∧ isBits l = true ∧ Pk q st' ∧ lcLoop (lcB (call wf P G (n + 1)) [2] (.nm 2) none (.idx (.lst [(.str [48]), (.str [49])]) (.lend "_law_pick" [(.var 0), (.int 2)]))) ((List.range' i m).map fun (i : Nat) => D.int i) [some (false, .stt), some (false, .int (many : Int)), none] st = some (strL (l.map fun c => [c]), [some (false, .stt), some (false, .int (many : Int)), none], st') := by
    intro m
    induction m with
    | zero => intro i q st hp; exact ⟨[], st, rfl, rfl, hp, by simp [lcLoop, strL]⟩
    | succ m ih =>
      intro i q st hp
      obtain ⟨c, st1, h1, h2, h3⟩ := step i (q + m) st hp
      obtain ⟨l, st', g1, g2, g3, g4⟩ := ih (i + 1) q st1 h2
      refine ⟨c :: l, st', by simp [g1], ?_, g3, ?_⟩
      · show ((c == 48 || c == 49) && l.all _) = true
        rw [show l.all (fun c => c == 48 || c == 49) = true from g2]
        rcases h1 with rfl | rfl <;> rfl
      · rw [List.range'_succ, List.map_cons, lcLoop, h3]
        simp only [g4]
        rfl
  obtain ⟨l, st', g1, g2, g3, g4⟩ := loop many 0 q st hp
  clear loop step
  refine ⟨l, st', g1, g2, g3, ?_⟩
  rw [← List.range_eq_range'] at g4
  have hr2 := s_rng (k := many) (by omega)
  unfold rngL at hr2
  have hln : okLen (strL (l.map fun c => [c])).length = true := okLen_of (by simp [strL, g1]; show _ ≤ 16777216; omega)
  have hj : biD .join [.str [], .lst (strL (l.map fun c => [c]))] = some (.str l) := by
    have hfl : (l.map fun c => [c]).flatten = l := by
      clear g1 g2 g4 hln
      induction l with
      | nil => rfl
      | cons a r ih => simp [ih]
    rw [q_join, hfl]
    have : ((l.map fun c => [c]).map List.length).sum = l.length := by
      clear g1 g2 g4 hln hfl
      induction l with
      | nil => rfl
      | cons a r ih => simp only [List.map_cons, List.sum_cons, ih, List.length_cons, List.length_nil]; omega
    rw [this, g1]; show _ ≤ 16777216; omega
  walk_at "ev"
theorem sp_one {n q : Nat} {xs : List D} {st : PSt} (h0 : 0 < xs.length) (h1 : xs.length < 1000000000) (hp : Pk (q + 1) st) :
    ∃ x st', x ∈ xs ∧ Pk q st' ∧ call wf P G (n + 2) "_law_one" [.stt, .lst xs] st = some (x, st') := by
  rw [z_fn (g_x__law_one L) rfl]
  obtain ⟨r, st1, h1, h2, h3⟩ := sp_pick L hw (n := n) (m := q) (many := xs.length) h0 h1 hp
  refine ⟨xs[r], st1, List.getElem_mem h1, h2, ?_⟩
  have hi : idxD (.lst xs) (.int (r : Int)) = some xs[r] := d_lst (List.getElem?_eq_getElem h1)
  have hh := h2.hd
  walk_at "ev"
theorem sp_mixed {n q : Nat} {xs : List D} {st : PSt} (h1 : xs.length < 100000) (hp : Pk (q + xs.length) st) :
    ∃ ys st', ys.Perm xs ∧ Pk q st' ∧ call wf P G (n + 2) "_law_mixed" [.stt, .lst xs] st = some (.lst ys, st') := by
  rw [z_fn (g_x__law_mixed L) rfl]
  have loop : ∀ (m i q : Nat) (left found : List D) (s2 : Slot) (st : PSt), left.length = m → m < 100000 → found.length + m < 100000 → Pk (q + m) st → ∃ ys s2' st', ys.Perm (found ++ left) ∧ Pk q st' ∧
      forL (forB (call wf P G (n + 1)) wf (.nm 2) [.appPop 4 3 (.lend "_law_pick" [(.var 0), (.bi .len [(.var 3)])])]) ((List.range' i m).map fun (i : Nat) => D.int i) [some (false, .stt), some (false, .lst xs), s2, some (true, .lst left), some (true, .lst found)] st = some (.nx, [some (false, .stt), some (false, .lst xs), s2', some (true, .lst []), some (true, .lst ys)], st') := by
    intro m
    induction m with
    | zero =>
      intro i q left found s2 st hl _ _ hp
      have : left = [] := List.eq_nil_of_length_eq_zero hl
      subst this
      exact ⟨found, s2, st, by simp, hp, by simp [forL]⟩
    | succ m ih =>
      intro i q left found s2 st hl hm hf hp
      obtain ⟨r, st1, k1, k2, k3⟩ := sp_pick L hw (n := n) (m := q + m) (many := left.length) (by omega) (by omega) hp
      have hlen : (left.eraseIdx r).length = m := by rw [List.length_eraseIdx_of_lt k1]; omega
      obtain ⟨ys, s2', st', g1, g2, g3⟩ := ih (i + 1) q (left.eraseIdx r) (found ++ [left[r]]) (some (false, .int (i : Int))) st1 hlen (by omega) (by simp; omega) k2
      refine ⟨ys, s2', st', ?_, g2, ?_⟩
      · refine g1.trans ?_
        rw [List.append_assoc]
        refine List.Perm.append_left found ?_
        exact erase_perm left r k1
      · rw [List.range'_succ, List.map_cons, forL]
        have hh := k2.hd
        rw [hl] at k3
        have hpo : popOk 4 3 found.length (r : Int) = true := popOk_of (by decide) (by omega) (by omega)
        have hg : left[r]? = some left[r] := List.getElem?_eq_getElem k1
        clear ih
        walk_at "ev"
  obtain ⟨ys, s2', st', g1, g2, g3⟩ := loop xs.length 0 q xs [] none st rfl h1 (by simpa using h1) hp
  clear loop
  refine ⟨ys, st', by simpa using g1, g2, ?_⟩
  rw [← List.range_eq_range'] at g3
  have hr2 := s_rng (k := xs.length) (by omega)
  unfold rngL at hr2
  walk_at "ev"
end
end Ev
/-! SpBas -/
/-! SpBas: small defs of the package. -/
namespace Ev
open Mx
local macro_rules | `(tactic| walk_at "ev") => `(tactic| simp -implicitDefEqProofs only [↓bK_v, ↓cK_v, ↓oK_v, ↓tK_v, ↓iK_v, ↓sK_v, ↓vK_v, ↓insK_v, ↓hK_v, bK_w, cK_w, oK_w, tK_wt, tK_wf, iK_w, sK_wn, sK_wr, vK_w, insK_w, hK_w, vec_one, z_var, z_mv, z_int, z_bl, z_non, z_str, z_glb, z_bin, z_neg, z_inv, z_not, z_cmp, z_isN, z_ntN, z_chain, z_and, z_or, z_ite, z_tup, z_lst, z_call, z_lend, z_meth, z_fld, z_bi, z_bf, z_idx, z_sl, z_sget, z_snz, z_spop, z_appPop, z_lzip, z_hin, z_hlen, z_hkeys, z_hne, z_lc, z_nil, z_cons, z_no, z_so, z_no', z_so', lcB_app, forB_app, whC_app, whB_app, z_bnm, z_set, z_own, z_tset, z_par, z_app, z_ext, z_put, z_site, z_whl, z_for, z_ret, z_ex, z_pass, z_snil, z_scons, z_sput, z_hput, z_hupd, bK_some, cK_some, oK_some, tK_true, tK_false, iK_true, sK_nx, sK_rt, fK_rt, fK_nx, vK_some, insK_some, hK_some, negD, invD, notD, fldD, intO, seqO, lstO, intI, hndI, isNonD, setAll, bindD, ownL, ownD, wipeE, backE, isStt, stGet, stPut, Option.getD_some, Option.bind_some, Option.map_some, List.length_cons, List.length_nil, Int.toNat_natCast, Nat.reduceAdd, Nat.reduceSub, Nat.reduceEqDiff, List.map_cons, List.map_nil, List.replicate, List.cons_append, List.nil_append, List.getElem?_cons_zero, List.getElem?_cons_succ, List.set_cons_zero, List.set_cons_succ, ite_true, ite_false, hget, keyD, Bool.not_true, Bool.not_false, Bool.false_eq_true, if_false, if_true, if_pos, flatD, y_add, y_addS, y_addL, y_sub, y_mulR, y_mulL, y_mulS, y_mod, y_div, y_pow, y_band, y_bor, y_eq, y_ne, y_lt, y_le, y_gt, y_ge, y_ltS, y_inn, y_nin, e_ii, e_ss, e_bb, e_nn, e_si, e_is, i_ss, i_s1, i_sL, i_sT, q_lenL, q_lenT, q_lenS, q_lenD, q_abs, q_max, q_min, q_int, q_int2, q_all, q_any, q_join, c_listL, c_listT, d_lst, d_tup, d_str, d_lst0, d_lst1, d_lst2, d_tup0, d_tup1, d_tup2, d_str0, s_seqL, s_seqT, s_seqS, s_rng, s_rng1, s_rng2, s_rng3, s_rng4, s_rng5, s_rng6, s_rng7, s_rng8, s_rng600, s_enm, s_zpL, s_zpT, z_isi', t_1, t_2, t_3, t_4, t_5, t_6, t_7, t_8, t_9, t_10, t_11, t_12, t_13, t_14, t_15, t_16, t_17, t_18, t_19, t_20, t_21, t_22, t_23, t_24, t_25, t_26, t_27, t_28, t_29, t_30, t_31, t_32, t_33, t_34, t_35, t_36, t_37, t_38, t_39, t_40, t_41, t_42, t_43, t_44, t_45, t_46, t_47, t_48, t_49, t_50, t_51, t_52, t_53, t_54, t_55, t_56, t_57, t_58, t_59, t_60, t_61, t_62, t_63, t_64, t_65, t_66, t_67, t_68, t_69, t_70, t_71, t_72, t_73, t_74, t_75, t_76, t_77, t_78, t_79, t_80, t_81, Bool.and_true, Bool.true_and, Bool.false_and, Bool.or_false, Bool.false_or, Bool.true_or, decide_true, decide_false, List.isEmpty_nil, Option.isSome_some, hset, and_self, and_true, true_and, or_true, true_or, Int.cast_ofNat_Int, Int.reduceDiv, Int.reduceMod, Int.reduceLT, Int.reduceLE, Int.reduceAdd, Int.reduceSub, Int.reduceMul, Int.reduceNeg, Int.reduceBEq, Int.reduceEq, Int.reduceToNat, Nat.reduceLT, Nat.reduceLeDiff, Nat.reduceBEq, reduceIte, beq_self_eq_true, *])
/-- a table of j + 1 inputs -/
structure TbJ (j : Nat) (t : List Nat) : Prop where
  le : j < 16
  ln : t.length = 2 ^ (j + 1)
  bt : isBits t = true
theorem TbJ.lim {j : Nat} {t : List Nat} (h : TbJ j t) : t.length ≤ 65536 := by
  rw [h.ln]
  have h1 : 2 ^ (j + 1) ≤ 2 ^ 16 := Nat.pow_le_pow_right (by decide) (by have := h.le; omega)
  have e : 2 ^ 16 = 65536 := rfl
  omega
theorem TbJ.lenS {j : Nat} {t : List Nat} (h : TbJ j t) : biD .len [.str t] = some (.int ((2 ^ (j + 1) : Nat) : Int)) := by
  rw [q_lenS (by have := h.lim; show _ ≤ 16777216; omega), h.ln]
theorem isIn01 {c : Nat} (h : c = 48 ∨ c = 49) : inD (.str [c]) (.str [48, 49]) = some true := by rcases h with rfl | rfl <;> rfl
section
variable {wf : Nat} {P : Pr} {G : String → Option Fn} (L : Lib P G)
include L
theorem sp_is_integer {n : Nat} {st : PSt} {k : Int} : call wf P G (n + 1) "is_integer" [.int k] st = some (.bl true, st) := by
  rw [z_fn (g_x_is_integer L) rfl]; walk_at "ev"
theorem sp_is_list {n : Nat} {st : PSt} {xs : List D} : call wf P G (n + 1) "is_list" [.lst xs] st = some (.bl true, st) := by
  rw [z_fn (g_x_is_list L) rfl]; walk_at "ev"
theorem sp_is_listT {n : Nat} {st : PSt} {xs : List D} : call wf P G (n + 1) "is_list" [.tup xs] st = some (.bl true, st) := by
  rw [z_fn (g_x_is_list L) rfl]; walk_at "ev"
theorem sp_is_row {n : Nat} {st : PSt} {xs : List D} {k : Int} (hs : st.hd = []) : call wf P G (n + 2) "is_row" [.lst xs, .int k] st = some (.bl ((xs.length : Int) == k), st) := by
  have h1 := sp_is_list L (wf := wf) (n := n) (st := st) (xs := xs)
  rw [z_fn (g_x_is_row L) rfl]; walk_at "ev"
theorem sp_is_rowT {n : Nat} {st : PSt} {xs : List D} {k : Int} (hs : st.hd = []) : call wf P G (n + 2) "is_row" [.tup xs, .int k] st = some (.bl ((xs.length : Int) == k), st) := by
  have h1 := sp_is_listT L (wf := wf) (n := n) (st := st) (xs := xs)
  rw [z_fn (g_x_is_row L) rfl]; walk_at "ev"
theorem sp_is_text {n : Nat} {st : PSt} {l : List Nat} : call wf P G (n + 1) "is_text" [.str l] st = some (.bl true, st) := by
  rw [z_fn (g_x_is_text L) rfl]; walk_at "ev"
theorem sp_is_letters {n : Nat} {st : PSt} {l : List Nat} (hs : st.hd = []) (h : IsW l) : call wf P G (n + 2) "is_letters" [.str l] st = some (.bl true, st) := by
  have h1 := sp_is_text L (wf := wf) (n := n) (st := st) (l := l)
  have hl := h.le
  have hlen : biD .len [.str l] = some (.int (l.length : Int)) := q_lenS (by show _ ≤ 16777216; omega)
  have hp : decide ((0 : Int) < (l.length : Int)) = true := decide_eq_true (by
    cases l with
    | nil => exact absurd rfl h.ne
    | cons a r => simp)
  have hlc : lcLoop (lcB (call wf P G (n + 1)) [1] (.nm 1) none (.cmp .inn (.var 1) (.glb (.str abc)))) (l.map fun c => D.str [c]) [some (false, .str l), none] st = some (blsL (l.map fun _ => true), [some (false, .str l), none], st) := by
    have e : blsL (l.map fun _ => true) = (l.map fun c => D.str [c]).map fun _ => D.bl true := by
      unfold blsL; rw [List.map_map, List.map_map]; rfl
    rw [e]
    refine lcLoop_map fun d hd => ?_
    obtain ⟨c, hc, rfl⟩ := List.mem_map.mp hd
    have hin : inD (.str [c]) (.str abc) = some true := by
      rw [i_ss, i_s1]
      have := h.ch c hc
      rw [show abc = List.range' 97 26 by decide]
      rw [decide_eq_true (by rw [List.mem_range']; exact ⟨c - 97, by omega, by omega⟩)]
    clear hd
    walk_at "ev"
  have hln : okLen (blsL (l.map fun _ => true)).length = true := okLen_of (by simp [blsL]; show _ ≤ 16777216; omega)
  have hall : (l.map fun _ => true).all id = true := by simp
  rw [z_fn (g_x_is_letters L) rfl]
  walk_at "ev"
theorem sp_is_word {n : Nat} {st : PSt} {l : List Nat} (hs : st.hd = []) (h : IsW l) : call wf P G (n + 3) "is_word" [.str l] st = some (.bl true, st) := by
  have h1 := sp_is_letters L (wf := wf) (n := n) (st := st) hs h
  have hl := h.le
  have hlen : biD .len [.str l] = some (.int (l.length : Int)) := q_lenS (by show _ ≤ 16777216; omega)
  have hp : decide ((l.length : Int) ≤ 8) = true := decide_eq_true (by omega)
  rw [z_fn (g_x_is_word L) rfl]
  walk_at "ev"
theorem sp_are_signs {n : Nat} {st : PSt} {l : List Nat} (hs : st.hd = []) (hl : l.length ≤ 100000) (h : isBits l = true) : call wf P G (n + 2) "are_signs" [.str l, .int (l.length : Int)] st = some (.bl true, st) := by
  have h1 := sp_is_text L (wf := wf) (n := n) (st := st) (l := l)
  have hlen : biD .len [.str l] = some (.int (l.length : Int)) := q_lenS (by show _ ≤ 16777216; omega)
  have hlc : lcLoop (lcB (call wf P G (n + 1)) [2] (.nm 2) none (.cmp .inn (.var 2) (.str [48, 49]))) (l.map fun c => D.str [c]) [some (false, .str l), some (false, .int (l.length : Int)), none] st = some (blsL (l.map fun _ => true), [some (false, .str l), some (false, .int (l.length : Int)), none], st) := by
    have e : blsL (l.map fun _ => true) = (l.map fun c => D.str [c]).map fun _ => D.bl true := by
      unfold blsL; rw [List.map_map, List.map_map]; rfl
    rw [e]
    refine lcLoop_map fun d hd => ?_
    obtain ⟨c, hc, rfl⟩ := List.mem_map.mp hd
    have hin : inD (.str [c]) (.str [48, 49]) = some true := isIn01 (isBits_of h c hc)
    clear hd hlen
    walk_at "ev"
  have hln : okLen (blsL (l.map fun _ => true)).length = true := okLen_of (by simp [blsL]; show _ ≤ 16777216; omega)
  have hall : (l.map fun _ => true).all id = true := by simp
  rw [z_fn (g_x_are_signs L) rfl]
  walk_at "ev"
theorem sp_doubled {n k : Nat} {st : PSt} (hk : k < 1000) : call wf P G (n + 1) "doubled" [.int (k : Int)] st = some (.int ((2 ^ k : Nat) : Int), st) := dbl_of (g_x_doubled L) hk
theorem sp_signs {n k : Nat} {x : Nat} {st : PSt} (hk : k < 1000) : call wf P G (n + 1) "signs_of" [.int (x : Int), .int (k : Int)] st = some (.str (sig k x), st) := sgn_of (g_x_signs_of L) hk
theorem sp_count (hw : 1000 ≤ wf) {n j : Nat} {st : PSt} {t : List Nat} (hs : st.hd = []) (h : TbJ j t) : call wf P G (n + 2) "count_inputs" [.str t] st = some (.int ((j + 1 : Nat) : Int), st) := by
  have hlen := h.lenS
  have loop : ∀ (m i k : Nat), i + m = j + 1 → m < k → whlL (whC (call wf P G (n + 1)) (.cmp .lt (.lend "doubled" [(.var 1)]) (.bi .len [(.var 0)]))) (whB (call wf P G (n + 1)) wf [.set 1 (.bin .add (.var 1) (.int 1))]) k [some (false, .str t), some (false, .int (i : Int))] st = some (.nx, [some (false, .str t), some (false, .int ((j + 1 : Nat) : Int))], st) := by
    intro m
    induction m with
    | zero =>
      intro i k hi hk
      obtain ⟨k, rfl⟩ : ∃ k', k = k' + 1 := ⟨k - 1, by omega⟩
      have hij : i = j + 1 := by omega
      subst hij
      have h2 := sp_doubled L (wf := wf) (n := n) (k := j + 1) (st := st) (by have := h.le; omega)
      have hd : decide (((2 ^ (j + 1) : Nat) : Int) < ((2 ^ (j + 1) : Nat) : Int)) = false := decide_eq_false (by omega)
      have e : whC (call wf P G (n + 1)) (.cmp .lt (.lend "doubled" [(.var 1)]) (.bi .len [(.var 0)])) [some (false, .str t), some (false, .int ((j + 1 : Nat) : Int))] st = some (.bl false, [some (false, .str t), some (false, .int ((j + 1 : Nat) : Int))], st) := by
        walk_at "ev"
      rw [whlL, e]
    | succ m ih =>
      intro i k hi hk
      obtain ⟨k, rfl⟩ : ∃ k', k = k' + 1 := ⟨k - 1, by omega⟩
      have h2 := sp_doubled L (wf := wf) (n := n) (k := i) (st := st) (by have := h.le; omega)
      have hd : decide (((2 ^ i : Nat) : Int) < ((2 ^ (j + 1) : Nat) : Int)) = true := decide_eq_true (Int.ofNat_lt.mpr (Nat.pow_lt_pow_right (by decide) (by omega)))
      have hi1 : (i : Int) + 1 = ((i + 1 : Nat) : Int) := rfl
      have e : whC (call wf P G (n + 1)) (.cmp .lt (.lend "doubled" [(.var 1)]) (.bi .len [(.var 0)])) [some (false, .str t), some (false, .int (i : Int))] st = some (.bl true, [some (false, .str t), some (false, .int (i : Int))], st) := by
        clear ih hi1
        walk_at "ev"
      have e2 : whB (call wf P G (n + 1)) wf [.set 1 (.bin .add (.var 1) (.int 1))] [some (false, .str t), some (false, .int (i : Int))] st = some (.nx, [some (false, .str t), some (false, .int ((i + 1 : Nat) : Int))], st) := by
        clear ih e
        walk_at "ev"
      rw [whlL, e]
      simp only [e2]
      exact ih (i + 1) k (by omega) (by omega)
  have e := loop j 1 wf (by omega) (by have := h.le; omega)
  rw [show ((1 : Nat) : Int) = 1 from rfl] at e
  have h2 := sp_doubled L (wf := wf) (n := n) (k := j + 1) (st := st) (by have := h.le; omega)
  clear loop
  rw [z_fn (g_x_count_inputs L) rfl]
  walk_at "ev"
theorem sp_is_table (hw : 1000 ≤ wf) {n j : Nat} {st : PSt} {t : List Nat} (hs : st.hd = []) (h : TbJ j t) : call wf P G (n + 3) "is_table" [.str t] st = some (.bl true, st) := by
  have h1 := sp_is_text L (wf := wf) (n := n + 1) (st := st) (l := t)
  have h2 := sp_are_signs L (wf := wf) (n := n) (st := st) (l := t) hs (by have := h.lim; omega) h.bt
  have h3 := sp_count L hw (n := n) hs h
  have hlen : biD .len [.str t] = some (.int (t.length : Int)) := q_lenS (by have := h.lim; show _ ≤ 16777216; omega)
  rw [z_fn (g_x_is_table L) rfl]
  walk_at "ev"
theorem sp_need_table (hw : 1000 ≤ wf) {n j : Nat} {st : PSt} {t : List Nat} (hs : st.hd = []) (h : TbJ j t) : call wf P G (n + 4) "need_table" [.str t] st = some (.non, st) := by
  have h1 := sp_is_table L hw (n := n) hs h
  rw [z_fn (g_x_need_table L) rfl]
  walk_at "ev"
theorem sp_check_many {n k : Nat} {st : PSt} (hs : st.hd = []) (hk : 0 < k) : call wf P G (n + 2) "check_many" [.int (k : Int)] st = some (.non, st) := by
  have h1 := sp_is_integer L (wf := wf) (n := n) (st := st) (k := (k : Int))
  have hd : decide ((k : Int) < 1) = false := decide_eq_false (by omega)
  rw [z_fn (g_x_check_many L) rfl]
  walk_at "ev"
theorem sp_inputs_of (hw : 1000 ≤ wf) {n j : Nat} {st : PSt} {t : List Nat} (hs : st.hd = []) (h : TbJ j t) : call wf P G (n + 5) "inputs_of" [.str t] st = some (.int ((j + 1 : Nat) : Int), st) := by
  have h1 := sp_need_table L hw (n := n) hs h
  have h2 := sp_count L hw (n := n + 2) hs h
  rw [z_fn (g_x_inputs_of L) rfl]
  walk_at "ev"
end
end Ev
/-! Mx3 -/
/-! Mx3: signs and numbers. -/
namespace Ev
open Mx EvBin
theorem sigA_app : ∀ (k x : Nat) (acc : List Nat), sigA k x acc = sigA k x [] ++ acc
  | 0, _, _ => rfl
  | k + 1, x, acc => by
    rw [sigA, sigA_app k (x / 2) ((48 + x % 2) :: acc), sigA, sigA_app k (x / 2) [48 + x % 2], List.append_assoc]
    rfl
theorem sig_succ (k x : Nat) : sig (k + 1) x = sig k (x / 2) ++ [48 + x % 2] := by
  unfold sig; rw [sigA, sigA_app]
theorem sig_len : ∀ (k x : Nat), (sig k x).length = k
  | 0, _ => rfl
  | k + 1, x => by rw [sig_succ, List.length_append, sig_len k]; rfl
theorem worth_app (l : List Nat) (c : Nat) : worth (l ++ [c]) = worth l * 2 + (c - 48) := by
  unfold worth; rw [List.foldl_append]; rfl
theorem worth_sig : ∀ (k x : Nat), x < 2 ^ k → worth (sig k x) = x
  | 0, x, h => by simp at h; subst h; rfl
  | k + 1, x, h => by
    rw [sig_succ, worth_app, worth_sig k (x / 2) (by rw [Nat.pow_succ] at h; omega)]
    omega
theorem sig_bits : ∀ (k x : Nat), isBits (sig k x) = true
  | 0, _ => rfl
  | k + 1, x => by
    rw [sig_succ]
    unfold isBits
    rw [List.all_append]
    have h1 : (sig k (x / 2)).all (fun c => c == 48 || c == 49) = true := sig_bits k (x / 2)
    rw [h1]
    rcases Nat.mod_two_eq_zero_or_one x with h | h <;> rw [h] <;> rfl
theorem snoc_ind {α : Type} {p : List α → Prop} (h0 : p []) (h1 : ∀ l a, p l → p (l ++ [a])) (l : List α) : p l := by
  rw [← List.reverse_reverse l]
  generalize l.reverse = m
  induction m with
  | nil => exact h0
  | cons a r ih => rw [List.reverse_cons]; exact h1 _ _ ih
theorem sig_worth {l : List Nat} (h : isBits l = true) : sig l.length (worth l) = l := by
  revert h
  refine snoc_ind (p := fun l => isBits l = true → sig l.length (worth l) = l) (fun _ => rfl) (fun l a ih h => ?_) l
  unfold isBits at h
  rw [List.all_append, Bool.and_eq_true] at h
  have ha : a = 48 ∨ a = 49 := by simpa using h.2
  rw [List.length_append, List.length_singleton, sig_succ, worth_app]
  have h1 : (worth l * 2 + (a - 48)) / 2 = worth l := by rcases ha with rfl | rfl <;> omega
  have h2 : 48 + (worth l * 2 + (a - 48)) % 2 = a := by rcases ha with rfl | rfl <;> omega
  rw [h1, h2, ih h.1]
theorem sig_get : ∀ (k x i : Nat), i < k → (sig k x)[i]? = some (48 + x / 2 ^ (k - 1 - i) % 2)
  | 0, _, i, h => absurd h (by omega)
  | k + 1, x, i, h => by
    rw [sig_succ]
    by_cases hi : i < k
    · rw [List.getElem?_append_left (by rw [sig_len]; exact hi), sig_get k (x / 2) i hi, Nat.div_div_eq_div_mul]
      rw [show k + 1 - 1 - i = (k - 1 - i) + 1 by omega, Nat.pow_succ, Nat.mul_comm]
    · have : i = k := by omega
      subst this
      rw [List.getElem?_append_right (by rw [sig_len]; exact Nat.le_refl _), sig_len, Nat.sub_self]
      simp
theorem bits_of_mem {l : List Nat} (h : ∀ c ∈ l, c = 48 ∨ c = 49) : isBits l = true := by
  unfold isBits
  rw [List.all_eq_true]
  intro c hc
  rcases h c hc with rfl | rfl <;> rfl
/-- the table of one input -/
def proj (k p : Nat) : List Nat := (List.range (2 ^ k)).map fun x => 48 + x / 2 ^ (k - 1 - p) % 2
theorem proj_len (k p : Nat) : (proj k p).length = 2 ^ k := by simp [proj]
theorem proj_bits (k p : Nat) : isBits (proj k p) = true := bits_of_mem fun c hc => by
  obtain ⟨x, _, rfl⟩ := List.mem_map.mp hc
  rcases Nat.mod_two_eq_zero_or_one (x / 2 ^ (k - 1 - p)) with h | h <;> rw [h] <;> simp
/-- all inputs -/
def allIn (k : Nat) : List (List Nat) := (List.range (2 ^ k)).map (sig k)
def projs (k : Nat) : List (List Nat) := (List.range k).map (proj k)
end Ev
/-! SpBas2 -/
/-! SpBas2: inputs, the tables of one input, gates, what is built. -/
namespace Ev
open Mx EvBin
local macro_rules | `(tactic| walk_at "ev") => `(tactic| simp -implicitDefEqProofs only [↓bK_v, ↓cK_v, ↓oK_v, ↓tK_v, ↓iK_v, ↓sK_v, ↓vK_v, ↓insK_v, ↓hK_v, bK_w, cK_w, oK_w, tK_wt, tK_wf, iK_w, sK_wn, sK_wr, vK_w, insK_w, hK_w, vec_one, z_var, z_mv, z_int, z_bl, z_non, z_str, z_glb, z_bin, z_neg, z_inv, z_not, z_cmp, z_isN, z_ntN, z_chain, z_and, z_or, z_ite, z_tup, z_lst, z_call, z_lend, z_meth, z_fld, z_bi, z_bf, z_idx, z_sl, z_sget, z_snz, z_spop, z_appPop, z_lzip, z_hin, z_hlen, z_hkeys, z_hne, z_lc, z_nil, z_cons, z_no, z_so, z_no', z_so', lcB_app, forB_app, whC_app, whB_app, z_bnm, z_set, z_own, z_tset, z_par, z_app, z_ext, z_put, z_site, z_whl, z_for, z_ret, z_ex, z_pass, z_snil, z_scons, z_sput, z_hput, z_hupd, bK_some, cK_some, oK_some, tK_true, tK_false, iK_true, sK_nx, sK_rt, fK_rt, fK_nx, vK_some, insK_some, hK_some, negD, invD, notD, fldD, intO, seqO, lstO, intI, hndI, isNonD, setAll, bindD, ownL, ownD, wipeE, backE, isStt, stGet, stPut, Option.getD_some, Option.bind_some, Option.map_some, List.length_cons, List.length_nil, Int.toNat_natCast, Nat.reduceAdd, Nat.reduceSub, Nat.reduceEqDiff, List.map_cons, List.map_nil, List.replicate, List.cons_append, List.nil_append, List.getElem?_cons_zero, List.getElem?_cons_succ, List.set_cons_zero, List.set_cons_succ, ite_true, ite_false, hget, keyD, Bool.not_true, Bool.not_false, Bool.false_eq_true, if_false, if_true, if_pos, flatD, y_add, y_addS, y_addL, y_sub, y_mulR, y_mulL, y_mulS, y_mod, y_div, y_pow, y_band, y_bor, y_eq, y_ne, y_lt, y_le, y_gt, y_ge, y_ltS, y_inn, y_nin, e_ii, e_ss, e_bb, e_nn, e_si, e_is, i_ss, i_s1, i_sL, i_sT, q_lenL, q_lenT, q_lenS, q_lenD, q_abs, q_max, q_min, q_int, q_int2, q_all, q_any, q_join, c_listL, c_listT, d_lst, d_tup, d_str, d_lst0, d_lst1, d_lst2, d_tup0, d_tup1, d_tup2, d_str0, s_seqL, s_seqT, s_seqS, s_rng, s_rng1, s_rng2, s_rng3, s_rng4, s_rng5, s_rng6, s_rng7, s_rng8, s_rng600, s_enm, s_zpL, s_zpT, z_isi', t_1, t_2, t_3, t_4, t_5, t_6, t_7, t_8, t_9, t_10, t_11, t_12, t_13, t_14, t_15, t_16, t_17, t_18, t_19, t_20, t_21, t_22, t_23, t_24, t_25, t_26, t_27, t_28, t_29, t_30, t_31, t_32, t_33, t_34, t_35, t_36, t_37, t_38, t_39, t_40, t_41, t_42, t_43, t_44, t_45, t_46, t_47, t_48, t_49, t_50, t_51, t_52, t_53, t_54, t_55, t_56, t_57, t_58, t_59, t_60, t_61, t_62, t_63, t_64, t_65, t_66, t_67, t_68, t_69, t_70, t_71, t_72, t_73, t_74, t_75, t_76, t_77, t_78, t_79, t_80, t_81, Bool.and_true, Bool.true_and, Bool.false_and, Bool.or_false, Bool.false_or, Bool.true_or, decide_true, decide_false, List.isEmpty_nil, Option.isSome_some, hset, and_self, and_true, true_and, or_true, true_or, Int.cast_ofNat_Int, Int.reduceDiv, Int.reduceMod, Int.reduceLT, Int.reduceLE, Int.reduceAdd, Int.reduceSub, Int.reduceMul, Int.reduceNeg, Int.reduceBEq, Int.reduceEq, Int.reduceToNat, Nat.reduceLT, Nat.reduceLeDiff, Nat.reduceBEq, reduceIte, beq_self_eq_true, *])
theorem pow16 {k : Nat} (h : k ≤ 16) : 2 ^ k ≤ 65536 := by
  have h1 : 2 ^ k ≤ 2 ^ 16 := Nat.pow_le_pow_right (by decide) h
  have e : 2 ^ 16 = 65536 := rfl
  omega
section
variable {wf : Nat} {P : Pr} {G : String → Option Fn} (L : Lib P G)
include L
theorem sp_at_inputs {n : Nat} {st : PSt} {t l : List Nat} {c : Nat} (hb : isBits l = true) (hne : l ≠ []) (hl : l.length ≤ 640) (ht : t.length ≤ lim) (hc : t[worth l]? = some c) : call wf P G (n + 1) "at_inputs" [.str t, .str l] st = some (.str [c], st) := by
  have h1 := q_int2 hb hne hl
  have h2 := d_str hc ht
  rw [z_fn (g_x_at_inputs L) rfl]; walk_at "ev"
theorem sp_all_inputs {n k : Nat} {st : PSt} (hs : st.hd = []) (hk : k ≤ 16) : call wf P G (n + 2) "all_inputs" [.int (k : Int)] st = some (.lst (strL (allIn k)), st) := by
  have hp := pow16 hk
  have h1 := sp_doubled L (wf := wf) (n := n) (k := k) (st := st) (by omega)
  have hlc : lcLoop (lcB (call wf P G (n + 1)) [1] (.nm 1) none (.lend "signs_of" [(.var 1), (.var 0)])) (rngL (2 ^ k)) [some (false, .int (k : Int)), none] st = some (strL (allIn k), [some (false, .int (k : Int)), none], st) := by
    have e : strL (allIn k) = (rngL (2 ^ k)).map fun d => match d with | .int i => D.str (sig k i.toNat) | d => d := by
      unfold strL allIn rngL
      rw [List.map_map, List.map_map]
      rfl
    rw [e]
    refine lcLoop_map fun d hd => ?_
    obtain ⟨x, hx, rfl⟩ := List.mem_map.mp hd
    have h2 := sp_signs L (wf := wf) (n := n) (k := k) (x := x) (st := st) (by omega)
    have hx' : (x : Int).toNat = x := rfl
    clear hd e h1
    walk_at "ev"
  have hr := s_rng (k := 2 ^ k) (by omega)
  have hln : okLen (strL (allIn k)).length = true := okLen_of (by simp [strL, allIn]; show _ ≤ 16777216; omega)
  rw [z_fn (g_x_all_inputs L) rfl]
  walk_at "ev"
theorem sp_projection {n k p : Nat} {st : PSt} (hs : st.hd = []) (hk : k ≤ 16) (hp : p < k) : call wf P G (n + 3) "projection" [.int (k : Int), .int (p : Int)] st = some (.str (proj k p), st) := by
  have hpw := pow16 hk
  have h1 := sp_all_inputs L (wf := wf) (n := n) (k := k) (st := st) hs hk
  have hlc : lcLoop (lcB (call wf P G (n + 2)) [2] (.nm 2) none (.idx (.var 2) (.var 1))) (strL (allIn k)) [some (false, .int (k : Int)), some (false, .int (p : Int)), none] st = some (strL ((proj k p).map fun c => [c]), [some (false, .int (k : Int)), some (false, .int (p : Int)), none], st) := by
    have e : strL ((proj k p).map fun c => [c]) = (strL (allIn k)).map fun d => match d with | .str l => D.str [l.getD p 0] | d => d := by
      unfold strL allIn proj
      rw [List.map_map, List.map_map, List.map_map, List.map_map]
      refine List.map_congr_left fun x _ => ?_
      simp only [Function.comp]
      rw [List.getD_eq_getElem?_getD, sig_get k x p hp]; rfl
    rw [e]
    refine lcLoop_map fun d hd => ?_
    obtain ⟨l, hl, rfl⟩ := List.mem_map.mp hd
    obtain ⟨x, hx, rfl⟩ := List.mem_map.mp hl
    have h2 := d_str (sig_get k x p hp) (by rw [sig_len]; show _ ≤ 16777216; omega)
    have h3 : (sig k x).getD p 0 = 48 + x / 2 ^ (k - 1 - p) % 2 := by rw [List.getD_eq_getElem?_getD, sig_get k x p hp]; rfl
    clear hd hl e h1
    walk_at "ev"
  have hln : okLen (strL ((proj k p).map fun c => [c])).length = true := okLen_of (by simp [strL, proj]; show _ ≤ 16777216; omega)
  have hj : biD .join [.str [], .lst (strL ((proj k p).map fun c => [c]))] = some (.str (proj k p)) := by
    have hfl : ∀ l : List Nat, (l.map fun c => [c]).flatten = l := fun l => by
      induction l with
      | nil => rfl
      | cons a r ih => simp [ih]
    have hsm : ∀ l : List Nat, ((l.map fun c => [c]).map List.length).sum = l.length := fun l => by
      induction l with
      | nil => rfl
      | cons a r ih => simp only [List.map_cons, List.sum_cons, ih, List.length_cons, List.length_nil]; omega
    rw [q_join, hfl]
    rw [hsm, proj_len]; show _ ≤ 16777216; omega
  rw [z_fn (g_x_projection L) rfl]
  walk_at "ev"
theorem sp_rows {n k : Nat} {st : PSt} (hs : st.hd = []) (hk : k ≤ 16) : call wf P G (n + 4) "rows_of_inputs" [.int (k : Int)] st = some (.lst (strL (projs k)), st) := by
  have hlc : lcLoop (lcB (call wf P G (n + 3)) [1] (.nm 1) none (.lend "projection" [(.var 0), (.var 1)])) (rngL k) [some (false, .int (k : Int)), none] st = some (strL (projs k), [some (false, .int (k : Int)), none], st) := by
    have e : strL (projs k) = (rngL k).map fun d => match d with | .int i => D.str (proj k i.toNat) | d => d := by
      unfold strL projs rngL
      rw [List.map_map, List.map_map]
      rfl
    rw [e]
    refine lcLoop_map fun d hd => ?_
    obtain ⟨x, hx, rfl⟩ := List.mem_map.mp hd
    rw [List.mem_range] at hx
    have h2 := sp_projection L (wf := wf) (n := n) (k := k) (p := x) (st := st) hs hk hx
    have hx' : (x : Int).toNat = x := rfl
    clear hd e
    walk_at "ev"
  have hr := s_rng (k := k) (by omega)
  have hln : okLen (strL (projs k)).length = true := okLen_of (by simp [strL, projs]; show _ ≤ 16777216; omega)
  rw [z_fn (g_x_rows_of_inputs L) rfl]
  walk_at "ev"
end
/-! ### gates -/
abbrev Gts := List (List Nat × List Nat)
def pairsD (ps : Gts) : List D := ps.map fun p => .tup [.str p.1, .str p.2]
def gatesD (ps : Gts) : D := .ins "Gates" ["_pairs"] [.lst (pairsD ps)]
structure IsG (ps : Gts) : Prop where
  nm : ∀ p ∈ ps, IsW p.1
  nd : (ps.map (·.1)).Nodup
  tb : ∀ p ∈ ps, ∃ j, TbJ j p.2
  ln : ps.length ≤ 1000
section
variable {wf : Nat} {P : Pr} {G : String → Option Fn} (L : Lib P G)
include L
abbrev wrongLp : List S := [.ite (.or (.not (.lend "is_row" [(.var 3), (.int 2)])) (.or (.not (.lend "is_word" [(.idx (.var 3) (.int 0))])) (.or (.cmp .inn (.idx (.var 3) (.int 0)) (.var 1)) (.not (.lend "is_table" [(.idx (.var 3) (.int 1))]))))) [.ret (.mv 2)] [], .app 1 (.idx (.var 3) (.int 0))]
theorem wrong_step (hw : 1000 ≤ wf) {n i j : Nat} {st : PSt} {s0 s2 s3 : Slot} {seen : List (List Nat)} {w t : List Nat} (hs : st.hd = []) (hW : IsW w) (ht : TbJ j t) (hn : w ∉ seen) (hl : seen.length < 100000) :
    forB (call wf P G (n + 3)) wf (.tp [2, 3]) wrongLp (.tup [.int (i : Int), .tup [.str w, .str t]]) [s0, some (true, .lst (strL seen)), s2, s3] st = some (.nx, [s0, some (true, .lst (strL (seen ++ [w]))), some (false, .int (i : Int)), some (false, .tup [.str w, .str t])], st) := by
  have h1 := sp_is_rowT L (wf := wf) (n := n + 1) (st := st) (xs := [.str w, .str t]) (k := 2) hs
  have h2 := sp_is_word L (wf := wf) (n := n) (st := st) hs hW
  have h3 := sp_is_table L hw (n := n) hs ht
  have hd := decide_eq_false hn
  have hap : strL (seen ++ [w]) = strL seen ++ [.str w] := by simp [strL]
  have hln : okLen ((strL seen).length + 1) = true := okLen_of (by simp [strL]; show _ ≤ 16777216; omega)
  simp only [List.length_cons, List.length_nil, Nat.reduceAdd, Int.cast_ofNat_Int] at h1
  walk_at "ev"
theorem sp_wrong_gates (hw : 1000 ≤ wf) {n : Nat} {st : PSt} {ps : Gts} (hs : st.hd = []) (h : IsG ps) : call wf P G (n + 4) "wrong_gates" [.lst (pairsD ps)] st = some (.non, st) := by
  have loop : ∀ (ps : Gts) (i : Nat) (seen : List (List Nat)) (s0 s2 s3 : Slot), (∀ p ∈ ps, IsW p.1) → (seen ++ ps.map (·.1)).Nodup → (∀ p ∈ ps, ∃ j, TbJ j p.2) → seen.length + ps.length < 50000 → ∃ seen' s2' s3', forL (forB (call wf P G (n + 3)) wf (.tp [2, 3]) wrongLp) (((pairsD ps).zipIdx i).map fun p => .tup [.int p.2, p.1]) [s0, some (true, .lst (strL seen)), s2, s3] st = some (.nx, [s0, some (true, .lst (strL seen')), s2', s3'], st) := by
    intro ps
    induction ps with
    | nil => intro i seen s0 s2 s3 _ _ _ _; exact ⟨seen, s2, s3, rfl⟩
    | cons p r ih =>
      intro i seen s0 s2 s3 hW hn ht hl
      obtain ⟨w, t⟩ := p
      obtain ⟨j, hj⟩ := ht (w, t) (by simp)
      have hnot : w ∉ seen := fun z => by
        rw [List.nodup_append] at hn
        exact hn.2.2 w z w (by simp) rfl
      have e1 := wrong_step L hw (n := n) (i := i) (s0 := s0) (s2 := s2) (s3 := s3) (seen := seen) hs (hW (w, t) (by simp)) hj hnot (by omega)
      obtain ⟨seen', s2', s3', e⟩ := ih (i + 1) (seen ++ [w]) s0 (some (false, .int (i : Int))) (some (false, .tup [.str w, .str t])) (fun p hp => hW p (by simp [hp])) (by simpa using hn) (fun p hp => ht p (by simp [hp])) (by simp at hl ⊢; omega)
      refine ⟨seen', s2', s3', ?_⟩
      rw [show ((pairsD ((w, t) :: r)).zipIdx i).map (fun p => D.tup [.int (p.2 : Nat), p.1]) = D.tup [.int (i : Nat), .tup [.str w, .str t]] :: ((pairsD r).zipIdx (i + 1)).map (fun p => D.tup [.int (p.2 : Nat), p.1]) from rfl, forL, e1]
      exact e
  obtain ⟨seen', s2', s3', e⟩ := loop ps 0 [] (some (false, .lst (pairsD ps))) none none h.nm (by simpa using h.nd) h.tb (by have := h.ln; simp; omega)
  rw [show strL [] = [] from rfl] at e
  have h1 := sp_is_list L (wf := wf) (n := n + 2) (st := st) (xs := pairsD ps)
  clear loop
  rw [z_fn (g_x_wrong_gates L) rfl]
  walk_at "ev"
theorem sp_Gates (hw : 1000 ≤ wf) {n : Nat} {st : PSt} {ps : Gts} (hs : st.hd = []) (h : IsG ps) : call wf P G (n + 5) "Gates.__init__" [.lst (pairsD ps)] st = some (gatesD ps, st) := by
  have h1 := sp_wrong_gates L hw (n := n) hs h
  have hlc : lcLoop (lcB (call wf P G (n + 4)) [3, 4] (.tp [3, 4]) none (.tup [(.mv 3), (.mv 4)])) (pairsD ps) [some (true, .ins "Gates" [] []), some (false, .lst (pairsD ps)), some (false, .non), none, none] st = some (pairsD ps, [some (true, .ins "Gates" [] []), some (false, .lst (pairsD ps)), some (false, .non), none, none], st) := by
    conv => rhs; rw [show pairsD ps = (pairsD ps).map id by simp]
    have key : ∀ qs : List D, (∀ d ∈ qs, ∃ p : List Nat × List Nat, d = .tup [.str p.1, .str p.2]) → lcLoop (lcB (call wf P G (n + 4)) [3, 4] (.tp [3, 4]) none (.tup [(.mv 3), (.mv 4)])) qs [some (true, .ins "Gates" [] []), some (false, .lst (pairsD ps)), some (false, .non), none, none] st = some (qs.map id, [some (true, .ins "Gates" [] []), some (false, .lst (pairsD ps)), some (false, .non), none, none], st) := fun qs hq => by
      refine lcLoop_map fun d hd => ?_
      obtain ⟨p, rfl⟩ := hq d hd
      clear hd hq h1
      walk_at "ev"
      rfl
    rw [key (pairsD ps) (fun d hd => by
      obtain ⟨p, _, rfl⟩ := List.mem_map.mp hd
      exact ⟨p, rfl⟩)]
    simp
  have hln : okLen (pairsD ps).length = true := okLen_of (by have := h.ln; simp [pairsD]; show _ ≤ 16777216; omega)
  have he : evE (call wf P G (n + 4)) (.lc [3, 4] (.tp [3, 4]) .seq [(.mv 1)] none (.tup [(.mv 3), (.mv 4)])) [some (true, .ins "Gates" [] []), some (false, .lst (pairsD ps)), some (false, .non), none, none] st = some (.lst (pairsD ps), [some (true, .ins "Gates" [] []), some (false, .lst (pairsD ps)), some (false, .non), none, none], st) := by
    clear h1
    walk_at "ev"
  have hf := z_fst (cl := call wf P G (n + 4)) (wf := wf) (i := 0) (f := "_pairs") (C := "Gates") (fs := []) (xs := []) (d0 := .ins "Gates" [] []) rfl he rfl (by decide)
  clear he hlc hln
  rw [call_ini (g_x_Gates___init__ L).1 (g_x_Gates___init__ L).2]
  refine z_runIni (ρ1 := [some (true, .ins "Gates" ["_pairs"] [.lst (pairsD ps)]), some (false, .lst (pairsD ps)), some (false, .non), none, none]) rfl ?_ rfl
  simp -implicitDefEqProofs only [start]
  walk_at "ev"
theorem sp_pairs {n : Nat} {st : PSt} {ps : Gts} : call wf P G (n + 1) "Gates.pairs" [gatesD ps] st = some (.lst (pairsD ps), st) := by
  have e1 : (["_pairs"] : List String).idxOf? "_pairs" = some 0 := by decide +kernel
  unfold gatesD
  rw [z_fn (g_x_Gates_pairs L) rfl]
  walk_at "ev"
theorem sp_need_gates {n : Nat} {st : PSt} {ps : Gts} : call wf P G (n + 1) "need_gates" [gatesD ps] st = some (.non, st) := by
  unfold gatesD
  rw [z_fn (g_x_need_gates L) rfl]
  walk_at "ev"
theorem sp_tables_in {n : Nat} {st : PSt} {ps : Gts} (hl : ps.length ≤ 1000) : call wf P G (n + 2) "tables_in" [gatesD ps] st = some (.lst (strL (ps.map (·.2))), st) := by
  have h1 := sp_pairs L (wf := wf) (n := n) (st := st) (ps := ps)
  have hlc : lcLoop (lcB (call wf P G (n + 1)) [1, 2] (.tp [1, 2]) none (.mv 2)) (pairsD ps) [some (false, gatesD ps), none, none] st = some (strL (ps.map (·.2)), [some (false, gatesD ps), none, none], st) := by
    have e : strL (ps.map (·.2)) = (pairsD ps).map fun d => match d with | .tup [_, t] => t | d => d := by
      unfold strL pairsD
      rw [List.map_map, List.map_map]
      rfl
    rw [e]
    refine lcLoop_map fun d hd => ?_
    obtain ⟨p, _, rfl⟩ := List.mem_map.mp hd
    clear hd e h1
    walk_at "ev"
  have hln : okLen (strL (ps.map (·.2))).length = true := okLen_of (by simp [strL]; show _ ≤ 16777216; omega)
  have hm : decide ("pairs" ∉ ["_pairs"]) = true := by decide +kernel
  unfold gatesD at h1 hlc ⊢
  rw [z_fn (g_x_tables_in L) rfl]
  walk_at "ev"
/-- the numbers of the tables of one input -/
def projN (k : Nat) : List Nat := (projs k).map worth
omit L in
theorem closedF_built {k : Nat} {ps : Gts} {st : PSt} (h : IsG ps) (hk : 1 ≤ k) (hk2 : k ≤ 4) (hs : st.hd = []) :
    closedF [.lst (strL (ps.map (·.2))), .lst (strL (projs k))] st = some (.lst (strL ((closedL (2 ^ k) (ps.map (·.2)) (projN k)).map (sig (2 ^ k)))), st) := by
  have hne : projs k = proj k 0 :: (projs k).tail := by
    unfold projs
    obtain ⟨m, rfl⟩ : ∃ m, k = m + 1 := ⟨k - 1, by omega⟩
    rw [List.range_succ_eq_map]; rfl
  have hlen : (proj k 0).length = 2 ^ k := proj_len k 0
  have hp : 2 ^ k ≤ 2 ^ 4 := Nat.pow_le_pow_right (by decide) hk2
  have hp1 : 2 ^ 1 ≤ 2 ^ k := Nat.pow_le_pow_right (by decide) hk
  have hrow : rowsOk (2 ^ k) (projs k) = true := by
    unfold rowsOk
    simp only [Bool.and_eq_true, decide_eq_true_eq, List.all_eq_true, beq_iff_eq]
    refine ⟨⟨⟨by omega, by omega⟩, by simp [projs]; omega⟩, fun l hl => ?_⟩
    obtain ⟨x, _, rfl⟩ := List.mem_map.mp hl
    exact ⟨proj_len k x, proj_bits k x⟩
  have htab : (ps.map (·.2)).all tabOk = true := by
    rw [List.all_eq_true]
    intro t ht
    obtain ⟨p, hp, rfl⟩ := List.mem_map.mp ht
    obtain ⟨j, hj⟩ := h.tb p hp
    unfold tabOk
    rw [hj.ln, Nat.log2_two_pow]
    have h2 : 2 ^ 1 ≤ 2 ^ (j + 1) := Nat.pow_le_pow_right (by decide) (by omega)
    have := hj.le
    simp only [Bool.and_eq_true, decide_eq_true_eq]
    exact ⟨⟨by omega, trivial⟩, by omega⟩
  unfold closedF
  simp only [strsD_of]
  rw [hne]
  simp only [← hne, hlen, hrow, htab, hs, List.isEmpty_nil, Bool.and_self, if_true]
  rfl
theorem sp_built_all {n k : Nat} {st : PSt} {ps : Gts} (hs : st.hd = []) (h : IsG ps) (hk : 1 ≤ k) (hk2 : k ≤ 4) :
    call wf P G (n + 5) "built_all" [gatesD ps, .int (k : Int)] st = some (.lst (strL ((closedL (2 ^ k) (ps.map (·.2)) (projN k)).map (sig (2 ^ k)))), st) := by
  have h1 := sp_tables_in L (wf := wf) (n := n + 2) (st := st) (ps := ps) h.ln
  have h2 := sp_rows L (wf := wf) (n := n) (k := k) (st := st) hs (by omega)
  have h3 : call wf P G (n + 4) "closed_rows" [.lst (strL (ps.map (·.2))), .lst (strL (projs k))] st = some (.lst (strL ((closedL (2 ^ k) (ps.map (·.2)) (projN k)).map (sig (2 ^ k)))), st) := by
    rw [call_pr L.clo, closedF_built h hk hk2 hs]
  rw [z_fn (g_x_built_all L) rfl]
  walk_at "ev"
theorem sp_number_built {n k : Nat} {st : PSt} {ps : Gts} (hs : st.hd = []) (h : IsG ps) (hk : 1 ≤ k) (hk2 : k ≤ 4) :
    call wf P G (n + 6) "number_built" [gatesD ps, .int (k : Int)] st = some (.int ((closedL (2 ^ k) (ps.map (·.2)) (projN k)).length : Int), st) := by
  have h0 := sp_need_gates L (wf := wf) (n := n + 3) (st := st) (ps := ps)
  have h1 := sp_check_many L (wf := wf) (n := n + 2) (k := k) (st := st) hs hk
  have h2 : call wf P G (n + 5) "need_many" [gatesD ps, .int (k : Int)] st = some (.non, st) := by
    rw [z_fn (g_x_need_many L) rfl]
    walk_at "ev"
  have h3 := sp_built_all L (wf := wf) (n := n) (k := k) (st := st) hs h hk hk2
  have hlen : ((strL ((closedL (2 ^ k) (ps.map (·.2)) (projN k)).map (sig (2 ^ k)))).length : Int) = ((closedL (2 ^ k) (ps.map (·.2)) (projN k)).length : Int) := by simp [strL]
  clear h0 h1
  rw [z_fn (g_x_number_built L) rfl]
  walk_at "ev"
theorem sp_can_build (hw : 1000 ≤ wf) {n j : Nat} {st : PSt} {ps : Gts} {t : List Nat} (hs : st.hd = []) (h : IsG ps) (ht : TbJ j t) (hj : j ≤ 3) :
    call wf P G (n + 7) "can_build" [gatesD ps, .str t] st = some (.bl (decide (t ∈ (closedL (2 ^ (j + 1)) (ps.map (·.2)) (projN (j + 1))).map (sig (2 ^ (j + 1))))), st) := by
  have h0 := sp_need_gates L (wf := wf) (n := n + 5) (st := st) (ps := ps)
  have h1 := sp_need_table L hw (n := n + 2) hs ht
  have h2 := sp_count L hw (n := n + 3) hs ht
  have h3 := sp_built_all L (wf := wf) (n := n) (k := j + 1) (st := st) hs h (by omega) (by omega)
  have h4 : call wf P G (n + 6) "is_built" [gatesD ps, .str t] st = some (.bl (decide (t ∈ (closedL (2 ^ (j + 1)) (ps.map (·.2)) (projN (j + 1))).map (sig (2 ^ (j + 1))))), st) := by
    clear h0 h1
    rw [z_fn (g_x_is_built L) rfl]
    walk_at "ev"
  clear h2 h3
  rw [z_fn (g_x_can_build L) rfl]
  walk_at "ev"
end
end Ev
/-! Pu4 -/
/-! Pu4: what is reckoned once holds at every state and depth; closed lists by a certificate. -/
namespace Ev
open Mx EvBin
section
variable {P : Pr} {G : String → Option Fn} {p : String → Bool}
theorem simPure (h1 : ∀ f, p f = true → P f = none) (h2 : ∀ f, p f = true → ∀ fn, G f = some fn → okL p false fn.body = true) : SimG RelS.pure p P P G G :=
  ⟨fun f hf g hg => (by rw [h1 f hf] at hg; cases hg), fun f hf _ => h1 f hf, fun f hf _ fn hg => ⟨hg, h2 f hf fn hg⟩⟩
theorem call_pure {wf n m : Nat} (h : SimG RelS.pure p P P G G) (hm : n ≤ m) {f : String} (hf : p f = true) {ds : List D} {st0 st1 st : PSt} {d : D} (hd : st0.hd = st.hd) (e : call wf P G n f ds st0 = some (d, st1)) : call wf P G m f ds st = some (d, st) := by
  obtain ⟨b', e2, t⟩ := call_sim RelS.pure h wf n m hm f hf ds st0 st d st1 hd e
  have : b' = st := t.2
  rw [e2, this]
theorem exL_pure {wf n m : Nat} (h : SimG RelS.pure p P P G G) (hm : n ≤ m) {body : List S} (ho : okL p false body = true) {ρ ρ' : Env} {st0 st1 st : PSt} {x : Out} (hd : st0.hd = st.hd) (e : exL (call wf P G n) wf body ρ st0 = some (x, ρ', st1)) : exL (call wf P G m) wf body ρ st = some (x, ρ', st) := by
  obtain ⟨b', e2, t⟩ := exL_sim RelS.pure (call_sim RelS.pure h wf n m hm) wf body ho ρ st0 st x ρ' st1 hd e
  have : b' = st := t.2
  rw [e2, this]
theorem evE_pure {wf n m : Nat} (h : SimG RelS.pure p P P G G) (hm : n ≤ m) {e : E} (ho : okE p false e = true) {ρ ρ' : Env} {st0 st1 st : PSt} {d : D} (hd : st0.hd = st.hd) (q : evE (call wf P G n) e ρ st0 = some (d, ρ', st1)) : evE (call wf P G m) e ρ st = some (d, ρ', st) := by
  obtain ⟨b', e2, t⟩ := evE_sim RelS.pure (call_sim RelS.pure h wf n m hm) e ho ρ st0 st d ρ' st1 hd q
  have : b' = st := t.2
  rw [e2, this]
end
/-! ### closed lists by a certificate; a set of numbers is the number whose bits they are -/
def runC (sz : Nat) (tabs : List (List Nat)) : Nat → List (Nat × List Nat) → Option Nat
  | M, [] => some M
  | M, (i, ms) :: r => match tabs[i]? with
    | some t => if ms.all (fun m => M.testBit m) && (t.length == 2 ^ ms.length && !ms.isEmpty) then runC sz tabs (M ||| (1 <<< app sz t ms)) r else none
    | none => none
theorem runC_ok {sz : Nat} {tabs : List (List Nat)} {rows : List Nat} : ∀ {c : List (Nat × List Nat)} {M M' : Nat}, (∀ x, M.testBit x = true → Clo sz tabs rows x) → runC sz tabs M c = some M' → ∀ x, M'.testBit x = true → Clo sz tabs rows x
  | [], M, M', h, e => by cases e; exact h
  | (i, ms) :: r, M, M', h, e => by
    rw [runC] at e
    split at e
    · rename_i t ht
      split at e
      · rename_i hc
        simp only [Bool.and_eq_true, List.all_eq_true, beq_iff_eq, Bool.not_eq_true', List.isEmpty_eq_false_iff] at hc
        refine runC_ok (fun x hx => ?_) e
        rw [Nat.testBit_or, Bool.or_eq_true] at hx
        rcases hx with hx | hx
        · exact h x hx
        · have hxe : x = app sz t ms := by
            rw [Nat.one_shiftLeft, Nat.testBit_two_pow] at hx
            simpa using (of_decide_eq_true hx).symm
          subst hxe
          exact .step (List.mem_of_getElem? ht) hc.2.1 (by have := hc.2.2; cases ms with | nil => exact absurd rfl this | cons a b => simp) fun m hm => h m (hc.1 m hm)
      · cases e
    · cases e
/-- the set is closed under the tables -/
def closC (sz : Nat) (tabs : List (List Nat)) (M : Nat) (E : List Nat) : Bool := tabs.all fun t => (outs E (Nat.log2 t.length) (vals sz t)).all fun y => M.testBit y
theorem clo_in {sz : Nat} {tabs : List (List Nat)} {rows E : List Nat} {M : Nat} (hr : rows.all (fun x => M.testBit x) = true) (hE : ∀ x, x < 2 ^ sz → M.testBit x = true → x ∈ E) (hlt : ∀ x ∈ rows, x < 2 ^ sz) (hc : closC sz tabs M E = true) {x : Nat} (h : Clo sz tabs rows x) : M.testBit x = true := by
  induction h with
  | base h => exact List.all_eq_true.mp hr _ h
  | step h1 h2 h3 h4 ih =>
    rename_i t ms
    have := List.all_eq_true.mp hc t h1
    rw [h2, Nat.log2_two_pow] at this
    refine List.all_eq_true.mp this _ (mem_outs.mpr ⟨ms, rfl, fun m hm => hE m ((h4 m hm).lt hlt) (ih m hm), ?_⟩)
    rw [app_mem h2]; simp
theorem closedL_eq {sz : Nat} {tabs : List (List Nat)} {rows : List Nat} {M M0 : Nat} {c : List (Nat × List Nat)} (h0 : ∀ x, M0.testBit x = true → x ∈ rows) (hrun : runC sz tabs M0 c = some M) (hr : rows.all (fun x => M.testBit x) = true) (hlt : ∀ x ∈ rows, x < 2 ^ sz)
    (hc : closC sz tabs M ((List.range (2 ^ sz)).filter fun x => M.testBit x) = true ∨ ∀ x, x < 2 ^ sz → M.testBit x = true) : closedL sz tabs rows = (List.range (2 ^ sz)).filter fun x => M.testBit x := by
  unfold closedL
  refine List.filter_congr fun x hx => ?_
  rw [List.mem_range] at hx
  rw [Bool.eq_iff_iff]
  simp only [decide_eq_true_eq]
  constructor
  · intro h
    rcases hc with hc | hc
    · exact clo_in hr (fun y hy hy2 => by rw [List.mem_filter, List.mem_range]; exact ⟨hy, hy2⟩) hlt hc h
    · exact hc x hx
  · intro h
    exact runC_ok (fun y hy => .base (h0 y hy)) hrun x h
theorem closedL_congr {sz : Nat} {ts ts' : List (List Nat)} {rows : List Nat} (h : ∀ t, t ∈ ts ↔ t ∈ ts') : closedL sz ts rows = closedL sz ts' rows := by
  have key : ∀ {a b : List (List Nat)}, (∀ t, t ∈ a → t ∈ b) → ∀ x, Clo sz a rows x → Clo sz b rows x := fun hab x hx => by
    induction hx with
    | base h => exact .base h
    | step h1 h2 h3 _ ih => exact .step (hab _ h1) h2 h3 ih
  unfold closedL
  refine List.filter_congr fun x _ => ?_
  rw [Bool.eq_iff_iff]
  simp only [decide_eq_true_eq]
  exact ⟨key (fun t ht => (h t).mp ht) x, key (fun t ht => (h t).mpr ht) x⟩
/-- a text of signs is one of those with some numbers -/
theorem mem_sigs {sz : Nat} {l : List Nat} {E : List Nat} (hl : l.length = sz) (hb : isBits l = true) (hE : ∀ x ∈ E, x < 2 ^ sz) : l ∈ E.map (sig sz) ↔ worth l ∈ E := by
  rw [List.mem_map]
  constructor
  · rintro ⟨x, hx, rfl⟩; rw [worth_sig sz x (hE x hx)]; exact hx
  · intro h; exact ⟨worth l, h, by rw [← hl]; exact sig_worth hb⟩
section
variable {wf : Nat} {P : Pr} {G : String → Option Fn} (L : Lib P G)
include L
local macro_rules | `(tactic| walk_at "ev") => `(tactic| simp -implicitDefEqProofs only [↓bK_v, ↓cK_v, ↓oK_v, ↓tK_v, ↓iK_v, ↓sK_v, ↓vK_v, ↓insK_v, ↓hK_v, bK_w, cK_w, oK_w, tK_wt, tK_wf, iK_w, sK_wn, sK_wr, vK_w, insK_w, hK_w, vec_one, z_var, z_mv, z_int, z_bl, z_non, z_str, z_glb, z_bin, z_neg, z_inv, z_not, z_cmp, z_isN, z_ntN, z_chain, z_and, z_or, z_ite, z_tup, z_lst, z_call, z_lend, z_meth, z_fld, z_bi, z_bf, z_idx, z_sl, z_sget, z_snz, z_spop, z_appPop, z_lzip, z_hin, z_hlen, z_hkeys, z_hne, z_lc, z_nil, z_cons, z_no, z_so, z_no', z_so', lcB_app, forB_app, whC_app, whB_app, z_bnm, z_set, z_own, z_tset, z_par, z_app, z_ext, z_put, z_site, z_whl, z_for, z_ret, z_ex, z_pass, z_snil, z_scons, z_sput, z_hput, z_hupd, bK_some, cK_some, oK_some, tK_true, tK_false, iK_true, sK_nx, sK_rt, fK_rt, fK_nx, vK_some, insK_some, hK_some, negD, invD, notD, fldD, intO, seqO, lstO, intI, hndI, isNonD, setAll, bindD, ownL, ownD, wipeE, backE, isStt, stGet, stPut, Option.getD_some, Option.bind_some, Option.map_some, List.length_cons, List.length_nil, Int.toNat_natCast, Nat.reduceAdd, Nat.reduceSub, Nat.reduceEqDiff, List.map_cons, List.map_nil, List.replicate, List.cons_append, List.nil_append, List.getElem?_cons_zero, List.getElem?_cons_succ, List.set_cons_zero, List.set_cons_succ, ite_true, ite_false, hget, keyD, Bool.not_true, Bool.not_false, Bool.false_eq_true, if_false, if_true, if_pos, flatD, y_add, y_addS, y_addL, y_sub, y_mulR, y_mulL, y_mulS, y_mod, y_div, y_pow, y_band, y_bor, y_eq, y_ne, y_lt, y_le, y_gt, y_ge, y_ltS, y_inn, y_nin, e_ii, e_ss, e_bb, e_nn, e_si, e_is, i_ss, i_s1, i_sL, i_sT, q_lenL, q_lenT, q_lenS, q_lenD, q_abs, q_max, q_min, q_int, q_int2, q_all, q_any, q_join, c_listL, c_listT, d_lst, d_tup, d_str, d_lst0, d_lst1, d_lst2, d_tup0, d_tup1, d_tup2, d_str0, s_seqL, s_seqT, s_seqS, s_rng, s_rng1, s_rng2, s_rng3, s_rng4, s_rng5, s_rng6, s_rng7, s_rng8, s_rng600, s_enm, s_zpL, s_zpT, z_isi', t_1, t_2, t_3, t_4, t_5, t_6, t_7, t_8, t_9, t_10, t_11, t_12, t_13, t_14, t_15, t_16, t_17, t_18, t_19, t_20, t_21, t_22, t_23, t_24, t_25, t_26, t_27, t_28, t_29, t_30, t_31, t_32, t_33, t_34, t_35, t_36, t_37, t_38, t_39, t_40, t_41, t_42, t_43, t_44, t_45, t_46, t_47, t_48, t_49, t_50, t_51, t_52, t_53, t_54, t_55, t_56, t_57, t_58, t_59, t_60, t_61, t_62, t_63, t_64, t_65, t_66, t_67, t_68, t_69, t_70, t_71, t_72, t_73, t_74, t_75, t_76, t_77, t_78, t_79, t_80, t_81, Bool.and_true, Bool.true_and, Bool.false_and, Bool.or_false, Bool.false_or, Bool.true_or, decide_true, decide_false, List.isEmpty_nil, Option.isSome_some, hset, and_self, and_true, true_and, or_true, true_or, Int.cast_ofNat_Int, Int.reduceDiv, Int.reduceMod, Int.reduceLT, Int.reduceLE, Int.reduceAdd, Int.reduceSub, Int.reduceMul, Int.reduceNeg, Int.reduceBEq, Int.reduceEq, Int.reduceToNat, Nat.reduceLT, Nat.reduceLeDiff, Nat.reduceBEq, reduceIte, beq_self_eq_true, *])
theorem sp_same_int {n : Nat} {st : PSt} {i j : Int} (hs : st.hd = []) : call wf P G (n + 1) "_law_same" [.int i, .int j] st = some (.bl (i == j), st) := by
  rw [z_fn (g_x__law_same L) rfl]; walk_at "ev"
theorem sp_same_bl {n : Nat} {st : PSt} {a b : Bool} (hs : st.hd = []) : call wf P G (n + 1) "_law_same" [.bl a, .bl b] st = some (.bl (a == b), st) := by
  rw [z_fn (g_x__law_same L) rfl]; walk_at "ev"
end
end Ev
/-! K92SDefs -/
namespace K92S
open PySem PySem.Spec PyProof.Rows L2 Ev
def top (i : Nat) : Stmt := PySem.Challenge.pw_gatesenough_k92_whole_known_numbers_of_t.main.body.getD i (.Pass ⟨0, 0, 0, 0⟩)
def d20 : DefE := ⟨"doubled", .fn, Str.ofString "doubled", Str.ofString "doubled", (top 20), [Str.ofString "many", Str.ofString "found", Str.ofString "step"], [Str.ofString "many"], [], [],
  [.set 1 (.int 1), .for (.nm 2) .rng [(.mv 0)] [.set 1 (.bin .mul (.var 1) (.int 2))], .ret (.mv 1)]⟩
def d27 : DefE := ⟨"signs_of", .fn, Str.ofString "signs_of", Str.ofString "signs_of", (top 27), [Str.ofString "number", Str.ofString "many", Str.ofString "found", Str.ofString "step"], [Str.ofString "number", Str.ofString "many"], [], [],
  [.set 2 (.str []), .for (.nm 3) .rng [(.mv 1)] [.set 2 (.bin .add (.bi .str1 [(.bin .mod (.var 0) (.int 2))]) (.var 2)), .set 0 (.bin .fdiv (.var 0) (.int 2))], .ret (.mv 2)]⟩
def d37_1 : DefE := ⟨"Spread.note", (.mt "Spread" "note"), Str.ofString "note", Str.ofString "Spread.note", (inClass (top 37) 1), [Str.ofString "self", Str.ofString "number", Str.ofString "which", Str.ofString "mates"], [Str.ofString "self", Str.ofString "number", Str.ofString "which", Str.ofString "mates"], [], [],
  [.ite (.and (.hin true (.var 1) (.fld (.var 0) "origins")) (.hin true (.var 1) (.fld (.var 0) "fresh"))) [.hput (.fld (.var 0) "fresh") (.var 1) (.tup [(.mv 2), (.mv 3)])] []]⟩
def d37_2 : DefE := ⟨"Spread.walk", (.mt "Spread" "walk"), Str.ofString "walk", Str.ofString "Spread.walk", (inClass (top 37) 2), [Str.ofString "self", Str.ofString "which", Str.ofString "values", Str.ofString "mates", Str.ofString "known", Str.ofString "half", Str.ofString "number", Str.ofString "rest", Str.ofString "low", Str.ofString "high", Str.ofString "more", Str.ofString "k"], [Str.ofString "self", Str.ofString "which", Str.ofString "values", Str.ofString "mates", Str.ofString "known"], [], [],
  [.set 5 (.bin .fdiv (.bi .len [(.var 2)]) (.int 2)), .ite (.cmp .eq (.var 5) (.int 1)) [.tset [8, 9] (.mv 2), .for (.nm 6) .seq [(.mv 4)] [.set 10 (.bin .bor (.bin .band (.var 6) (.var 9)) (.bin .band (.var 8) (.inv (.var 6)))), .ite (.hin true (.var 10) (.fld (.var 0) "origins")) [.ex (.meth "Spread" "note" "Spread.note" (.mv 0) [(.mv 10), (.mv 1), (.bin .add (.var 3) (.lst [(.mv 6)]))])] []], .ret .non] [], .for (.nm 6) .seq [(.mv 4)] [.set 7 (.lc [11] (.nm 11) .rng [(.mv 5)] none (.bin .bor (.bin .band (.var 6) (.idx (.var 2) (.bin .add (.var 5) (.var 11)))) (.bin .band (.idx (.var 2) (.var 11)) (.inv (.var 6))))), .ex (.meth "Spread" "walk" "Spread.walk" (.mv 0) [(.mv 1), (.mv 7), (.bin .add (.var 3) (.lst [(.mv 6)])), (.mv 4)])]]⟩
def L : List DefE := [d20, d27, d37_1, d37_2]
def TT : Tb := tabOf L [] ["doubled"] [] [] [(nm "size", "size"), (nm "whole", "whole"), (nm "tables", "tables"), (nm "origins", "origins"), (nm "fresh", "fresh")] [Str.ofString "origins", Str.ofString "fresh"]
theorem td20 : trDef TT 30 d20.Ns d20.ow d20.stn d20.st = some d20.body := by kernel_rfl
theorem sd20 : FnScope d20.Ns d20.ps (defScope d20.st) := ⟨rfl, rfl, rfl, by decide +kernel, rfl, by decide +kernel, by decide +kernel⟩
theorem td27 : trDef TT 30 d27.Ns d27.ow d27.stn d27.st = some d27.body := by kernel_rfl
theorem sd27 : FnScope d27.Ns d27.ps (defScope d27.st) := ⟨rfl, rfl, rfl, by decide +kernel, rfl, by decide +kernel, by decide +kernel⟩
theorem td37_1 : trDef TT 30 d37_1.Ns d37_1.ow d37_1.stn d37_1.st = some d37_1.body := by kernel_rfl
theorem sd37_1 : FnScope d37_1.Ns d37_1.ps (defScope d37_1.st) := ⟨rfl, rfl, rfl, by decide +kernel, rfl, by decide +kernel, by decide +kernel⟩
theorem td37_2 : trDef TT 30 d37_2.Ns d37_2.ow d37_2.stn d37_2.st = some d37_2.body := by kernel_rfl
theorem sd37_2 : FnScope d37_2.Ns d37_2.ps (defScope d37_2.st) := ⟨rfl, rfl, rfl, by decide +kernel, rfl, by decide +kernel, by decide +kernel⟩
theorem txt : textOk TT 30 L := by
  intro e he
  simp only [L, List.mem_cons, List.not_mem_nil, or_false] at he
  rcases he with rfl | rfl | rfl | rfl
  · exact ⟨td20, sd20, by decide +kernel⟩
  · exact ⟨td27, sd27, by decide +kernel⟩
  · exact ⟨td37_1, sd37_1, by decide +kernel⟩
  · exact ⟨td37_2, sd37_2, by decide +kernel⟩
theorem keys : (L.map DefE.key).Nodup := by decide +kernel
def b_turn : List Ev.S := [.set 1 (.hkeys (.fld (.var 0) "origins")), .for (.tp [2, 3]) .enm [(.fld (.var 0) "tables")] [.ite (.cmp .le (.bin .add (.bi .len [(.var 1)]) (.hlen (.fld (.var 0) "fresh"))) (.fld (.var 0) "whole")) [.ex (.meth "Spread" "walk" "Spread.walk" (.mv 0) [(.mv 2), (.lc [4] (.nm 4) .seq [(.mv 3)] none (.ite (.cmp .eq (.var 4) (.str [49])) (.fld (.var 0) "whole") (.int 0))), (.lst []), (.mv 1)])] []], .hupd (.fld (.var 0) "origins") (.fld (.var 0) "fresh"), .ret (.hne (.fld (.var 0) "fresh"))]
theorem tb_turn : (trLs (trS TT 30 30) ⟨⟨[Str.ofString "self", Str.ofString "known", Str.ofString "which", Str.ofString "table", Str.ofString "sign"], defScope (inClass (top 37) 3), fun _ => true, []⟩, []⟩ ((defBody (inClass (top 37) 3)).drop 1)) = some b_turn := by kernel_rfl
def b_spread : List Ev.S := [.ret (.lc [1] (.nm 1) .seq [(.bf .sorted [(.hkeys (.fld (.var 0) "origins"))])] none (.call "signs_of" [(.mv 1), (.fld (.var 0) "size")]))]
theorem tb_spread : (trLs (trS TT 30 30) ⟨⟨[Str.ofString "self", Str.ofString "number"], defScope (inClass (top 37) 4), fun _ => true, []⟩, []⟩ ((defBody (inClass (top 37) 4)).drop 1)) = some b_spread := by kernel_rfl
end K92S
/-! K92SFn -/
namespace K92S
open PySem PySem.Spec PyProof.Rows L2 Ev
abbrev sTurn : Stmt := inClass (top 37) 3
abbrev sSpread : Stmt := inClass (top 37) 4
theorem tb1 : (trLs (trS TT 30 30) ⟨⟨[Str.ofString "self", Str.ofString "known", Str.ofString "which", Str.ofString "table", Str.ofString "sign"], defScope sTurn, fun _ => true, []⟩, []⟩ ((defBody sTurn).drop 1)) = some b_turn := tb_turn
theorem hb1 : ∃ p1 p2 p3 p4, defBody sTurn = .Assign [.Attribute (.Name (nm "self") p1) (nm "fresh") p2] (.Dict [] [] p3) p4 :: (defBody sTurn).drop 1 := ⟨_, _, _, _, rfl⟩
theorem hb2 : ∃ p1 p2 p3 p4 p5, (p2.endLine == p3.line) = true ∧ defBody sSpread = .While (.Call (.Attribute (.Name (nm "self") p1) (nm "turn") p2) [] [] p3) [.Pass p4] [] p5 :: (defBody sSpread).drop 1 := ⟨_, _, _, _, _, by decide +kernel, rfl⟩
theorem sc1 : FnScope [Str.ofString "self", Str.ofString "known", Str.ofString "which", Str.ofString "table", Str.ofString "sign"] ["self"] (defScope sTurn) := ⟨rfl, rfl, rfl, by decide +kernel, rfl, by decide +kernel, by decide +kernel⟩
theorem sc2 : FnScope [Str.ofString "self", Str.ofString "number"] ["self"] (defScope sSpread) := ⟨rfl, rfl, rfl, by decide +kernel, rfl, by decide +kernel, by decide +kernel⟩
abbrev sInit : Stmt := inClass (top 37) 0
abbrev sClosed : Stmt := top 38
theorem sc3 : FnScope [Str.ofString "self", Str.ofString "tables", Str.ofString "rows", Str.ofString "row"] ["self", "tables", "rows"] (defScope sInit) := ⟨rfl, rfl, rfl, by decide +kernel, rfl, by decide +kernel, by decide +kernel⟩
theorem sc4 : FnScope [Str.ofString "tables", Str.ofString "rows"] ["tables", "rows"] (defScope sClosed) := ⟨rfl, rfl, rfl, by decide +kernel, rfl, by decide +kernel, by decide +kernel⟩
theorem closed_ok {P : Program} {w : World} {K : PySem.W.Frag} {mg : Str → Option Value} {base : Heap} {k m m2 : Nat} {cl : Cl} {wf : Nat} {body rest : List Ev.S} {dbl : List D → PSt → Option (D × PSt)} {R : RC} {f : List D → PSt → Option (D × PSt)} {c0 fA fI fS : Addr} {fd fdI fdS : FuncData}
    (Fn : Fun K "closed_rows" "closed_rows" sClosed fA fd) (hK : R.K = K) (hm : R.mg = mg) (hh : R.hs = []) (hC : mg (nm "Spread") = some (.ref c0)) (hI : InsC K c0) (M : Mk K c0 fI) (FI : FnOk P w K mg base CX0 k fI fdI ["self", "tables", "rows"] (spSInit K mg dbl)) (bI : Binds K fdI ["self", "tables", "rows"] [])
    (hmt : Meth K c0 (nm "spread") fS) (FS : FnOk P w K mg base CX0 k fS fdS ["self"] (spSpread K mg cl wf body rest m m2)) (bS : Binds K fdS ["self"] [])
    (hf : ∀ ds st d st2, f ds st = some (d, st2) → ∃ ts rs ls, ds = [.lst ts, .lst rs] ∧ strsD rs = some ls ∧ ClosedAt dbl cl wf body rest m m2 ts ls d st st2) : FnOk P w K mg base CX0 (k + 2) fA fd ["tables", "rows"] (spV R f 2) := by
  refine Fn.ok sc4 (fun vs H Q E h => h.1) (fun cdv A outer s H vs Q E hr hsp => ?_)
  refine ⟨tRet (tMeth c0 (nm "spread") (spSpread K mg cl wf body rest m m2) [] E0 (tMake c0 (spSInit K mg dbl) [] E0 (tCons (tVar 0) (tCons (tVar 1) tNil))) tNil), ?_, ?_⟩
  · exact pss_one (ps_ret (pe_meth0 (pe_make M FI hr rfl hC bI .nil pass0 (pa_cons (pv 0) (pa_cons (pv 1) pa_nil))) hI.cl hmt FS (hr.mono (Nat.le_succ _)) bS .nil pass0 (meth_tree rfl (by decide +kernel) rfl (by decide))))
  · exact closed_pure hK hm hh hC hI hf hsp _ fun j v hv => start_v hv
theorem sinitF_ok {P : Program} {w : World} {K : PySem.W.Frag} {mg : Str → Option Value} {base : Heap} {k : Nat} {dbl : List D → PSt → Option (D × PSt)} {c0 fA : Addr} {fd : FuncData}
    (Fn : Fun K "__init__" "Spread.__init__" sInit fA fd) (hC : mg (nm "Spread") = some (.ref c0)) (hcl : Cls K c0) (hna : ∀ f ∈ sfs, NoAttr K c0 (nm f)) (ml : mg "len" = none) (mi : mg "int" = none) (FD : ∀ sa, ∃ (fD : Addr) (fdD : FuncData), Binds K fdD ["many"] [] ∧ PySem.W.keepIn K (.ref fD) = true ∧ mg (nm "doubled") = some (.ref fD) ∧ FnOk P w K mg base CX0 k fD fdD ["many"] (spV (RS K mg sa []) dbl 1)) :
    FnOk P w K mg base CX0 (k + 1) fA fd ["self", "tables", "rows"] (spSInit K mg dbl) := by
  refine Fn.ok sc3 (fun vs H Q E h => ?_) (fun cdv A outer s H vs Q E hr hsp => ?_)
  · obtain ⟨_, _, _, _, _, _, _, _, _, _, _, _, _, rfl, _⟩ := h
    rfl
  refine ⟨tSInit K mg dbl, ?_, ?_⟩
  · refine pss_cons (ps_fld (pv 0) (pe_callB call_len_str rfl ml (by rfl) (pa_cons (pe_ix ix_list (pv 2) pe_int (fun _ _ => rfl)) pa_nil)) rfl)
      (pss_cons (ps_fld (pv 0) (pe_op op_sub (pe_ex fun sa => (let ⟨_, _, bD, kD, hD, FD⟩ := FD sa; pe_call FD hr rfl hD kD bD .nil pass0 (pa_cons (pe_fld (pv 0) rfl) pa_nil))) pe_int) rfl)
      (pss_cons (ps_fld (pv 0) (pv 1) rfl)
      (pss_cons (ps_fld (pv 0) (pe_dc (own := [(Str.ofString "row", 3)]) (g := gName 3) (tt := tYes) rfl sc3.nd (pi_list (pv 2)) (blkOk_by (N := [Str.ofString "self", Str.ofString "tables", Str.ofString "rows", Str.ofString "row"]) (sc := defScope sInit) (by decide +kernel)) (fun _ _ _ _ _ => pg_name (i := 3) sc3.nd rfl (Or.inl rfl)) (fun _ _ _ _ _ => pts_nil) (fun _ _ _ _ _ => pe_callTy EvBin.call_int_bit rfl mi (by rfl) (pa_cons (pv 3) (pa_cons pe_int pa_nil))) (fun _ _ _ _ _ => pe_non)) rfl)
      (pss_one (ps_fld (pv 0) pe_dnewK rfl)))))
  · refine sinit_pure hC hcl hna hsp _ ?_ fun j v hv => start_v hv
    obtain ⟨_, _, _, _, _, _, _, _, _, _, _, _, _, rfl, _⟩ := hsp
    rfl
end K92S
/-! K92SJoin -/
namespace K92S
open PySem PySem.Spec PyProof.Rows L2 Ev
abbrev P0 : Pr := fun _ => none
abbrev clS (wf n : Nat) : Cl := call wf P0 (defOf L) n
structure SFacts (K : PySem.W.Frag) (mg : Str → Option Value) : Prop where
  dL : ∀ e ∈ L, DFact K mg ["Spread"] e
  tab : ∀ sa hs, TabOk TT (RS K mg sa hs)
  ex : ∃ (c0 fT fS fI fA : Addr) (fdT fdS fdI fd : FuncData), mg (nm "Spread") = some (.ref c0) ∧ InsC K c0 ∧ (∀ f ∈ sfs, NoAttr K c0 (nm f)) ∧ Mk K c0 fI ∧ Meth K c0 (nm "turn") fT ∧ Meth K c0 (nm "spread") fS ∧
    Fun K "turn" "Spread.turn" sTurn fT fdT ∧ Fun K "spread" "Spread.spread" sSpread fS fdS ∧ Fun K "__init__" "Spread.__init__" sInit fI fdI ∧ Fun K "closed_rows" "closed_rows" sClosed fA fd ∧
    Binds K fdT ["self"] [] ∧ Binds K fdS ["self"] [] ∧ Binds K fdI ["self", "tables", "rows"] [] ∧ Binds K fd ["tables", "rows"] [] ∧ mg (nm "closed_rows") = some (.ref fA) ∧ PySem.W.keepIn K (.ref fA) = true
theorem closed_prim {P : Program} {w : World} {K : PySem.W.Frag} {mg : Str → Option Value} {base : Heap} {wf n : Nat} (S : SFacts K mg) {R : RC} {f : List D → PSt → Option (D × PSt)} (hK : R.K = K) (hm : R.mg = mg) (hh : R.hs = [])
    (hf : ∀ ds st d st2, f ds st = some (d, st2) → ∃ ts rs ls, ds = [.lst ts, .lst rs] ∧ strsD rs = some ls ∧ ClosedAt (clS wf n "doubled") (clS wf n) wf b_turn b_spread 4 1 ts ls d st st2) : PrimOk P w base R (2 * n + 6) "closed_rows" 2 f := by
  obtain ⟨dL, tab, c0, fT, fS, fI, fA, fdT, fdS, fdI, fd, hC, hI, hna, hM, hT, hS, FT, FS, FI, FA, bT, bS, bI, bA, mA, kA⟩ := S
  have tw : ∀ sa hs, ∀ e ∈ L, LvOk P w base (RS K mg sa hs) (0 + 2 * n) (clS wf n) e := fun sa hs => tower (prims := []) keys (fun e _ => rfl) txt (tab sa hs) dL (fun p hp => by cases hp) n
  have hctx : ∀ (k : Nat), 2 * n + 1 ≤ k → ∀ (sa : Option (Addr × Addr)) (hs : List Addr) (X : Cx), X.prog = P → X.w = w → X.base = base → XOk (RS K mg sa hs) X → Room k X.A → CtxOk TT (clS wf n) (RS K mg sa hs) X := fun k hk sa hs X h1 h2 h3 ok hr =>
    ctx_of (P := P) (w := w) (base := base) (prims := []) (n := 0 + 2 * n) (tab sa hs) h1 h2 h3 ok (hr.mono (by omega)) (fun p hp => by cases hp) (tw sa hs)
  have T1 := turn_ok (base := base) (k := 2 * n + 1) (m := 4) (wf := wf) FT sc1 rfl tb1 hb1 (fun c hc hi => by
    have : c = c0 := by
      have := hc.1
      rw [show (RS K mg none []).mg (nm "Spread") = mg (nm "Spread") from rfl, hC] at this
      cases this; rfl
    subst this
    exact hna "fresh" (by decide)) (hctx _ (Nat.le_refl _))
  have S1 := spread_ok (base := base) (k := 2 * n + 2) (m := 4) (m2 := 1) (wf := wf) FS sc2 rfl tb_spread hb2 hC hI.cl hT T1 bT (hctx _ (by omega))
  have hd : ∀ sa, ∃ (A : Addr) (fdD : FuncData), Binds K fdD ["many"] [] ∧ PySem.W.keepIn K (.ref A) = true ∧ mg (nm "doubled") = some (.ref A) ∧ FnOk P w K mg base CX0 (0 + 2 * n) A fdD ["many"] (spV (RS K mg sa []) (clS wf n "doubled") 1) := fun sa => tw sa [] d20 (by simp [L])
  have bl := (tab none []).blt
  have I1 := sinitF_ok (P := P) (w := w) (base := base) (k := 2 * n) FI hC hI.cl hna (bl "len" (by decide +kernel)) (bl "int" (by decide +kernel)) (dbl := clS wf n "doubled") fun sa => by
    obtain ⟨A, fdD, h1, h2, h3, h4⟩ := hd sa
    exact ⟨A, fdD, h1, h2, h3, by rw [Nat.zero_add] at h4; exact h4⟩
  refine ⟨fA, fd, ["tables", "rows"], ?_, by rw [hm]; exact mA, by rw [hK]; exact kA, by rw [hK]; exact bA, rfl⟩
  have C1 := closed_ok (base := base) (k := 2 * n + 3) FA hK hm hh hC hI hM (I1.mono (by omega)) bI hS (S1.mono (by omega)) bS hf
  subst hK hm
  exact C1.mono (by omega)
theorem spG : SpG P0 (defOf L) := ⟨⟨rfl, by kernel_rfl⟩, ⟨rfl, by kernel_rfl⟩, ⟨rfl, by kernel_rfl⟩, ⟨rfl, by kernel_rfl⟩⟩
end K92S
/-! K92Cl -/
namespace Ev
open Mx EvBin
def maskOf (rows : List Nat) : Nat := rows.foldr (fun x M => M ||| (1 <<< x)) 0
theorem maskOf_mem {rows : List Nat} {x : Nat} : (maskOf rows).testBit x = true ↔ x ∈ rows := by
  induction rows with
  | nil => simp [maskOf]
  | cons a r ih =>
    show ((maskOf r) ||| (1 <<< a)).testBit x = true ↔ _
    rw [Nat.testBit_or, Bool.or_eq_true, ih, Nat.one_shiftLeft, Nat.testBit_two_pow, List.mem_cons]
    simp only [decide_eq_true_eq]
    constructor
    · rintro (h | h)
      · exact .inr h
      · exact .inl h.symm
    · rintro (h | h)
      · exact .inr h.symm
      · exact .inl h
def tabs0 : List (List Nat) := [[49, 49, 49, 48]]
def mask0 : Nat := 115792089237316195423570985008687907853269984665640564039457584007913129639935
def cert0 : List (Nat × List Nat) := [(0, [15, 15]), (0, [15, 51]), (0, [15, 85]), (0, [51, 51]), (0, [51, 85]), (0, [85, 85]), (0, [15, 240]), (0, [15, 252]), (0, [15, 250]), (0, [15, 238]), (0, [51, 240]), (0, [51, 250]), (0, [51, 238]), (0, [85, 240]), (0, [85, 252]), (0, [85, 204]), (0, [240, 204]), (0, [240, 238]), (0, [240, 170]), (0, [252, 252]), (0, [252, 250]), (0, [252, 238]), (0, [252, 170]), (0, [250, 250]), (0, [250, 204]), (0, [250, 238]), (0, [204, 170]), (0, [238, 238]), (0, [15, 241]), (0, [15, 205]), (0, [15, 171]), (0, [15, 7]), (0, [51, 245]), (0, [51, 175]), (0, [51, 31]), (0, [85, 243]), (0, [85, 207]), (0, [85, 63]), (0, [240, 221]), (0, [240, 187]), (0, [240, 31]), (0, [240, 119]), (0, [252, 245]), (0, [252, 221]), (0, [252, 175]), (0, [252, 187]), (0, [252, 63]), (0, [252, 31]), (0, [252, 95]), (0, [252, 7]), (0, [252, 55]), (0, [252, 21]), (0, [252, 119]), (0, [250, 243]), (0, [250, 207]), (0, [250, 221]), (0, [250, 187]), (0, [250, 63]), (0, [250, 31]), (0, [250, 95]), (0, [250, 3]), (0, [250, 19]), (0, [250, 87]), (0, [250, 119]), (0, [204, 245]), (0, [204, 175]), (0, [204, 95]), (0, [238, 243]), (0, [238, 245]), (0, [238, 207]), (0, [238, 175]), (0, [238, 63]), (0, [238, 95]), (0, [238, 7]), (0, [238, 87]), (0, [238, 55]), (0, [238, 119]), (0, [170, 243]), (0, [170, 207]), (0, [170, 63]), (0, [255, 255]), (0, [255, 243]), (0, [255, 245]), (0, [255, 241]), (0, [255, 207]), (0, [255, 205]), (0, [255, 221]), (0, [255, 175]), (0, [255, 171]), (0, [255, 187]), (0, [255, 63]), (0, [255, 31]), (0, [255, 95]), (0, [255, 87]), (0, [255, 55]), (0, [255, 119]), (0, [243, 207]), (0, [243, 205]), (0, [243, 221]), (0, [243, 175]), (0, [243, 187]), (0, [243, 95]), (0, [243, 119]), (0, [245, 207]), (0, [245, 221]), (0, [245, 175]), (0, [245, 171]), (0, [245, 187]), (0, [245, 63]), (0, [245, 119]), (0, [241, 119]), (0, [207, 175]), (0, [207, 171]), (0, [207, 95]), (0, [207, 87]), (0, [205, 175]), (0, [205, 171]), (0, [205, 95]), (0, [221, 187]), (0, [221, 63]), (0, [221, 95]), (0, [175, 63]), (0, [175, 55]), (0, [171, 63]), (0, [187, 63]), (0, [187, 31]), (0, [63, 87]), (0, [15, 248]), (0, [15, 249]), (0, [51, 236]), (0, [51, 229]), (0, [85, 234]), (0, [85, 195]), (0, [240, 143]), (0, [240, 153]), (0, [240, 102]), (0, [252, 234]), (0, [252, 47]), (0, [252, 39]), (0, [252, 165]), (0, [252, 59]), (0, [252, 27]), (0, [252, 153]), (0, [252, 213]), (0, [252, 42]), (0, [252, 90]), (0, [252, 102]), (0, [250, 79]), (0, [250, 71]), (0, [250, 195]), (0, [250, 179]), (0, [250, 76]), (0, [250, 102]), (0, [204, 165]), (0, [238, 143]), (0, [170, 195]), (0, [255, 254]), (0, [255, 239]), (0, [255, 227]), (0, [255, 251]), (0, [255, 203]), (0, [255, 235]), (0, [255, 229]), (0, [255, 253]), (0, [255, 237]), (0, [255, 173]), (0, [255, 249]), (0, [255, 185]), (0, [255, 217]), (0, [255, 62]), (0, [255, 94]), (0, [255, 118]), (0, [243, 79]), (0, [243, 143]), (0, [243, 229]), (0, [243, 141]), (0, [243, 153]), (0, [245, 47]), (0, [245, 143]), (0, [207, 249]), (0, [221, 59]), (0, [175, 249]), (0, [63, 253]), (0, [63, 237]), (0, [63, 249]), (0, [63, 94]), (0, [63, 118]), (0, [31, 118]), (0, [95, 251]), (0, [95, 203]), (0, [95, 249]), (0, [95, 118]), (0, [119, 239]), (0, [119, 227]), (0, [119, 229]), (0, [47, 249]), (0, [79, 249]), (0, [239, 249]), (0, [227, 117]), (0, [252, 191]), (0, [252, 127]), (0, [252, 111]), (0, [252, 159]), (0, [252, 181]), (0, [252, 123]), (0, [250, 223]), (0, [250, 127]), (0, [250, 111]), (0, [250, 159]), (0, [250, 211]), (0, [238, 247]), (0, [238, 127]), (0, [238, 199]), (0, [238, 167]), (0, [255, 247]), (0, [255, 246]), (0, [255, 223]), (0, [255, 222]), (0, [255, 191]), (0, [255, 190]), (0, [255, 127]), (0, [255, 111]), (0, [255, 159]), (0, [255, 211]), (0, [255, 219]), (0, [255, 199]), (0, [255, 231]), (0, [255, 215]), (0, [255, 167]), (0, [255, 155]), (0, [255, 181]), (0, [255, 189]), (0, [255, 183]), (0, [255, 157]), (0, [255, 123]), (0, [255, 125]), (0, [255, 126]), (0, [255, 214]), (0, [255, 182]), (0, [255, 158]), (0, [243, 159]), (0, [243, 154]), (0, [245, 159]), (0, [245, 156]), (0, [207, 167]), (0, [207, 166]), (0, [248, 111]), (0, [239, 123]), (0, [239, 125]), (0, [251, 125]), (0, [235, 125]), (0, [247, 159]), (0, [247, 158])]
theorem clos0 : closedL 8 tabs0 (projN 3) = (List.range (2 ^ 8)).filter fun x => Nat.testBit mask0 x :=
  closedL_eq (c := cert0) (fun x hx => maskOf_mem.mp hx) (by decide +kernel : runC 8 tabs0 (maskOf (projN 3)) cert0 = some mask0) (by decide +kernel) (by decide +kernel) (.inr (fun x hx => by have := List.all_eq_true.mp (show (List.range 256).all (fun x => Nat.testBit mask0 x) = true by decide +kernel) x (List.mem_range.mpr hx); exact this))
def tabs1 : List (List Nat) := [[48, 48, 48, 49], [48, 49, 49, 49]]
def mask1 : Nat := 170805797498169199065671369346595324074
def cert1 : List (Nat × List Nat) := [(0, [15, 51]), (0, [15, 85]), (0, [51, 85]), (1, [15, 51]), (1, [15, 85]), (1, [51, 85]), (0, [15, 17]), (0, [15, 119]), (0, [51, 95]), (0, [85, 63]), (0, [63, 95]), (0, [63, 119]), (0, [95, 119]), (1, [15, 119]), (0, [63, 87])]
theorem clos1 : closedL 8 tabs1 (projN 3) = (List.range (2 ^ 8)).filter fun x => Nat.testBit mask1 x :=
  closedL_eq (c := cert1) (fun x hx => maskOf_mem.mp hx) (by decide +kernel : runC 8 tabs1 (maskOf (projN 3)) cert1 = some mask1) (by decide +kernel) (by decide +kernel) (.inl (by decide +kernel))
def tabs2 : List (List Nat) := [[48, 49, 49, 48]]
def mask2 : Nat := 45636698233882926675594225680385
def cert2 : List (Nat × List Nat) := [(0, [15, 15]), (0, [15, 51]), (0, [15, 85]), (0, [51, 85]), (0, [15, 102])]
theorem clos2 : closedL 8 tabs2 (projN 3) = (List.range (2 ^ 8)).filter fun x => Nat.testBit mask2 x :=
  closedL_eq (c := cert2) (fun x hx => maskOf_mem.mp hx) (by decide +kernel : runC 8 tabs2 (maskOf (projN 3)) cert2 = some mask2) (by decide +kernel) (by decide +kernel) (.inl (by decide +kernel))
def tabs3 : List (List Nat) := [[48, 48, 48, 49, 48, 49, 49, 49], [49, 48]]
def mask3 : Nat := 1773748817732904131748320733959665603180640652894150424401371991818403840
def cert3 : List (Nat × List Nat) := [(0, [15, 51, 85]), (1, [15]), (1, [51]), (1, [85]), (0, [15, 51, 170]), (0, [15, 85, 204]), (0, [15, 204, 170]), (0, [51, 85, 240]), (0, [51, 240, 170]), (0, [85, 240, 204]), (0, [240, 204, 170]), (0, [15, 113, 232]), (0, [15, 178, 212])]
theorem clos3 : closedL 8 tabs3 (projN 3) = (List.range (2 ^ 8)).filter fun x => Nat.testBit mask3 x :=
  closedL_eq (c := cert3) (fun x hx => maskOf_mem.mp hx) (by decide +kernel : runC 8 tabs3 (maskOf (projN 3)) cert3 = some mask3) (by decide +kernel) (by decide +kernel) (.inl (by decide +kernel))
def tabs4 : List (List Nat) := [[48, 49, 49, 48, 49, 48, 48, 49]]
def mask4 : Nat := 40564857892929570767827906887680
def cert4 : List (Nat × List Nat) := [(0, [15, 51, 85])]
theorem clos4 : closedL 8 tabs4 (projN 3) = (List.range (2 ^ 8)).filter fun x => Nat.testBit mask4 x :=
  closedL_eq (c := cert4) (fun x hx => maskOf_mem.mp hx) (by decide +kernel : runC 8 tabs4 (maskOf (projN 3)) cert4 = some mask4) (by decide +kernel) (by decide +kernel) (.inl (by decide +kernel))
def tabs5 : List (List Nat) := [[48, 48, 48, 49]]
def mask5 : Nat := 38685626229919933404446762
def cert5 : List (Nat × List Nat) := [(0, [15, 51]), (0, [15, 85]), (0, [51, 85]), (0, [15, 17])]
theorem clos5 : closedL 8 tabs5 (projN 3) = (List.range (2 ^ 8)).filter fun x => Nat.testBit mask5 x :=
  closedL_eq (c := cert5) (fun x hx => maskOf_mem.mp hx) (by decide +kernel : runC 8 tabs5 (maskOf (projN 3)) cert5 = some mask5) (by decide +kernel) (by decide +kernel) (.inl (by decide +kernel))
end Ev
/-! K92Defs -/
namespace K92
open PySem PySem.Spec PyProof.Rows L2 Ev
def top (i : Nat) : Stmt := PySem.Challenge.pw_gatesenough_k92_whole_known_numbers_of_t.main.body.getD i (.Pass ⟨0, 0, 0, 0⟩)
def d3 : DefE := ⟨"is_integer", .fn, Str.ofString "is_integer", Str.ofString "is_integer", (top 3), [Str.ofString "thing"], [Str.ofString "thing"], [], [],
  [.ret (.and (.isi (.var 0) ["int"]) (.not (.isi (.var 0) ["bool"])))]⟩
def d4 : DefE := ⟨"is_list", .fn, Str.ofString "is_list", Str.ofString "is_list", (top 4), [Str.ofString "thing"], [Str.ofString "thing"], [], [],
  [.ret (.isi (.var 0) ["list", "tuple"])]⟩
def d5 : DefE := ⟨"is_row", .fn, Str.ofString "is_row", Str.ofString "is_row", (top 5), [Str.ofString "thing", Str.ofString "many"], [Str.ofString "thing", Str.ofString "many"], [], [],
  [.ret (.and (.lend "is_list" [(.var 0)]) (.cmp .eq (.bi .len [(.var 0)]) (.var 1)))]⟩
def d6 : DefE := ⟨"is_text", .fn, Str.ofString "is_text", Str.ofString "is_text", (top 6), [Str.ofString "thing"], [Str.ofString "thing"], [], [],
  [.ret (.isi (.var 0) ["str"])]⟩
def d7 : DefE := ⟨"is_letters", .fn, Str.ofString "is_letters", Str.ofString "is_letters", (top 7), [Str.ofString "thing", Str.ofString "sign"], [Str.ofString "thing"], [], [],
  [.ret (.and (.lend "is_text" [(.var 0)]) (.and (.cmp .gt (.bi .len [(.var 0)]) (.int 0)) (.bi .all [(.lc [1] (.nm 1) .seq [(.mv 0)] none (.cmp .inn (.var 1) (.glb (.str [97, 98, 99, 100, 101, 102, 103, 104, 105, 106, 107, 108, 109, 110, 111, 112, 113, 114, 115, 116, 117, 118, 119, 120, 121, 122]))))])))]⟩
def d8 : DefE := ⟨"is_word", .fn, Str.ofString "is_word", Str.ofString "is_word", (top 8), [Str.ofString "thing"], [Str.ofString "thing"], [], [],
  [.ret (.and (.lend "is_letters" [(.var 0)]) (.cmp .le (.bi .len [(.var 0)]) (.int 8)))]⟩
def d19 : DefE := ⟨"are_signs", .fn, Str.ofString "are_signs", Str.ofString "are_signs", (top 19), [Str.ofString "thing", Str.ofString "many", Str.ofString "sign"], [Str.ofString "thing", Str.ofString "many"], [], [],
  [.ret (.and (.lend "is_text" [(.var 0)]) (.and (.cmp .eq (.bi .len [(.var 0)]) (.var 1)) (.bi .all [(.lc [2] (.nm 2) .seq [(.mv 0)] none (.cmp .inn (.var 2) (.str [48, 49])))])))]⟩
def d20 : DefE := ⟨"doubled", .fn, Str.ofString "doubled", Str.ofString "doubled", (top 20), [Str.ofString "many", Str.ofString "found", Str.ofString "step"], [Str.ofString "many"], [], [],
  [.set 1 (.int 1), .for (.nm 2) .rng [(.mv 0)] [.set 1 (.bin .mul (.var 1) (.int 2))], .ret (.mv 1)]⟩
def d21 : DefE := ⟨"count_inputs", .fn, Str.ofString "count_inputs", Str.ofString "count_inputs", (top 21), [Str.ofString "table", Str.ofString "many"], [Str.ofString "table"], [], [],
  [.set 1 (.int 1), .whl (.cmp .lt (.lend "doubled" [(.var 1)]) (.bi .len [(.var 0)])) [.set 1 (.bin .add (.var 1) (.int 1))], .ret (.ite (.cmp .eq (.lend "doubled" [(.var 1)]) (.bi .len [(.var 0)])) (.mv 1) .non)]⟩
def d22 : DefE := ⟨"is_table", .fn, Str.ofString "is_table", Str.ofString "is_table", (top 22), [Str.ofString "thing"], [Str.ofString "thing"], [], [],
  [.ite (.or (.not (.lend "is_text" [(.var 0)])) (.not (.lend "are_signs" [(.var 0), (.bi .len [(.var 0)])]))) [.ret (.bl false)] [], .ret (.ntN (.lend "count_inputs" [(.var 0)]))]⟩
def d23 : DefE := ⟨"need_table", .fn, Str.ofString "need_table", Str.ofString "need_table", (top 23), [Str.ofString "table"], [Str.ofString "table"], [], [],
  [.ite (.not (.lend "is_table" [(.var 0)])) [.never] []]⟩
def d24 : DefE := ⟨"check_many", .fn, Str.ofString "check_many", Str.ofString "check_many", (top 24), [Str.ofString "many"], [Str.ofString "many"], [], [],
  [.ite (.or (.not (.lend "is_integer" [(.var 0)])) (.cmp .lt (.var 0) (.int 1))) [.never] []]⟩
def d25 : DefE := ⟨"inputs_of", .fn, Str.ofString "inputs_of", Str.ofString "inputs_of", (top 25), [Str.ofString "table"], [Str.ofString "table"], [], [],
  [.ex (.lend "need_table" [(.var 0)]), .ret (.lend "count_inputs" [(.var 0)])]⟩
def d26 : DefE := ⟨"at_inputs", .fn, Str.ofString "at_inputs", Str.ofString "at_inputs", (top 26), [Str.ofString "table", Str.ofString "inputs"], [Str.ofString "table", Str.ofString "inputs"], [], [],
  [.ret (.idx (.var 0) (.bi .int2 [(.var 1), (.int 2)]))]⟩
def d27 : DefE := ⟨"signs_of", .fn, Str.ofString "signs_of", Str.ofString "signs_of", (top 27), [Str.ofString "number", Str.ofString "many", Str.ofString "found", Str.ofString "step"], [Str.ofString "number", Str.ofString "many"], [], [],
  [.set 2 (.str []), .for (.nm 3) .rng [(.mv 1)] [.set 2 (.bin .add (.bi .str1 [(.bin .mod (.var 0) (.int 2))]) (.var 2)), .set 0 (.bin .fdiv (.var 0) (.int 2))], .ret (.mv 2)]⟩
def d28 : DefE := ⟨"all_inputs", .fn, Str.ofString "all_inputs", Str.ofString "all_inputs", (top 28), [Str.ofString "many", Str.ofString "number"], [Str.ofString "many"], [], [],
  [.ret (.lc [1] (.nm 1) .rng [(.lend "doubled" [(.var 0)])] none (.lend "signs_of" [(.var 1), (.var 0)]))]⟩
def d29 : DefE := ⟨"projection", .fn, Str.ofString "projection", Str.ofString "projection", (top 29), [Str.ofString "many", Str.ofString "place", Str.ofString "inputs"], [Str.ofString "many", Str.ofString "place"], [], [],
  [.ret (.bi .join [(.str []), (.lc [2] (.nm 2) .seq [(.call "all_inputs" [(.mv 0)])] none (.idx (.var 2) (.var 1)))])]⟩
def d30 : DefE := ⟨"flipped", .fn, Str.ofString "flipped", Str.ofString "flipped", (top 30), [Str.ofString "inputs", Str.ofString "place"], [Str.ofString "inputs", Str.ofString "place"], [], [],
  [.ret (.bin .add (.bin .add (.sl (.var 0) none (some (.var 1))) (.ite (.cmp .eq (.idx (.var 0) (.var 1)) (.str [49])) (.str [48]) (.str [49]))) (.sl (.var 0) (some (.bin .add (.var 1) (.int 1))) none))]⟩
def d32 : DefE := ⟨"wrong_gates", .fn, Str.ofString "wrong_gates", Str.ofString "wrong_gates", (top 32), [Str.ofString "gates", Str.ofString "seen", Str.ofString "index", Str.ofString "gate"], [Str.ofString "gates"], [Str.ofString "seen"], [],
  [.ite (.not (.lend "is_list" [(.var 0)])) [.ret (.int 0)] [], .own 1 (.lst []), .for (.tp [2, 3]) .enm [(.mv 0)] [.ite (.or (.not (.lend "is_row" [(.var 3), (.int 2)])) (.or (.not (.lend "is_word" [(.idx (.var 3) (.int 0))])) (.or (.cmp .inn (.idx (.var 3) (.int 0)) (.var 1)) (.not (.lend "is_table" [(.idx (.var 3) (.int 1))]))))) [.ret (.mv 2)] [], .app 1 (.idx (.var 3) (.int 0))], .ret .non]⟩
def d33_0 : DefE := ⟨"Gates.__init__", (.ini "Gates"), Str.ofString "__init__", Str.ofString "Gates.__init__", (inClass (top 33) 0), [Str.ofString "self", Str.ofString "gates", Str.ofString "index", Str.ofString "name", Str.ofString "table"], [Str.ofString "self", Str.ofString "gates"], [Str.ofString "self"], [],
  [.set 2 (.lend "wrong_gates" [(.var 1)]), .ite (.ntN (.var 2)) [.never] [], .fst 0 "_pairs" (.lc [3, 4] (.tp [3, 4]) .seq [(.mv 1)] none (.tup [(.mv 3), (.mv 4)]))]⟩
def d33_1 : DefE := ⟨"Gates.pairs", (.mt "Gates" "pairs"), Str.ofString "pairs", Str.ofString "Gates.pairs", (inClass (top 33) 1), [Str.ofString "self"], [Str.ofString "self"], [], [],
  [.ret (.bf .list [(.fld (.var 0) "_pairs")])]⟩
def d34 : DefE := ⟨"need_gates", .fn, Str.ofString "need_gates", Str.ofString "need_gates", (top 34), [Str.ofString "gates"], [Str.ofString "gates"], [], [],
  [.ite (.not (.isi (.var 0) ["Gates"])) [.never] []]⟩
def d35 : DefE := ⟨"tables_in", .fn, Str.ofString "tables_in", Str.ofString "tables_in", (top 35), [Str.ofString "gates", Str.ofString "name", Str.ofString "table"], [Str.ofString "gates"], [], [],
  [.ret (.lc [1, 2] (.tp [1, 2]) .seq [(.meth "Gates" "pairs" "Gates.pairs" (.mv 0) [])] none (.mv 2))]⟩
def d40 : DefE := ⟨"rows_of_inputs", .fn, Str.ofString "rows_of_inputs", Str.ofString "rows_of_inputs", (top 40), [Str.ofString "many", Str.ofString "place"], [Str.ofString "many"], [], [],
  [.ret (.lc [1] (.nm 1) .rng [(.mv 0)] none (.lend "projection" [(.var 0), (.var 1)]))]⟩
def d41 : DefE := ⟨"built_all", .fn, Str.ofString "built_all", Str.ofString "built_all", (top 41), [Str.ofString "gates", Str.ofString "many"], [Str.ofString "gates", Str.ofString "many"], [], [],
  [.ret (.call "closed_rows" [(.call "tables_in" [(.mv 0)]), (.call "rows_of_inputs" [(.mv 1)])])]⟩
def d42 : DefE := ⟨"is_built", .fn, Str.ofString "is_built", Str.ofString "is_built", (top 42), [Str.ofString "gates", Str.ofString "table"], [Str.ofString "gates", Str.ofString "table"], [], [],
  [.ret (.cmp .inn (.var 1) (.call "built_all" [(.mv 0), (.lend "count_inputs" [(.var 1)])]))]⟩
def d43 : DefE := ⟨"can_build", .fn, Str.ofString "can_build", Str.ofString "can_build", (top 43), [Str.ofString "gates", Str.ofString "table"], [Str.ofString "gates", Str.ofString "table"], [], [],
  [.ex (.lend "need_gates" [(.var 0)]), .ex (.lend "need_table" [(.var 1)]), .ret (.lend "is_built" [(.var 0), (.var 1)])]⟩
def d46 : DefE := ⟨"check_kind", .fn, Str.ofString "check_kind", Str.ofString "check_kind", (top 46), [Str.ofString "kind"], [Str.ofString "kind"], [], [],
  [.ite (.or (.not (.lend "is_text" [(.var 0)])) (.cmp .nin (.var 0) (.glb (.tup [(.str [122, 101, 114, 111]), (.str [111, 110, 101]), (.str [114, 105, 115, 101, 115]), (.str [116, 117, 114, 110, 115]), (.str [115, 117, 109, 115])])))) [.never] []]⟩
def d47 : DefE := ⟨"turned_about", .fn, Str.ofString "turned_about", Str.ofString "turned_about", (top 47), [Str.ofString "inputs", Str.ofString "sign"], [Str.ofString "inputs"], [], [],
  [.ret (.bi .join [(.str []), (.lc [1] (.nm 1) .seq [(.mv 0)] none (.ite (.cmp .eq (.var 1) (.str [49])) (.str [48]) (.str [49])))])]⟩
def d48 : DefE := ⟨"first_fall", .fn, Str.ofString "first_fall", Str.ofString "first_fall", (top 48), [Str.ofString "table", Str.ofString "many", Str.ofString "lower", Str.ofString "place"], [Str.ofString "table"], [], [],
  [.set 1 (.lend "count_inputs" [(.var 0)]), .for (.nm 2) .seq [(.call "all_inputs" [(.mv 1)])] [.for (.nm 3) .rng [(.mv 1)] [.ite (.and (.cmp .eq (.idx (.var 2) (.var 3)) (.str [48])) (.cmp .eq (.lend "at_inputs" [(.var 0), (.var 2)]) (.str [49]))) [.ite (.cmp .eq (.lend "at_inputs" [(.var 0), (.lend "flipped" [(.var 2), (.var 3)])]) (.str [48])) [.ret (.lst [(.mv 2), (.lend "flipped" [(.var 2), (.var 3)])])] []] []]], .ret .non]⟩
def d49 : DefE := ⟨"first_alike", .fn, Str.ofString "first_alike", Str.ofString "first_alike", (top 49), [Str.ofString "table", Str.ofString "inputs"], [Str.ofString "table"], [], [],
  [.for (.nm 1) .seq [(.call "all_inputs" [(.lend "count_inputs" [(.var 0)])])] [.ite (.cmp .eq (.lend "at_inputs" [(.var 0), (.var 1)]) (.lend "at_inputs" [(.var 0), (.lend "turned_about" [(.var 1)])])) [.ret (.lst [(.mv 1)])] []], .ret .non]⟩
def d50 : DefE := ⟨"is_odd", .fn, Str.ofString "is_odd", Str.ofString "is_odd", (top 50), [Str.ofString "table", Str.ofString "some", Str.ofString "inputs"], [Str.ofString "table", Str.ofString "some"], [], [],
  [.ret (.cmp .eq (.bin .mod (.bi .count [(.lc [2] (.nm 2) .seq [(.mv 1)] none (.lend "at_inputs" [(.var 0), (.var 2)])), (.str [49])]) (.int 2)) (.int 1))]⟩
def d51 : DefE := ⟨"first_square", .fn, Str.ofString "first_square", Str.ofString "first_square", (top 51), [Str.ofString "table", Str.ofString "many", Str.ofString "inputs", Str.ofString "one", Str.ofString "two", Str.ofString "some"], [Str.ofString "table"], [], [],
  [.set 1 (.lend "count_inputs" [(.var 0)]), .for (.nm 2) .seq [(.call "all_inputs" [(.mv 1)])] [.for (.nm 3) .rng [(.mv 1)] [.for (.nm 4) .rng [(.bin .add (.var 3) (.int 1)), (.mv 1)] [.set 5 (.lst [(.mv 2), (.lend "flipped" [(.var 2), (.var 3)]), (.lend "flipped" [(.var 2), (.var 4)]), (.lend "flipped" [(.lend "flipped" [(.var 2), (.var 3)]), (.var 4)])]), .ite (.and (.cmp .eq (.idx (.var 2) (.var 3)) (.str [48])) (.and (.cmp .eq (.idx (.var 2) (.var 4)) (.str [48])) (.lend "is_odd" [(.var 0), (.var 5)]))) [.ret (.mv 5)] []]]], .ret .non]⟩
def d52 : DefE := ⟨"shown_not", .fn, Str.ofString "shown_not", Str.ofString "shown_not", (top 52), [Str.ofString "table", Str.ofString "kind", Str.ofString "many"], [Str.ofString "table", Str.ofString "kind"], [], [],
  [.set 2 (.lend "count_inputs" [(.var 0)]), .ite (.cmp .eq (.var 1) (.str [122, 101, 114, 111])) [.ret (.ite (.cmp .eq (.idx (.var 0) (.int 0)) (.str [49])) (.lst [(.bin .mul (.str [48]) (.var 2))]) .non)] [], .ite (.cmp .eq (.var 1) (.str [111, 110, 101])) [.ret (.ite (.cmp .eq (.idx (.var 0) (.neg (.int 1))) (.str [48])) (.lst [(.bin .mul (.str [49]) (.var 2))]) .non)] [], .ite (.cmp .eq (.var 1) (.str [114, 105, 115, 101, 115])) [.ret (.call "first_fall" [(.mv 0)])] [], .ret (.ite (.cmp .eq (.var 1) (.str [116, 117, 114, 110, 115])) (.call "first_alike" [(.mv 0)]) (.call "first_square" [(.mv 0)]))]⟩
def d53 : DefE := ⟨"why_not", .fn, Str.ofString "why_not", Str.ofString "why_not", (top 53), [Str.ofString "table", Str.ofString "kind"], [Str.ofString "table", Str.ofString "kind"], [], [],
  [.ex (.lend "need_table" [(.var 0)]), .ex (.lend "check_kind" [(.var 1)]), .ret (.call "shown_not" [(.mv 0), (.mv 1)])]⟩
def d54 : DefE := ⟨"kinds_of", .fn, Str.ofString "kinds_of", Str.ofString "kinds_of", (top 54), [Str.ofString "table", Str.ofString "kind"], [Str.ofString "table"], [], [],
  [.ex (.lend "need_table" [(.var 0)]), .ret (.lc [1] (.nm 1) .seq [(.glb (.tup [(.str [122, 101, 114, 111]), (.str [111, 110, 101]), (.str [114, 105, 115, 101, 115]), (.str [116, 117, 114, 110, 115]), (.str [115, 117, 109, 115])]))] (some (.isN (.call "shown_not" [(.mv 0), (.mv 1)]))) (.mv 1))]⟩
def d56 : DefE := ⟨"need_many", .fn, Str.ofString "need_many", Str.ofString "need_many", (top 56), [Str.ofString "gates", Str.ofString "many"], [Str.ofString "gates", Str.ofString "many"], [], [],
  [.ex (.lend "need_gates" [(.var 0)]), .ex (.lend "check_many" [(.var 1)])]⟩
def d57 : DefE := ⟨"number_built", .fn, Str.ofString "number_built", Str.ofString "number_built", (top 57), [Str.ofString "gates", Str.ofString "many"], [Str.ofString "gates", Str.ofString "many"], [], [],
  [.ex (.lend "need_many" [(.var 0), (.var 1)]), .ret (.bi .len [(.call "built_all" [(.mv 0), (.mv 1)])])]⟩
def d59 : DefE := ⟨"of_weights", .fn, Str.ofString "of_weights", Str.ofString "of_weights", (top 59), [Str.ofString "signs", Str.ofString "inputs", Str.ofString "sign"], [Str.ofString "signs"], [], [],
  [.ite (.or (.not (.lend "is_text" [(.var 0)])) (.or (.cmp .lt (.bi .len [(.var 0)]) (.int 2)) (.not (.bi .all [(.lc [2] (.nm 2) .seq [(.mv 0)] none (.cmp .inn (.var 2) (.str [48, 49])))])))) [.never] [], .ret (.bi .join [(.str []), (.lc [1] (.nm 1) .seq [(.call "all_inputs" [(.bin .sub (.bi .len [(.var 0)]) (.int 1))])] none (.idx (.var 0) (.bi .count [(.var 1), (.str [49])])))])]⟩
def d62 : DefE := ⟨"_law_pick", .fn, Str.ofString "_law_pick", Str.ofString "_law_pick", (top 62), [Str.ofString "state", Str.ofString "many", Str.ofString "mixed", Str.ofString "cell", Str.ofString "digit"], [Str.ofString "state", Str.ofString "many"], [], [Str.ofString "state"],
  [.sput 0 2 (.bin .add (.sget 0 2) (.int 1)), .whl (.and (.cmp .eq (.sget 0 1) (.int 0)) (.snz 0)) [.set 3 (.bi .abs [(.spop 0)]), .sput 0 3 (.bin .mod (.bi .int1 [(.bin .add (.bin .add (.bin .mul (.sget 0 3) (.int 6151)) (.var 3)) (.int 5))]) (.int 2147483647)), .sput 0 1 (.ite (.cmp .ge (.var 3) (.bin .pow (.int 10) (.int 18))) (.mv 3) (.int 0))], .ite (.cmp .gt (.sget 0 1) (.int 0)) [.set 4 (.bin .mod (.bi .int1 [(.sget 0 1)]) (.var 1)), .sput 0 1 (.bin .fdiv (.sget 0 1) (.var 1)), .ret (.mv 4)] [], .set 2 (.bin .mod (.bi .int1 [(.bin .pow (.bin .add (.bin .add (.sget 0 3) (.bin .mul (.int 7907) (.sget 0 2))) (.int 104723)) (.int 5))]) (.int 2147483629)), .ret (.bin .mod (.bin .mod (.bi .int1 [(.bin .pow (.bin .add (.bin .add (.bin .mul (.var 2) (.int 48271)) (.bin .mul (.int 30011) (.sget 0 2))) (.int 31)) (.int 3))]) (.int 1000000007)) (.var 1))]⟩
def d63 : DefE := ⟨"_law_one", .fn, Str.ofString "_law_one", Str.ofString "_law_one", (top 63), [Str.ofString "state", Str.ofString "things"], [Str.ofString "state", Str.ofString "things"], [], [],
  [.ret (.idx (.var 1) (.lend "_law_pick" [(.var 0), (.bi .len [(.var 1)])]))]⟩
def d64 : DefE := ⟨"_law_mixed", .fn, Str.ofString "_law_mixed", Str.ofString "_law_mixed", (top 64), [Str.ofString "state", Str.ofString "things", Str.ofString "k", Str.ofString "left", Str.ofString "found"], [Str.ofString "state", Str.ofString "things"], [Str.ofString "found", Str.ofString "left"], [],
  [.par true true 3 4 (.bf .list [(.var 1)]) (.lst []), .for (.nm 2) .rng [(.bi .len [(.var 3)])] [.appPop 4 3 (.lend "_law_pick" [(.var 0), (.bi .len [(.var 3)])])], .ret (.mv 4)]⟩
def d65 : DefE := ⟨"_law_same", .fn, Str.ofString "_law_same", Str.ofString "_law_same", (top 65), [Str.ofString "found", Str.ofString "due", Str.ofString "key", Str.ofString "mine", Str.ofString "theirs"], [Str.ofString "found", Str.ofString "due"], [], [],
  [.ite (.isi (.var 1) ["list", "tuple"]) [.ite (.or (.cmp .ne (.isi (.var 0) ["list"]) (.isi (.var 1) ["list"])) (.cmp .ne (.isi (.var 0) ["tuple"]) (.isi (.var 1) ["tuple"]))) [.ret (.bl false)] [], .ret (.and (.cmp .eq (.bi .len [(.var 0)]) (.bi .len [(.var 1)])) (.bi .all [(.lc [3, 4] (.tp [3, 4]) .zp [(.mv 0), (.mv 1)] none (.lend "_law_same" [(.var 3), (.var 4)]))]))] [], .ite (.isi (.var 1) ["dict"]) [.ite (.or (.not (.isi (.var 0) ["dict"])) (.not (.lend "_law_same" [(.bf .list [(.var 0)]), (.bf .list [(.var 1)])]))) [.ret (.bl false)] [], .ret (.bi .all [(.lc [2] (.nm 2) .seq [(.mv 1)] none (.lend "_law_same" [(.idx (.var 0) (.var 2)), (.idx (.var 1) (.var 2))]))])] [], .ite (.isN (.var 1)) [.ret (.isN (.var 0))] [], .ite (.isi (.var 1) ["bool"]) [.ret (.and (.isi (.var 0) ["bool"]) (.cmp .eq (.var 0) (.var 1)))] [], .ite (.isi (.var 1) ["int"]) [.ret (.and (.isi (.var 0) ["int"]) (.and (.not (.isi (.var 0) ["bool"])) (.cmp .eq (.var 0) (.var 1))))] [], .ret (.and (.isi (.var 0) ["str"]) (.cmp .eq (.var 0) (.var 1)))]⟩
def d66 : DefE := ⟨"_law_free_word", .fn, Str.ofString "_law_free_word", Str.ofString "_law_free_word", (top 66), [Str.ofString "taken", Str.ofString "word", Str.ofString "k"], [Str.ofString "taken", Str.ofString "word"], [], [],
  [.for (.nm 2) .rng [(.int 600)] [.ite (.cmp .nin (.var 1) (.var 0)) [.ret (.mv 1)] [], .set 1 (.bin .add (.bin .add (.idx (.str [113, 120, 121, 122]) (.bin .mod (.var 2) (.int 4))) (.idx (.str [97, 98, 99, 100, 101, 102, 103, 104, 105, 106, 107, 108, 109, 110, 111, 112, 113, 114, 115, 116, 117, 118, 119, 120, 121, 122]) (.bin .mod (.bin .fdiv (.var 2) (.int 4)) (.int 26)))) (.idx (.str [97, 98, 99, 100, 101, 102, 103, 104, 105, 106]) (.bin .fdiv (.var 2) (.int 104))))], .ret (.mv 1)]⟩
def d67 : DefE := ⟨"_law_words", .fn, Str.ofString "_law_words", Str.ofString "_law_words", (top 67), [Str.ofString "state", Str.ofString "many", Str.ofString "k", Str.ofString "few", Str.ofString "words", Str.ofString "word", Str.ofString "more"], [Str.ofString "state", Str.ofString "many"], [Str.ofString "words"], [],
  [.par false true 3 4 (.cmp .eq (.lend "_law_pick" [(.var 0), (.int 2)]) (.int 0)) (.lst []), .for (.nm 2) .rng [(.mv 1)] [.set 5 (.ite (.var 3) (.idx (.str [97, 98]) (.lend "_law_pick" [(.var 0), (.int 2)])) (.idx (.str [97, 98, 99, 100, 101, 102, 103, 104, 105, 106, 107, 108, 109, 110, 111, 112, 113, 114, 115, 116, 117, 118, 119, 120, 121, 122]) (.lend "_law_pick" [(.var 0), (.int 26)]))), .for (.nm 6) .rng [(.lend "_law_pick" [(.var 0), (.ite (.var 3) (.int 3) (.int 8))])] [.set 5 (.bin .add (.var 5) (.ite (.var 3) (.idx (.str [97, 98, 99]) (.lend "_law_pick" [(.var 0), (.int 3)])) (.idx (.str [97, 98, 99, 100, 101, 102, 103, 104, 105, 106, 107, 108, 109, 110, 111, 112, 113, 114, 115, 116, 117, 118, 119, 120, 121, 122]) (.lend "_law_pick" [(.var 0), (.int 26)]))))], .app 4 (.lend "_law_free_word" [(.var 4), (.var 5)])], .ret (.mv 4)]⟩
def d68 : DefE := ⟨"_law_bits", .fn, Str.ofString "_law_bits", Str.ofString "_law_bits", (top 68), [Str.ofString "state", Str.ofString "many", Str.ofString "k"], [Str.ofString "state", Str.ofString "many"], [], [],
  [.ret (.bi .join [(.str []), (.lc [2] (.nm 2) .rng [(.mv 1)] none (.idx (.lst [(.str [48]), (.str [49])]) (.lend "_law_pick" [(.var 0), (.int 2)])))])]⟩
def d69 : DefE := ⟨"_law_all_signs", .fn, Str.ofString "_law_all_signs", Str.ofString "_law_all_signs", (top 69), [Str.ofString "many", Str.ofString "found", Str.ofString "k", Str.ofString "longer", Str.ofString "one"], [Str.ofString "many"], [Str.ofString "longer"], [],
  [.set 1 (.lst [(.str [])]), .for (.nm 2) .rng [(.mv 0)] [.own 3 (.lst []), .for (.nm 4) .seq [(.mv 1)] [.ext 3 (.lst [(.bin .add (.var 4) (.str [48])), (.bin .add (.var 4) (.str [49]))])], .set 1 (.mv 3)], .ret (.mv 1)]⟩
def d70 : DefE := ⟨"_law_apply", .fn, Str.ofString "_law_apply", Str.ofString "_law_apply", (top 70), [Str.ofString "table", Str.ofString "rows", Str.ofString "found", Str.ofString "at", Str.ofString "row"], [Str.ofString "table", Str.ofString "rows"], [], [],
  [.set 2 (.str []), .for (.nm 3) .rng [(.bi .len [(.idx (.var 1) (.int 0))])] [.set 2 (.bin .add (.var 2) (.idx (.var 0) (.bi .int2 [(.bi .join [(.str []), (.lc [4] (.nm 4) .seq [(.mv 1)] none (.idx (.var 4) (.var 3)))]), (.int 2)])))], .ret (.mv 2)]⟩
def d71 : DefE := ⟨"_law_input_rows", .fn, Str.ofString "_law_input_rows", Str.ofString "_law_input_rows", (top 71), [Str.ofString "many", Str.ofString "cells", Str.ofString "k", Str.ofString "cell"], [Str.ofString "many"], [], [],
  [.set 1 (.call "_law_all_signs" [(.mv 0)]), .ret (.lc [2] (.nm 2) .rng [(.mv 0)] none (.bi .join [(.str []), (.lc [3] (.nm 3) .seq [(.mv 1)] none (.idx (.var 3) (.var 2)))]))]⟩
def d72 : DefE := ⟨"_law_rises", .fn, Str.ofString "_law_rises", Str.ofString "_law_rises", (top 72), [Str.ofString "table", Str.ofString "cell", Str.ofString "k"], [Str.ofString "table"], [], [],
  [.for (.nm 1) .seq [(.call "_law_all_signs" [(.int 3)])] [.for (.nm 2) .rng [(.int 3)] [.ite (.and (.cmp .eq (.idx (.var 0) (.bi .int2 [(.var 1), (.int 2)])) (.str [49])) (.cmp .eq (.idx (.var 0) (.bi .int2 [(.bin .add (.bin .add (.sl (.var 1) none (some (.var 2))) (.str [49])) (.sl (.var 1) (some (.bin .add (.var 2) (.int 1))) none)), (.int 2)])) (.str [48]))) [.ret (.bl false)] []]], .ret (.bl true)]⟩
def d73 : DefE := ⟨"_law_sum_of", .fn, Str.ofString "_law_sum_of", Str.ofString "_law_sum_of", (top 73), [Str.ofString "cell", Str.ofString "k", Str.ofString "rows", Str.ofString "found"], [Str.ofString "cell"], [], [],
  [.par false false 2 3 (.call "_law_input_rows" [(.int 3)]) (.str [48, 48, 48, 48, 48, 48, 48, 48]), .for (.nm 1) .rng [(.int 3)] [.set 3 (.ite (.cmp .eq (.idx (.var 0) (.var 1)) (.str [49])) (.lend "_law_apply" [(.str [48, 49, 49, 48]), (.lst [(.mv 3), (.idx (.var 2) (.var 1))])]) (.mv 3))], .ret (.mv 3)]⟩
def d74 : DefE := ⟨"_law_all_of", .fn, Str.ofString "_law_all_of", Str.ofString "_law_all_of", (top 74), [Str.ofString "cell", Str.ofString "k", Str.ofString "rows", Str.ofString "found"], [Str.ofString "cell"], [], [],
  [.par false false 2 3 (.call "_law_input_rows" [(.int 3)]) (.str [49, 49, 49, 49, 49, 49, 49, 49]), .for (.nm 1) .rng [(.int 3)] [.set 3 (.ite (.cmp .eq (.idx (.var 0) (.var 1)) (.str [49])) (.lend "_law_apply" [(.str [48, 48, 48, 49]), (.lst [(.mv 3), (.idx (.var 2) (.var 1))])]) (.mv 3))], .ret (.mv 3)]⟩
def d75 : DefE := ⟨"_law_fits", .fn, Str.ofString "_law_fits", Str.ofString "_law_fits", (top 75), [Str.ofString "kind", Str.ofString "table", Str.ofString "cells", Str.ofString "cell", Str.ofString "k"], [Str.ofString "kind", Str.ofString "table"], [], [],
  [.set 2 (.call "_law_all_signs" [(.int 3)]), .ite (.cmp .eq (.var 0) (.int 0)) [.ret (.bl true)] [], .ite (.cmp .eq (.var 0) (.int 1)) [.ret (.and (.lend "_law_rises" [(.var 1)]) (.and (.cmp .inn (.str [48]) (.var 1)) (.cmp .inn (.str [49]) (.var 1))))] [], .ite (.cmp .eq (.var 0) (.int 2)) [.ret (.cmp .inn (.var 1) (.lc [3] (.nm 3) .seq [(.mv 2)] none (.lend "_law_sum_of" [(.var 3)])))] [], .ite (.cmp .eq (.var 0) (.int 3)) [.ret (.bi .all [(.lc [4] (.nm 4) .rng [(.int 8)] none (.cmp .ne (.idx (.var 1) (.var 4)) (.idx (.var 1) (.bin .sub (.int 7) (.var 4)))))])] [], .ite (.cmp .eq (.var 0) (.int 4)) [.ret (.cmp .inn (.var 1) (.lc [3] (.nm 3) .seq [(.tup [(.str [49, 48, 48]), (.str [48, 49, 48]), (.str [48, 48, 49]), (.str [49, 49, 49])])] none (.lend "_law_sum_of" [(.var 3)])))] [], .ret (.cmp .inn (.var 1) (.lc [3] (.nm 3) .seq [(.sl (.var 2) (some (.int 1)) none)] none (.lend "_law_all_of" [(.var 3)])))]⟩
def L : List DefE := [d3, d4, d5, d6, d7, d8, d19, d20, d21, d22, d23, d24, d25, d26, d27, d28, d29, d30, d32, d33_0, d33_1, d34, d35, d40, d41, d42, d43, d46, d47, d48, d49, d50, d51, d52, d53, d54, d56, d57, d59, d62, d63, d64, d65, d66, d67, d68, d69, d70, d71, d72, d73, d74, d75]
def TT : Tb := tabOf L [("closed_rows", 2)] ["is_integer", "is_list", "is_row", "is_text", "is_letters", "is_word", "are_signs", "doubled", "count_inputs", "is_table", "need_table", "check_many", "inputs_of", "at_inputs", "signs_of", "projection", "flipped", "wrong_gates", "need_gates", "is_built", "can_build", "check_kind", "turned_about", "is_odd", "number_built", "need_many", "of_weights", "_law_pick", "_law_same", "_law_free_word", "_law_bits", "_law_apply", "_law_rises", "_law_sum_of", "_law_all_of", "_law_fits"] [(nm "LETTERS", .str [97, 98, 99, 100, 101, 102, 103, 104, 105, 106, 107, 108, 109, 110, 111, 112, 113, 114, 115, 116, 117, 118, 119, 120, 121, 122]), (nm "KINDS", .tup [.str [122, 101, 114, 111], .str [111, 110, 101], .str [114, 105, 115, 101, 115], .str [116, 117, 114, 110, 115], .str [115, 117, 109, 115]])] [(nm "Gates", "Gates")] [(nm "_pairs", "_pairs")] []
theorem td3 : trDef TT 30 d3.Ns d3.ow d3.stn d3.st = some d3.body := by kernel_rfl
theorem sd3 : FnScope d3.Ns d3.ps (defScope d3.st) := ⟨rfl, rfl, rfl, by decide +kernel, rfl, by decide +kernel, by decide +kernel⟩
theorem td4 : trDef TT 30 d4.Ns d4.ow d4.stn d4.st = some d4.body := by kernel_rfl
theorem sd4 : FnScope d4.Ns d4.ps (defScope d4.st) := ⟨rfl, rfl, rfl, by decide +kernel, rfl, by decide +kernel, by decide +kernel⟩
theorem td5 : trDef TT 30 d5.Ns d5.ow d5.stn d5.st = some d5.body := by kernel_rfl
theorem sd5 : FnScope d5.Ns d5.ps (defScope d5.st) := ⟨rfl, rfl, rfl, by decide +kernel, rfl, by decide +kernel, by decide +kernel⟩
theorem td6 : trDef TT 30 d6.Ns d6.ow d6.stn d6.st = some d6.body := by kernel_rfl
theorem sd6 : FnScope d6.Ns d6.ps (defScope d6.st) := ⟨rfl, rfl, rfl, by decide +kernel, rfl, by decide +kernel, by decide +kernel⟩
theorem td7 : trDef TT 30 d7.Ns d7.ow d7.stn d7.st = some d7.body := by kernel_rfl
theorem sd7 : FnScope d7.Ns d7.ps (defScope d7.st) := ⟨rfl, rfl, rfl, by decide +kernel, rfl, by decide +kernel, by decide +kernel⟩
theorem td8 : trDef TT 30 d8.Ns d8.ow d8.stn d8.st = some d8.body := by kernel_rfl
theorem sd8 : FnScope d8.Ns d8.ps (defScope d8.st) := ⟨rfl, rfl, rfl, by decide +kernel, rfl, by decide +kernel, by decide +kernel⟩
theorem td19 : trDef TT 30 d19.Ns d19.ow d19.stn d19.st = some d19.body := by kernel_rfl
theorem sd19 : FnScope d19.Ns d19.ps (defScope d19.st) := ⟨rfl, rfl, rfl, by decide +kernel, rfl, by decide +kernel, by decide +kernel⟩
theorem td20 : trDef TT 30 d20.Ns d20.ow d20.stn d20.st = some d20.body := by kernel_rfl
theorem sd20 : FnScope d20.Ns d20.ps (defScope d20.st) := ⟨rfl, rfl, rfl, by decide +kernel, rfl, by decide +kernel, by decide +kernel⟩
theorem td21 : trDef TT 30 d21.Ns d21.ow d21.stn d21.st = some d21.body := by kernel_rfl
theorem sd21 : FnScope d21.Ns d21.ps (defScope d21.st) := ⟨rfl, rfl, rfl, by decide +kernel, rfl, by decide +kernel, by decide +kernel⟩
theorem td22 : trDef TT 30 d22.Ns d22.ow d22.stn d22.st = some d22.body := by kernel_rfl
theorem sd22 : FnScope d22.Ns d22.ps (defScope d22.st) := ⟨rfl, rfl, rfl, by decide +kernel, rfl, by decide +kernel, by decide +kernel⟩
theorem td23 : trDef TT 30 d23.Ns d23.ow d23.stn d23.st = some d23.body := by kernel_rfl
theorem sd23 : FnScope d23.Ns d23.ps (defScope d23.st) := ⟨rfl, rfl, rfl, by decide +kernel, rfl, by decide +kernel, by decide +kernel⟩
theorem td24 : trDef TT 30 d24.Ns d24.ow d24.stn d24.st = some d24.body := by kernel_rfl
theorem sd24 : FnScope d24.Ns d24.ps (defScope d24.st) := ⟨rfl, rfl, rfl, by decide +kernel, rfl, by decide +kernel, by decide +kernel⟩
theorem td25 : trDef TT 30 d25.Ns d25.ow d25.stn d25.st = some d25.body := by kernel_rfl
theorem sd25 : FnScope d25.Ns d25.ps (defScope d25.st) := ⟨rfl, rfl, rfl, by decide +kernel, rfl, by decide +kernel, by decide +kernel⟩
theorem td26 : trDef TT 30 d26.Ns d26.ow d26.stn d26.st = some d26.body := by kernel_rfl
theorem sd26 : FnScope d26.Ns d26.ps (defScope d26.st) := ⟨rfl, rfl, rfl, by decide +kernel, rfl, by decide +kernel, by decide +kernel⟩
theorem td27 : trDef TT 30 d27.Ns d27.ow d27.stn d27.st = some d27.body := by kernel_rfl
theorem sd27 : FnScope d27.Ns d27.ps (defScope d27.st) := ⟨rfl, rfl, rfl, by decide +kernel, rfl, by decide +kernel, by decide +kernel⟩
theorem td28 : trDef TT 30 d28.Ns d28.ow d28.stn d28.st = some d28.body := by kernel_rfl
theorem sd28 : FnScope d28.Ns d28.ps (defScope d28.st) := ⟨rfl, rfl, rfl, by decide +kernel, rfl, by decide +kernel, by decide +kernel⟩
theorem td29 : trDef TT 30 d29.Ns d29.ow d29.stn d29.st = some d29.body := by kernel_rfl
theorem sd29 : FnScope d29.Ns d29.ps (defScope d29.st) := ⟨rfl, rfl, rfl, by decide +kernel, rfl, by decide +kernel, by decide +kernel⟩
theorem td30 : trDef TT 30 d30.Ns d30.ow d30.stn d30.st = some d30.body := by kernel_rfl
theorem sd30 : FnScope d30.Ns d30.ps (defScope d30.st) := ⟨rfl, rfl, rfl, by decide +kernel, rfl, by decide +kernel, by decide +kernel⟩
theorem td32 : trDef TT 30 d32.Ns d32.ow d32.stn d32.st = some d32.body := by kernel_rfl
theorem sd32 : FnScope d32.Ns d32.ps (defScope d32.st) := ⟨rfl, rfl, rfl, by decide +kernel, rfl, by decide +kernel, by decide +kernel⟩
theorem td33_0 : trDef TT 30 d33_0.Ns d33_0.ow d33_0.stn d33_0.st = some d33_0.body := by kernel_rfl
theorem sd33_0 : FnScope d33_0.Ns d33_0.ps (defScope d33_0.st) := ⟨rfl, rfl, rfl, by decide +kernel, rfl, by decide +kernel, by decide +kernel⟩
theorem td33_1 : trDef TT 30 d33_1.Ns d33_1.ow d33_1.stn d33_1.st = some d33_1.body := by kernel_rfl
theorem sd33_1 : FnScope d33_1.Ns d33_1.ps (defScope d33_1.st) := ⟨rfl, rfl, rfl, by decide +kernel, rfl, by decide +kernel, by decide +kernel⟩
theorem td34 : trDef TT 30 d34.Ns d34.ow d34.stn d34.st = some d34.body := by kernel_rfl
theorem sd34 : FnScope d34.Ns d34.ps (defScope d34.st) := ⟨rfl, rfl, rfl, by decide +kernel, rfl, by decide +kernel, by decide +kernel⟩
theorem td35 : trDef TT 30 d35.Ns d35.ow d35.stn d35.st = some d35.body := by kernel_rfl
theorem sd35 : FnScope d35.Ns d35.ps (defScope d35.st) := ⟨rfl, rfl, rfl, by decide +kernel, rfl, by decide +kernel, by decide +kernel⟩
theorem td40 : trDef TT 30 d40.Ns d40.ow d40.stn d40.st = some d40.body := by kernel_rfl
theorem sd40 : FnScope d40.Ns d40.ps (defScope d40.st) := ⟨rfl, rfl, rfl, by decide +kernel, rfl, by decide +kernel, by decide +kernel⟩
theorem td41 : trDef TT 30 d41.Ns d41.ow d41.stn d41.st = some d41.body := by kernel_rfl
theorem sd41 : FnScope d41.Ns d41.ps (defScope d41.st) := ⟨rfl, rfl, rfl, by decide +kernel, rfl, by decide +kernel, by decide +kernel⟩
theorem td42 : trDef TT 30 d42.Ns d42.ow d42.stn d42.st = some d42.body := by kernel_rfl
theorem sd42 : FnScope d42.Ns d42.ps (defScope d42.st) := ⟨rfl, rfl, rfl, by decide +kernel, rfl, by decide +kernel, by decide +kernel⟩
theorem td43 : trDef TT 30 d43.Ns d43.ow d43.stn d43.st = some d43.body := by kernel_rfl
theorem sd43 : FnScope d43.Ns d43.ps (defScope d43.st) := ⟨rfl, rfl, rfl, by decide +kernel, rfl, by decide +kernel, by decide +kernel⟩
theorem td46 : trDef TT 30 d46.Ns d46.ow d46.stn d46.st = some d46.body := by kernel_rfl
theorem sd46 : FnScope d46.Ns d46.ps (defScope d46.st) := ⟨rfl, rfl, rfl, by decide +kernel, rfl, by decide +kernel, by decide +kernel⟩
theorem td47 : trDef TT 30 d47.Ns d47.ow d47.stn d47.st = some d47.body := by kernel_rfl
theorem sd47 : FnScope d47.Ns d47.ps (defScope d47.st) := ⟨rfl, rfl, rfl, by decide +kernel, rfl, by decide +kernel, by decide +kernel⟩
theorem td48 : trDef TT 30 d48.Ns d48.ow d48.stn d48.st = some d48.body := by kernel_rfl
theorem sd48 : FnScope d48.Ns d48.ps (defScope d48.st) := ⟨rfl, rfl, rfl, by decide +kernel, rfl, by decide +kernel, by decide +kernel⟩
theorem td49 : trDef TT 30 d49.Ns d49.ow d49.stn d49.st = some d49.body := by kernel_rfl
theorem sd49 : FnScope d49.Ns d49.ps (defScope d49.st) := ⟨rfl, rfl, rfl, by decide +kernel, rfl, by decide +kernel, by decide +kernel⟩
theorem td50 : trDef TT 30 d50.Ns d50.ow d50.stn d50.st = some d50.body := by kernel_rfl
theorem sd50 : FnScope d50.Ns d50.ps (defScope d50.st) := ⟨rfl, rfl, rfl, by decide +kernel, rfl, by decide +kernel, by decide +kernel⟩
theorem td51 : trDef TT 30 d51.Ns d51.ow d51.stn d51.st = some d51.body := by kernel_rfl
theorem sd51 : FnScope d51.Ns d51.ps (defScope d51.st) := ⟨rfl, rfl, rfl, by decide +kernel, rfl, by decide +kernel, by decide +kernel⟩
theorem td52 : trDef TT 30 d52.Ns d52.ow d52.stn d52.st = some d52.body := by kernel_rfl
theorem sd52 : FnScope d52.Ns d52.ps (defScope d52.st) := ⟨rfl, rfl, rfl, by decide +kernel, rfl, by decide +kernel, by decide +kernel⟩
theorem td53 : trDef TT 30 d53.Ns d53.ow d53.stn d53.st = some d53.body := by kernel_rfl
theorem sd53 : FnScope d53.Ns d53.ps (defScope d53.st) := ⟨rfl, rfl, rfl, by decide +kernel, rfl, by decide +kernel, by decide +kernel⟩
theorem td54 : trDef TT 30 d54.Ns d54.ow d54.stn d54.st = some d54.body := by kernel_rfl
theorem sd54 : FnScope d54.Ns d54.ps (defScope d54.st) := ⟨rfl, rfl, rfl, by decide +kernel, rfl, by decide +kernel, by decide +kernel⟩
theorem td56 : trDef TT 30 d56.Ns d56.ow d56.stn d56.st = some d56.body := by kernel_rfl
theorem sd56 : FnScope d56.Ns d56.ps (defScope d56.st) := ⟨rfl, rfl, rfl, by decide +kernel, rfl, by decide +kernel, by decide +kernel⟩
theorem td57 : trDef TT 30 d57.Ns d57.ow d57.stn d57.st = some d57.body := by kernel_rfl
theorem sd57 : FnScope d57.Ns d57.ps (defScope d57.st) := ⟨rfl, rfl, rfl, by decide +kernel, rfl, by decide +kernel, by decide +kernel⟩
theorem td59 : trDef TT 30 d59.Ns d59.ow d59.stn d59.st = some d59.body := by kernel_rfl
theorem sd59 : FnScope d59.Ns d59.ps (defScope d59.st) := ⟨rfl, rfl, rfl, by decide +kernel, rfl, by decide +kernel, by decide +kernel⟩
theorem td62 : trDef TT 30 d62.Ns d62.ow d62.stn d62.st = some d62.body := by kernel_rfl
theorem sd62 : FnScope d62.Ns d62.ps (defScope d62.st) := ⟨rfl, rfl, rfl, by decide +kernel, rfl, by decide +kernel, by decide +kernel⟩
theorem td63 : trDef TT 30 d63.Ns d63.ow d63.stn d63.st = some d63.body := by kernel_rfl
theorem sd63 : FnScope d63.Ns d63.ps (defScope d63.st) := ⟨rfl, rfl, rfl, by decide +kernel, rfl, by decide +kernel, by decide +kernel⟩
theorem td64 : trDef TT 30 d64.Ns d64.ow d64.stn d64.st = some d64.body := by kernel_rfl
theorem sd64 : FnScope d64.Ns d64.ps (defScope d64.st) := ⟨rfl, rfl, rfl, by decide +kernel, rfl, by decide +kernel, by decide +kernel⟩
theorem td65 : trDef TT 30 d65.Ns d65.ow d65.stn d65.st = some d65.body := by kernel_rfl
theorem sd65 : FnScope d65.Ns d65.ps (defScope d65.st) := ⟨rfl, rfl, rfl, by decide +kernel, rfl, by decide +kernel, by decide +kernel⟩
theorem td66 : trDef TT 30 d66.Ns d66.ow d66.stn d66.st = some d66.body := by kernel_rfl
theorem sd66 : FnScope d66.Ns d66.ps (defScope d66.st) := ⟨rfl, rfl, rfl, by decide +kernel, rfl, by decide +kernel, by decide +kernel⟩
theorem td67 : trDef TT 30 d67.Ns d67.ow d67.stn d67.st = some d67.body := by kernel_rfl
theorem sd67 : FnScope d67.Ns d67.ps (defScope d67.st) := ⟨rfl, rfl, rfl, by decide +kernel, rfl, by decide +kernel, by decide +kernel⟩
theorem td68 : trDef TT 30 d68.Ns d68.ow d68.stn d68.st = some d68.body := by kernel_rfl
theorem sd68 : FnScope d68.Ns d68.ps (defScope d68.st) := ⟨rfl, rfl, rfl, by decide +kernel, rfl, by decide +kernel, by decide +kernel⟩
theorem td69 : trDef TT 30 d69.Ns d69.ow d69.stn d69.st = some d69.body := by kernel_rfl
theorem sd69 : FnScope d69.Ns d69.ps (defScope d69.st) := ⟨rfl, rfl, rfl, by decide +kernel, rfl, by decide +kernel, by decide +kernel⟩
theorem td70 : trDef TT 30 d70.Ns d70.ow d70.stn d70.st = some d70.body := by kernel_rfl
theorem sd70 : FnScope d70.Ns d70.ps (defScope d70.st) := ⟨rfl, rfl, rfl, by decide +kernel, rfl, by decide +kernel, by decide +kernel⟩
theorem td71 : trDef TT 30 d71.Ns d71.ow d71.stn d71.st = some d71.body := by kernel_rfl
theorem sd71 : FnScope d71.Ns d71.ps (defScope d71.st) := ⟨rfl, rfl, rfl, by decide +kernel, rfl, by decide +kernel, by decide +kernel⟩
theorem td72 : trDef TT 30 d72.Ns d72.ow d72.stn d72.st = some d72.body := by kernel_rfl
theorem sd72 : FnScope d72.Ns d72.ps (defScope d72.st) := ⟨rfl, rfl, rfl, by decide +kernel, rfl, by decide +kernel, by decide +kernel⟩
theorem td73 : trDef TT 30 d73.Ns d73.ow d73.stn d73.st = some d73.body := by kernel_rfl
theorem sd73 : FnScope d73.Ns d73.ps (defScope d73.st) := ⟨rfl, rfl, rfl, by decide +kernel, rfl, by decide +kernel, by decide +kernel⟩
theorem td74 : trDef TT 30 d74.Ns d74.ow d74.stn d74.st = some d74.body := by kernel_rfl
theorem sd74 : FnScope d74.Ns d74.ps (defScope d74.st) := ⟨rfl, rfl, rfl, by decide +kernel, rfl, by decide +kernel, by decide +kernel⟩
theorem td75 : trDef TT 30 d75.Ns d75.ow d75.stn d75.st = some d75.body := by kernel_rfl
theorem sd75 : FnScope d75.Ns d75.ps (defScope d75.st) := ⟨rfl, rfl, rfl, by decide +kernel, rfl, by decide +kernel, by decide +kernel⟩
theorem txt : textOk TT 30 L := by
  intro e he
  simp only [L, List.mem_cons, List.not_mem_nil, or_false] at he
  rcases he with rfl | rfl | rfl | rfl | rfl | rfl | rfl | rfl | rfl | rfl | rfl | rfl | rfl | rfl | rfl | rfl | rfl | rfl | rfl | rfl | rfl | rfl | rfl | rfl | rfl | rfl | rfl | rfl | rfl | rfl | rfl | rfl | rfl | rfl | rfl | rfl | rfl | rfl | rfl | rfl | rfl | rfl | rfl | rfl | rfl | rfl | rfl | rfl | rfl | rfl | rfl | rfl | rfl
  · exact ⟨td3, sd3, by decide +kernel⟩
  · exact ⟨td4, sd4, by decide +kernel⟩
  · exact ⟨td5, sd5, by decide +kernel⟩
  · exact ⟨td6, sd6, by decide +kernel⟩
  · exact ⟨td7, sd7, by decide +kernel⟩
  · exact ⟨td8, sd8, by decide +kernel⟩
  · exact ⟨td19, sd19, by decide +kernel⟩
  · exact ⟨td20, sd20, by decide +kernel⟩
  · exact ⟨td21, sd21, by decide +kernel⟩
  · exact ⟨td22, sd22, by decide +kernel⟩
  · exact ⟨td23, sd23, by decide +kernel⟩
  · exact ⟨td24, sd24, by decide +kernel⟩
  · exact ⟨td25, sd25, by decide +kernel⟩
  · exact ⟨td26, sd26, by decide +kernel⟩
  · exact ⟨td27, sd27, by decide +kernel⟩
  · exact ⟨td28, sd28, by decide +kernel⟩
  · exact ⟨td29, sd29, by decide +kernel⟩
  · exact ⟨td30, sd30, by decide +kernel⟩
  · exact ⟨td32, sd32, by decide +kernel⟩
  · exact ⟨td33_0, sd33_0, by decide +kernel⟩
  · exact ⟨td33_1, sd33_1, by decide +kernel⟩
  · exact ⟨td34, sd34, by decide +kernel⟩
  · exact ⟨td35, sd35, by decide +kernel⟩
  · exact ⟨td40, sd40, by decide +kernel⟩
  · exact ⟨td41, sd41, by decide +kernel⟩
  · exact ⟨td42, sd42, by decide +kernel⟩
  · exact ⟨td43, sd43, by decide +kernel⟩
  · exact ⟨td46, sd46, by decide +kernel⟩
  · exact ⟨td47, sd47, by decide +kernel⟩
  · exact ⟨td48, sd48, by decide +kernel⟩
  · exact ⟨td49, sd49, by decide +kernel⟩
  · exact ⟨td50, sd50, by decide +kernel⟩
  · exact ⟨td51, sd51, by decide +kernel⟩
  · exact ⟨td52, sd52, by decide +kernel⟩
  · exact ⟨td53, sd53, by decide +kernel⟩
  · exact ⟨td54, sd54, by decide +kernel⟩
  · exact ⟨td56, sd56, by decide +kernel⟩
  · exact ⟨td57, sd57, by decide +kernel⟩
  · exact ⟨td59, sd59, by decide +kernel⟩
  · exact ⟨td62, sd62, by decide +kernel⟩
  · exact ⟨td63, sd63, by decide +kernel⟩
  · exact ⟨td64, sd64, by decide +kernel⟩
  · exact ⟨td65, sd65, by decide +kernel⟩
  · exact ⟨td66, sd66, by decide +kernel⟩
  · exact ⟨td67, sd67, by decide +kernel⟩
  · exact ⟨td68, sd68, by decide +kernel⟩
  · exact ⟨td69, sd69, by decide +kernel⟩
  · exact ⟨td70, sd70, by decide +kernel⟩
  · exact ⟨td71, sd71, by decide +kernel⟩
  · exact ⟨td72, sd72, by decide +kernel⟩
  · exact ⟨td73, sd73, by decide +kernel⟩
  · exact ⟨td74, sd74, by decide +kernel⟩
  · exact ⟨td75, sd75, by decide +kernel⟩
theorem keys : (L.map DefE.key).Nodup := by decide +kernel
def b_law : List Ev.S := [.set 2 (.lst [(.lst [(.str [49, 49, 49, 48])]), (.lst [(.str [48, 48, 48, 49]), (.str [48, 49, 49, 49])]), (.lst [(.str [48, 49, 49, 48])]), (.lst [(.str [48, 48, 48, 49, 48, 49, 49, 49]), (.str [49, 48])]), (.lst [(.str [48, 49, 49, 48, 49, 48, 48, 49])]), (.lst [(.str [48, 48, 48, 49])])]), .set 3 (.lend "_law_pick" [(.var 1), (.int 6)]), .set 4 (.call "Gates.__init__" [(.call "_law_mixed" [(.mv 1), (.lzip (.call "_law_words" [(.mv 1), (.int 2)]) (.idx (.var 2) (.var 3)))])]), .ite (.not (.lend "_law_same" [(.lend "number_built" [(.var 4), (.int 3)]), (.idx (.lst [(.int 256), (.int 18), (.int 8), (.int 16), (.int 4), (.int 7)]) (.var 3))])) [.ret (.bl false)] [], .for (.nm 5) .rng [(.int 3)] [.set 6 (.ite (.cmp .gt (.var 5) (.int 0)) (.lend "_law_bits" [(.var 1), (.int 8)]) (.call "_law_one" [(.mv 1), (.lst [(.str [48, 48, 48, 49, 48, 49, 49, 49]), (.str [48, 49, 49, 48, 49, 48, 48, 49]), (.str [48, 48, 48, 48, 48, 48, 48, 49]), (.str [48, 49, 49, 49, 49, 49, 49, 49]), (.str [49, 48, 48, 49, 48, 49, 49, 48])])])), .ite (.not (.lend "_law_same" [(.lend "can_build" [(.var 4), (.var 6)]), (.lend "_law_fits" [(.var 3), (.var 6)])])) [.ret (.bl false)] []], .for (.nm 5) .rng [(.int 4)] [.set 7 (.lend "_law_bits" [(.var 1), (.int 5)]), .set 6 (.lend "of_weights" [(.var 7)]), .set 8 (.lst [(.cmp .eq (.idx (.var 7) (.int 0)) (.str [48])), (.cmp .eq (.idx (.var 7) (.int 4)) (.str [49])), (.cmp .nin (.str [49, 48]) (.var 7)), (.bi .all [(.lc [10] (.nm 10) .rng [(.int 5)] none (.cmp .ne (.idx (.var 7) (.var 10)) (.idx (.var 7) (.bin .sub (.int 4) (.var 10)))))]), (.cmp .inn (.var 7) (.tup [(.str [48, 48, 48, 48, 48]), (.str [49, 49, 49, 49, 49]), (.str [48, 49, 48, 49, 48]), (.str [49, 48, 49, 48, 49])]))]), .set 9 (.lst [(.str [122, 101, 114, 111]), (.str [111, 110, 101]), (.str [114, 105, 115, 101, 115]), (.str [116, 117, 114, 110, 115]), (.str [115, 117, 109, 115])]), .ite (.or (.not (.lend "_law_same" [(.call "kinds_of" [(.mv 6)]), (.lc [10] (.nm 10) .rng [(.int 5)] (some (.idx (.var 8) (.var 10))) (.idx (.var 9) (.var 10)))])) (.cmp .ne (.lend "inputs_of" [(.var 6)]) (.int 4))) [.ret (.bl false)] [], .ite (.not (.lend "_law_same" [(.lc [3] (.nm 3) .seq [(.mv 9)] none (.isN (.call "why_not" [(.mv 6), (.mv 3)]))), (.var 8)])) [.ret (.bl false)] []], .ret (.bl true)]
theorem tb_law : (trLs (trS TT 30 30) ⟨⟨[Str.ofString "script", Str.ofString "state", Str.ofString "known", Str.ofString "kind", Str.ofString "gates", Str.ofString "k", Str.ofString "table", Str.ofString "signs", Str.ofString "due", Str.ofString "kinds", Str.ofString "j"], defScope (top 76), fun _ => true, []⟩, []⟩ ((defBody (top 76)).drop 1)) = some b_law := by kernel_rfl
end K92
/-! K92L1 -/
namespace K92
open Ev Mx EvBin
noncomputable def Pc : Pr := fun f => if f = "closed_rows" then some closedF else none
abbrev Gl' : String → Option Fn := defOf L
theorem lib : Lib Pc Gl' := by
  refine ⟨fun q hq => ?_, rfl⟩
  simp only [libL, List.mem_cons, List.not_mem_nil, or_false] at hq
  rcases hq with rfl | rfl | rfl | rfl | rfl | rfl | rfl | rfl | rfl | rfl | rfl | rfl | rfl | rfl | rfl | rfl | rfl | rfl | rfl | rfl | rfl | rfl | rfl | rfl | rfl | rfl | rfl | rfl | rfl | rfl | rfl | rfl | rfl | rfl | rfl | rfl
  all_goals exact ⟨by kernel_rfl, by kernel_rfl⟩
def bad : List String := ["closed_rows", "built_all", "is_built", "can_build", "number_built", "_law_pick", "_law_one", "_law_mixed", "_law_words", "_law_bits"]
def pu (f : String) : Bool := !bad.contains f
theorem pure_all : L.all (fun e => !pu e.key || okL pu false e.body) = true := by decide +kernel
theorem defOf_in {L : List DefE} {f : String} {fn : Fn} (h : defOf L f = some fn) : ∃ e ∈ L, e.key = f ∧ e.fn = fn := by
  unfold defOf at h
  obtain ⟨e, h1, h2⟩ := Option.map_eq_some_iff.mp h
  exact ⟨e, List.mem_of_find?_eq_some h1, by simpa using List.find?_some h1, h2⟩
theorem sim : SimG RelS.pure pu Pc Pc Gl' Gl' := by
  refine simPure (fun f hf => ?_) (fun f hf fn hfn => ?_)
  · unfold Pc
    rw [if_neg]
    rintro rfl
    revert hf; decide +kernel
  · obtain ⟨e, he, rfl, rfl⟩ := defOf_in hfn
    have := List.all_eq_true.mp pure_all e he
    rw [hf] at this
    have h2 : okL pu false e.body = true := by simpa using this
    exact h2
def st0 : PSt := ⟨[], 0, 0, 29, []⟩
noncomputable abbrev cN (n : Nat) : Cl := call 1000 Pc Gl' n
def maskK (k : Nat) : Nat := [mask0, mask1, mask2, mask3, mask4, mask5].getD k 0
def isB (r : Option (D × PSt)) (b : Bool) : Bool := match r with | some (.bl c, _) => c == b | _ => false
theorem isB_of {r : Option (D × PSt)} {b : Bool} (h : isB r b = true) : ∃ st, r = some (.bl b, st) := by
  unfold isB at h
  split at h
  · rename_i c s
    exact ⟨s, by rw [beq_iff_eq] at h; rw [h]⟩
  · cases h
theorem fit1 : (List.range 256).all (fun x => isB (cN 20 "_law_fits" [.int 1, .str (sig 8 x)] st0) (Nat.testBit mask1 x)) = true := by decide +kernel
theorem fit3 : (List.range 256).all (fun x => isB (cN 20 "_law_fits" [.int 3, .str (sig 8 x)] st0) (Nat.testBit mask3 x)) = true := by decide +kernel
end K92
/-! K92L2 -/
namespace K92
open Ev Mx EvBin
def L2b : List Ev.S := [.set 6 (.lend "of_weights" [(.var 7)]), .set 8 (.lst [(.cmp .eq (.idx (.var 7) (.int 0)) (.str [48])), (.cmp .eq (.idx (.var 7) (.int 4)) (.str [49])), (.cmp .nin (.str [49, 48]) (.var 7)), (.bi .all [(.lc [10] (.nm 10) .rng [(.int 5)] none (.cmp .ne (.idx (.var 7) (.var 10)) (.idx (.var 7) (.bin .sub (.int 4) (.var 10)))))]), (.cmp .inn (.var 7) (.tup [(.str [48, 48, 48, 48, 48]), (.str [49, 49, 49, 49, 49]), (.str [48, 49, 48, 49, 48]), (.str [49, 48, 49, 48, 49])]))]), .set 9 (.lst [(.str [122, 101, 114, 111]), (.str [111, 110, 101]), (.str [114, 105, 115, 101, 115]), (.str [116, 117, 114, 110, 115]), (.str [115, 117, 109, 115])]), .ite (.or (.not (.lend "_law_same" [(.call "kinds_of" [(.mv 6)]), (.lc [10] (.nm 10) .rng [(.int 5)] (some (.idx (.var 8) (.var 10))) (.idx (.var 9) (.var 10)))])) (.cmp .ne (.lend "inputs_of" [(.var 6)]) (.int 4))) [.ret (.bl false)] [], .ite (.not (.lend "_law_same" [(.lc [3] (.nm 3) .seq [(.mv 9)] none (.isN (.call "why_not" [(.mv 6), (.mv 3)]))), (.var 8)])) [.ret (.bl false)] []]
theorem b3_0 (s0 s1 s2 s3 s4 s5 s6 s8 s9 s10 : Slot) : exL (cN 20) 1000 L2b [s0, s1, s2, s3, s4, s5, s6, some (false, .str (sig 5 0)), s8, s9, s10] st0 = some (.nx, [s0, s1, s2, s3, s4, s5, some (false, .str [48, 48, 48, 48, 48, 48, 48, 48, 48, 48, 48, 48, 48, 48, 48, 48]), some (false, .str (sig 5 0)), some (false, .lst [.bl true, .bl false, .bl true, .bl false, .bl true]), some (false, .lst [.str [122, 101, 114, 111], .str [111, 110, 101], .str [114, 105, 115, 101, 115], .str [116, 117, 114, 110, 115], .str [115, 117, 109, 115]]), s10], st0) := by kernel_rfl
theorem b3_1 (s0 s1 s2 s3 s4 s5 s6 s8 s9 s10 : Slot) : exL (cN 20) 1000 L2b [s0, s1, s2, s3, s4, s5, s6, some (false, .str (sig 5 1)), s8, s9, s10] st0 = some (.nx, [s0, s1, s2, s3, s4, s5, some (false, .str [48, 48, 48, 48, 48, 48, 48, 48, 48, 48, 48, 48, 48, 48, 48, 49]), some (false, .str (sig 5 1)), some (false, .lst [.bl true, .bl true, .bl true, .bl false, .bl false]), some (false, .lst [.str [122, 101, 114, 111], .str [111, 110, 101], .str [114, 105, 115, 101, 115], .str [116, 117, 114, 110, 115], .str [115, 117, 109, 115]]), s10], st0) := by kernel_rfl
theorem b3_2 (s0 s1 s2 s3 s4 s5 s6 s8 s9 s10 : Slot) : exL (cN 20) 1000 L2b [s0, s1, s2, s3, s4, s5, s6, some (false, .str (sig 5 2)), s8, s9, s10] st0 = some (.nx, [s0, s1, s2, s3, s4, s5, some (false, .str [48, 48, 48, 48, 48, 48, 48, 49, 48, 48, 48, 49, 48, 49, 49, 48]), some (false, .str (sig 5 2)), some (false, .lst [.bl true, .bl false, .bl false, .bl false, .bl false]), some (false, .lst [.str [122, 101, 114, 111], .str [111, 110, 101], .str [114, 105, 115, 101, 115], .str [116, 117, 114, 110, 115], .str [115, 117, 109, 115]]), s10], st0) := by kernel_rfl
theorem b3_3 (s0 s1 s2 s3 s4 s5 s6 s8 s9 s10 : Slot) : exL (cN 20) 1000 L2b [s0, s1, s2, s3, s4, s5, s6, some (false, .str (sig 5 3)), s8, s9, s10] st0 = some (.nx, [s0, s1, s2, s3, s4, s5, some (false, .str [48, 48, 48, 48, 48, 48, 48, 49, 48, 48, 48, 49, 48, 49, 49, 49]), some (false, .str (sig 5 3)), some (false, .lst [.bl true, .bl true, .bl true, .bl false, .bl false]), some (false, .lst [.str [122, 101, 114, 111], .str [111, 110, 101], .str [114, 105, 115, 101, 115], .str [116, 117, 114, 110, 115], .str [115, 117, 109, 115]]), s10], st0) := by kernel_rfl
theorem b3_4 (s0 s1 s2 s3 s4 s5 s6 s8 s9 s10 : Slot) : exL (cN 20) 1000 L2b [s0, s1, s2, s3, s4, s5, s6, some (false, .str (sig 5 4)), s8, s9, s10] st0 = some (.nx, [s0, s1, s2, s3, s4, s5, some (false, .str [48, 48, 48, 49, 48, 49, 49, 48, 48, 49, 49, 48, 49, 48, 48, 48]), some (false, .str (sig 5 4)), some (false, .lst [.bl true, .bl false, .bl false, .bl false, .bl false]), some (false, .lst [.str [122, 101, 114, 111], .str [111, 110, 101], .str [114, 105, 115, 101, 115], .str [116, 117, 114, 110, 115], .str [115, 117, 109, 115]]), s10], st0) := by kernel_rfl
theorem b3_5 (s0 s1 s2 s3 s4 s5 s6 s8 s9 s10 : Slot) : exL (cN 20) 1000 L2b [s0, s1, s2, s3, s4, s5, s6, some (false, .str (sig 5 5)), s8, s9, s10] st0 = some (.nx, [s0, s1, s2, s3, s4, s5, some (false, .str [48, 48, 48, 49, 48, 49, 49, 48, 48, 49, 49, 48, 49, 48, 48, 49]), some (false, .str (sig 5 5)), some (false, .lst [.bl true, .bl true, .bl false, .bl false, .bl false]), some (false, .lst [.str [122, 101, 114, 111], .str [111, 110, 101], .str [114, 105, 115, 101, 115], .str [116, 117, 114, 110, 115], .str [115, 117, 109, 115]]), s10], st0) := by kernel_rfl
theorem b3_6 (s0 s1 s2 s3 s4 s5 s6 s8 s9 s10 : Slot) : exL (cN 20) 1000 L2b [s0, s1, s2, s3, s4, s5, s6, some (false, .str (sig 5 6)), s8, s9, s10] st0 = some (.nx, [s0, s1, s2, s3, s4, s5, some (false, .str [48, 48, 48, 49, 48, 49, 49, 49, 48, 49, 49, 49, 49, 49, 49, 48]), some (false, .str (sig 5 6)), some (false, .lst [.bl true, .bl false, .bl false, .bl false, .bl false]), some (false, .lst [.str [122, 101, 114, 111], .str [111, 110, 101], .str [114, 105, 115, 101, 115], .str [116, 117, 114, 110, 115], .str [115, 117, 109, 115]]), s10], st0) := by kernel_rfl
theorem b3_7 (s0 s1 s2 s3 s4 s5 s6 s8 s9 s10 : Slot) : exL (cN 20) 1000 L2b [s0, s1, s2, s3, s4, s5, s6, some (false, .str (sig 5 7)), s8, s9, s10] st0 = some (.nx, [s0, s1, s2, s3, s4, s5, some (false, .str [48, 48, 48, 49, 48, 49, 49, 49, 48, 49, 49, 49, 49, 49, 49, 49]), some (false, .str (sig 5 7)), some (false, .lst [.bl true, .bl true, .bl true, .bl false, .bl false]), some (false, .lst [.str [122, 101, 114, 111], .str [111, 110, 101], .str [114, 105, 115, 101, 115], .str [116, 117, 114, 110, 115], .str [115, 117, 109, 115]]), s10], st0) := by kernel_rfl
theorem b3_8 (s0 s1 s2 s3 s4 s5 s6 s8 s9 s10 : Slot) : exL (cN 20) 1000 L2b [s0, s1, s2, s3, s4, s5, s6, some (false, .str (sig 5 8)), s8, s9, s10] st0 = some (.nx, [s0, s1, s2, s3, s4, s5, some (false, .str [48, 49, 49, 48, 49, 48, 48, 48, 49, 48, 48, 48, 48, 48, 48, 48]), some (false, .str (sig 5 8)), some (false, .lst [.bl true, .bl false, .bl false, .bl false, .bl false]), some (false, .lst [.str [122, 101, 114, 111], .str [111, 110, 101], .str [114, 105, 115, 101, 115], .str [116, 117, 114, 110, 115], .str [115, 117, 109, 115]]), s10], st0) := by kernel_rfl
theorem b3_9 (s0 s1 s2 s3 s4 s5 s6 s8 s9 s10 : Slot) : exL (cN 20) 1000 L2b [s0, s1, s2, s3, s4, s5, s6, some (false, .str (sig 5 9)), s8, s9, s10] st0 = some (.nx, [s0, s1, s2, s3, s4, s5, some (false, .str [48, 49, 49, 48, 49, 48, 48, 48, 49, 48, 48, 48, 48, 48, 48, 49]), some (false, .str (sig 5 9)), some (false, .lst [.bl true, .bl true, .bl false, .bl false, .bl false]), some (false, .lst [.str [122, 101, 114, 111], .str [111, 110, 101], .str [114, 105, 115, 101, 115], .str [116, 117, 114, 110, 115], .str [115, 117, 109, 115]]), s10], st0) := by kernel_rfl
theorem b3_10 (s0 s1 s2 s3 s4 s5 s6 s8 s9 s10 : Slot) : exL (cN 20) 1000 L2b [s0, s1, s2, s3, s4, s5, s6, some (false, .str (sig 5 10)), s8, s9, s10] st0 = some (.nx, [s0, s1, s2, s3, s4, s5, some (false, .str [48, 49, 49, 48, 49, 48, 48, 49, 49, 48, 48, 49, 48, 49, 49, 48]), some (false, .str (sig 5 10)), some (false, .lst [.bl true, .bl false, .bl false, .bl false, .bl true]), some (false, .lst [.str [122, 101, 114, 111], .str [111, 110, 101], .str [114, 105, 115, 101, 115], .str [116, 117, 114, 110, 115], .str [115, 117, 109, 115]]), s10], st0) := by kernel_rfl
theorem b3_11 (s0 s1 s2 s3 s4 s5 s6 s8 s9 s10 : Slot) : exL (cN 20) 1000 L2b [s0, s1, s2, s3, s4, s5, s6, some (false, .str (sig 5 11)), s8, s9, s10] st0 = some (.nx, [s0, s1, s2, s3, s4, s5, some (false, .str [48, 49, 49, 48, 49, 48, 48, 49, 49, 48, 48, 49, 48, 49, 49, 49]), some (false, .str (sig 5 11)), some (false, .lst [.bl true, .bl true, .bl false, .bl false, .bl false]), some (false, .lst [.str [122, 101, 114, 111], .str [111, 110, 101], .str [114, 105, 115, 101, 115], .str [116, 117, 114, 110, 115], .str [115, 117, 109, 115]]), s10], st0) := by kernel_rfl
theorem b3_12 (s0 s1 s2 s3 s4 s5 s6 s8 s9 s10 : Slot) : exL (cN 20) 1000 L2b [s0, s1, s2, s3, s4, s5, s6, some (false, .str (sig 5 12)), s8, s9, s10] st0 = some (.nx, [s0, s1, s2, s3, s4, s5, some (false, .str [48, 49, 49, 49, 49, 49, 49, 48, 49, 49, 49, 48, 49, 48, 48, 48]), some (false, .str (sig 5 12)), some (false, .lst [.bl true, .bl false, .bl false, .bl false, .bl false]), some (false, .lst [.str [122, 101, 114, 111], .str [111, 110, 101], .str [114, 105, 115, 101, 115], .str [116, 117, 114, 110, 115], .str [115, 117, 109, 115]]), s10], st0) := by kernel_rfl
theorem b3_13 (s0 s1 s2 s3 s4 s5 s6 s8 s9 s10 : Slot) : exL (cN 20) 1000 L2b [s0, s1, s2, s3, s4, s5, s6, some (false, .str (sig 5 13)), s8, s9, s10] st0 = some (.nx, [s0, s1, s2, s3, s4, s5, some (false, .str [48, 49, 49, 49, 49, 49, 49, 48, 49, 49, 49, 48, 49, 48, 48, 49]), some (false, .str (sig 5 13)), some (false, .lst [.bl true, .bl true, .bl false, .bl false, .bl false]), some (false, .lst [.str [122, 101, 114, 111], .str [111, 110, 101], .str [114, 105, 115, 101, 115], .str [116, 117, 114, 110, 115], .str [115, 117, 109, 115]]), s10], st0) := by kernel_rfl
theorem b3_14 (s0 s1 s2 s3 s4 s5 s6 s8 s9 s10 : Slot) : exL (cN 20) 1000 L2b [s0, s1, s2, s3, s4, s5, s6, some (false, .str (sig 5 14)), s8, s9, s10] st0 = some (.nx, [s0, s1, s2, s3, s4, s5, some (false, .str [48, 49, 49, 49, 49, 49, 49, 49, 49, 49, 49, 49, 49, 49, 49, 48]), some (false, .str (sig 5 14)), some (false, .lst [.bl true, .bl false, .bl false, .bl false, .bl false]), some (false, .lst [.str [122, 101, 114, 111], .str [111, 110, 101], .str [114, 105, 115, 101, 115], .str [116, 117, 114, 110, 115], .str [115, 117, 109, 115]]), s10], st0) := by kernel_rfl
theorem b3_15 (s0 s1 s2 s3 s4 s5 s6 s8 s9 s10 : Slot) : exL (cN 20) 1000 L2b [s0, s1, s2, s3, s4, s5, s6, some (false, .str (sig 5 15)), s8, s9, s10] st0 = some (.nx, [s0, s1, s2, s3, s4, s5, some (false, .str [48, 49, 49, 49, 49, 49, 49, 49, 49, 49, 49, 49, 49, 49, 49, 49]), some (false, .str (sig 5 15)), some (false, .lst [.bl true, .bl true, .bl true, .bl false, .bl false]), some (false, .lst [.str [122, 101, 114, 111], .str [111, 110, 101], .str [114, 105, 115, 101, 115], .str [116, 117, 114, 110, 115], .str [115, 117, 109, 115]]), s10], st0) := by kernel_rfl
theorem b3_16 (s0 s1 s2 s3 s4 s5 s6 s8 s9 s10 : Slot) : exL (cN 20) 1000 L2b [s0, s1, s2, s3, s4, s5, s6, some (false, .str (sig 5 16)), s8, s9, s10] st0 = some (.nx, [s0, s1, s2, s3, s4, s5, some (false, .str [49, 48, 48, 48, 48, 48, 48, 48, 48, 48, 48, 48, 48, 48, 48, 48]), some (false, .str (sig 5 16)), some (false, .lst [.bl false, .bl false, .bl false, .bl false, .bl false]), some (false, .lst [.str [122, 101, 114, 111], .str [111, 110, 101], .str [114, 105, 115, 101, 115], .str [116, 117, 114, 110, 115], .str [115, 117, 109, 115]]), s10], st0) := by kernel_rfl
theorem b3_17 (s0 s1 s2 s3 s4 s5 s6 s8 s9 s10 : Slot) : exL (cN 20) 1000 L2b [s0, s1, s2, s3, s4, s5, s6, some (false, .str (sig 5 17)), s8, s9, s10] st0 = some (.nx, [s0, s1, s2, s3, s4, s5, some (false, .str [49, 48, 48, 48, 48, 48, 48, 48, 48, 48, 48, 48, 48, 48, 48, 49]), some (false, .str (sig 5 17)), some (false, .lst [.bl false, .bl true, .bl false, .bl false, .bl false]), some (false, .lst [.str [122, 101, 114, 111], .str [111, 110, 101], .str [114, 105, 115, 101, 115], .str [116, 117, 114, 110, 115], .str [115, 117, 109, 115]]), s10], st0) := by kernel_rfl
theorem b3_18 (s0 s1 s2 s3 s4 s5 s6 s8 s9 s10 : Slot) : exL (cN 20) 1000 L2b [s0, s1, s2, s3, s4, s5, s6, some (false, .str (sig 5 18)), s8, s9, s10] st0 = some (.nx, [s0, s1, s2, s3, s4, s5, some (false, .str [49, 48, 48, 48, 48, 48, 48, 49, 48, 48, 48, 49, 48, 49, 49, 48]), some (false, .str (sig 5 18)), some (false, .lst [.bl false, .bl false, .bl false, .bl false, .bl false]), some (false, .lst [.str [122, 101, 114, 111], .str [111, 110, 101], .str [114, 105, 115, 101, 115], .str [116, 117, 114, 110, 115], .str [115, 117, 109, 115]]), s10], st0) := by kernel_rfl
theorem b3_19 (s0 s1 s2 s3 s4 s5 s6 s8 s9 s10 : Slot) : exL (cN 20) 1000 L2b [s0, s1, s2, s3, s4, s5, s6, some (false, .str (sig 5 19)), s8, s9, s10] st0 = some (.nx, [s0, s1, s2, s3, s4, s5, some (false, .str [49, 48, 48, 48, 48, 48, 48, 49, 48, 48, 48, 49, 48, 49, 49, 49]), some (false, .str (sig 5 19)), some (false, .lst [.bl false, .bl true, .bl false, .bl false, .bl false]), some (false, .lst [.str [122, 101, 114, 111], .str [111, 110, 101], .str [114, 105, 115, 101, 115], .str [116, 117, 114, 110, 115], .str [115, 117, 109, 115]]), s10], st0) := by kernel_rfl
theorem b3_20 (s0 s1 s2 s3 s4 s5 s6 s8 s9 s10 : Slot) : exL (cN 20) 1000 L2b [s0, s1, s2, s3, s4, s5, s6, some (false, .str (sig 5 20)), s8, s9, s10] st0 = some (.nx, [s0, s1, s2, s3, s4, s5, some (false, .str [49, 48, 48, 49, 48, 49, 49, 48, 48, 49, 49, 48, 49, 48, 48, 48]), some (false, .str (sig 5 20)), some (false, .lst [.bl false, .bl false, .bl false, .bl false, .bl false]), some (false, .lst [.str [122, 101, 114, 111], .str [111, 110, 101], .str [114, 105, 115, 101, 115], .str [116, 117, 114, 110, 115], .str [115, 117, 109, 115]]), s10], st0) := by kernel_rfl
theorem b3_21 (s0 s1 s2 s3 s4 s5 s6 s8 s9 s10 : Slot) : exL (cN 20) 1000 L2b [s0, s1, s2, s3, s4, s5, s6, some (false, .str (sig 5 21)), s8, s9, s10] st0 = some (.nx, [s0, s1, s2, s3, s4, s5, some (false, .str [49, 48, 48, 49, 48, 49, 49, 48, 48, 49, 49, 48, 49, 48, 48, 49]), some (false, .str (sig 5 21)), some (false, .lst [.bl false, .bl true, .bl false, .bl false, .bl true]), some (false, .lst [.str [122, 101, 114, 111], .str [111, 110, 101], .str [114, 105, 115, 101, 115], .str [116, 117, 114, 110, 115], .str [115, 117, 109, 115]]), s10], st0) := by kernel_rfl
theorem b3_22 (s0 s1 s2 s3 s4 s5 s6 s8 s9 s10 : Slot) : exL (cN 20) 1000 L2b [s0, s1, s2, s3, s4, s5, s6, some (false, .str (sig 5 22)), s8, s9, s10] st0 = some (.nx, [s0, s1, s2, s3, s4, s5, some (false, .str [49, 48, 48, 49, 48, 49, 49, 49, 48, 49, 49, 49, 49, 49, 49, 48]), some (false, .str (sig 5 22)), some (false, .lst [.bl false, .bl false, .bl false, .bl false, .bl false]), some (false, .lst [.str [122, 101, 114, 111], .str [111, 110, 101], .str [114, 105, 115, 101, 115], .str [116, 117, 114, 110, 115], .str [115, 117, 109, 115]]), s10], st0) := by kernel_rfl
theorem b3_23 (s0 s1 s2 s3 s4 s5 s6 s8 s9 s10 : Slot) : exL (cN 20) 1000 L2b [s0, s1, s2, s3, s4, s5, s6, some (false, .str (sig 5 23)), s8, s9, s10] st0 = some (.nx, [s0, s1, s2, s3, s4, s5, some (false, .str [49, 48, 48, 49, 48, 49, 49, 49, 48, 49, 49, 49, 49, 49, 49, 49]), some (false, .str (sig 5 23)), some (false, .lst [.bl false, .bl true, .bl false, .bl false, .bl false]), some (false, .lst [.str [122, 101, 114, 111], .str [111, 110, 101], .str [114, 105, 115, 101, 115], .str [116, 117, 114, 110, 115], .str [115, 117, 109, 115]]), s10], st0) := by kernel_rfl
theorem b3_24 (s0 s1 s2 s3 s4 s5 s6 s8 s9 s10 : Slot) : exL (cN 20) 1000 L2b [s0, s1, s2, s3, s4, s5, s6, some (false, .str (sig 5 24)), s8, s9, s10] st0 = some (.nx, [s0, s1, s2, s3, s4, s5, some (false, .str [49, 49, 49, 48, 49, 48, 48, 48, 49, 48, 48, 48, 48, 48, 48, 48]), some (false, .str (sig 5 24)), some (false, .lst [.bl false, .bl false, .bl false, .bl false, .bl false]), some (false, .lst [.str [122, 101, 114, 111], .str [111, 110, 101], .str [114, 105, 115, 101, 115], .str [116, 117, 114, 110, 115], .str [115, 117, 109, 115]]), s10], st0) := by kernel_rfl
theorem b3_25 (s0 s1 s2 s3 s4 s5 s6 s8 s9 s10 : Slot) : exL (cN 20) 1000 L2b [s0, s1, s2, s3, s4, s5, s6, some (false, .str (sig 5 25)), s8, s9, s10] st0 = some (.nx, [s0, s1, s2, s3, s4, s5, some (false, .str [49, 49, 49, 48, 49, 48, 48, 48, 49, 48, 48, 48, 48, 48, 48, 49]), some (false, .str (sig 5 25)), some (false, .lst [.bl false, .bl true, .bl false, .bl false, .bl false]), some (false, .lst [.str [122, 101, 114, 111], .str [111, 110, 101], .str [114, 105, 115, 101, 115], .str [116, 117, 114, 110, 115], .str [115, 117, 109, 115]]), s10], st0) := by kernel_rfl
theorem b3_26 (s0 s1 s2 s3 s4 s5 s6 s8 s9 s10 : Slot) : exL (cN 20) 1000 L2b [s0, s1, s2, s3, s4, s5, s6, some (false, .str (sig 5 26)), s8, s9, s10] st0 = some (.nx, [s0, s1, s2, s3, s4, s5, some (false, .str [49, 49, 49, 48, 49, 48, 48, 49, 49, 48, 48, 49, 48, 49, 49, 48]), some (false, .str (sig 5 26)), some (false, .lst [.bl false, .bl false, .bl false, .bl false, .bl false]), some (false, .lst [.str [122, 101, 114, 111], .str [111, 110, 101], .str [114, 105, 115, 101, 115], .str [116, 117, 114, 110, 115], .str [115, 117, 109, 115]]), s10], st0) := by kernel_rfl
theorem b3_27 (s0 s1 s2 s3 s4 s5 s6 s8 s9 s10 : Slot) : exL (cN 20) 1000 L2b [s0, s1, s2, s3, s4, s5, s6, some (false, .str (sig 5 27)), s8, s9, s10] st0 = some (.nx, [s0, s1, s2, s3, s4, s5, some (false, .str [49, 49, 49, 48, 49, 48, 48, 49, 49, 48, 48, 49, 48, 49, 49, 49]), some (false, .str (sig 5 27)), some (false, .lst [.bl false, .bl true, .bl false, .bl false, .bl false]), some (false, .lst [.str [122, 101, 114, 111], .str [111, 110, 101], .str [114, 105, 115, 101, 115], .str [116, 117, 114, 110, 115], .str [115, 117, 109, 115]]), s10], st0) := by kernel_rfl
theorem b3_28 (s0 s1 s2 s3 s4 s5 s6 s8 s9 s10 : Slot) : exL (cN 20) 1000 L2b [s0, s1, s2, s3, s4, s5, s6, some (false, .str (sig 5 28)), s8, s9, s10] st0 = some (.nx, [s0, s1, s2, s3, s4, s5, some (false, .str [49, 49, 49, 49, 49, 49, 49, 48, 49, 49, 49, 48, 49, 48, 48, 48]), some (false, .str (sig 5 28)), some (false, .lst [.bl false, .bl false, .bl false, .bl false, .bl false]), some (false, .lst [.str [122, 101, 114, 111], .str [111, 110, 101], .str [114, 105, 115, 101, 115], .str [116, 117, 114, 110, 115], .str [115, 117, 109, 115]]), s10], st0) := by kernel_rfl
theorem b3_29 (s0 s1 s2 s3 s4 s5 s6 s8 s9 s10 : Slot) : exL (cN 20) 1000 L2b [s0, s1, s2, s3, s4, s5, s6, some (false, .str (sig 5 29)), s8, s9, s10] st0 = some (.nx, [s0, s1, s2, s3, s4, s5, some (false, .str [49, 49, 49, 49, 49, 49, 49, 48, 49, 49, 49, 48, 49, 48, 48, 49]), some (false, .str (sig 5 29)), some (false, .lst [.bl false, .bl true, .bl false, .bl false, .bl false]), some (false, .lst [.str [122, 101, 114, 111], .str [111, 110, 101], .str [114, 105, 115, 101, 115], .str [116, 117, 114, 110, 115], .str [115, 117, 109, 115]]), s10], st0) := by kernel_rfl
theorem b3_30 (s0 s1 s2 s3 s4 s5 s6 s8 s9 s10 : Slot) : exL (cN 20) 1000 L2b [s0, s1, s2, s3, s4, s5, s6, some (false, .str (sig 5 30)), s8, s9, s10] st0 = some (.nx, [s0, s1, s2, s3, s4, s5, some (false, .str [49, 49, 49, 49, 49, 49, 49, 49, 49, 49, 49, 49, 49, 49, 49, 48]), some (false, .str (sig 5 30)), some (false, .lst [.bl false, .bl false, .bl false, .bl false, .bl false]), some (false, .lst [.str [122, 101, 114, 111], .str [111, 110, 101], .str [114, 105, 115, 101, 115], .str [116, 117, 114, 110, 115], .str [115, 117, 109, 115]]), s10], st0) := by kernel_rfl
theorem b3_31 (s0 s1 s2 s3 s4 s5 s6 s8 s9 s10 : Slot) : exL (cN 20) 1000 L2b [s0, s1, s2, s3, s4, s5, s6, some (false, .str (sig 5 31)), s8, s9, s10] st0 = some (.nx, [s0, s1, s2, s3, s4, s5, some (false, .str [49, 49, 49, 49, 49, 49, 49, 49, 49, 49, 49, 49, 49, 49, 49, 49]), some (false, .str (sig 5 31)), some (false, .lst [.bl false, .bl true, .bl true, .bl false, .bl true]), some (false, .lst [.str [122, 101, 114, 111], .str [111, 110, 101], .str [114, 105, 115, 101, 115], .str [116, 117, 114, 110, 115], .str [115, 117, 109, 115]]), s10], st0) := by kernel_rfl
theorem b3 (x : Nat) (hx : x < 32) (s0 s1 s2 s3 s4 s5 s6 s8 s9 s10 : Slot) : ∃ t6 t8 t9, exL (cN 20) 1000 L2b [s0, s1, s2, s3, s4, s5, s6, some (false, .str (sig 5 x)), s8, s9, s10] st0 = some (.nx, [s0, s1, s2, s3, s4, s5, t6, some (false, .str (sig 5 x)), t8, t9, s10], st0) := by
  match x, hx with
  | 0, _ => exact ⟨_, _, _, b3_0 s0 s1 s2 s3 s4 s5 s6 s8 s9 s10⟩
  | 1, _ => exact ⟨_, _, _, b3_1 s0 s1 s2 s3 s4 s5 s6 s8 s9 s10⟩
  | 2, _ => exact ⟨_, _, _, b3_2 s0 s1 s2 s3 s4 s5 s6 s8 s9 s10⟩
  | 3, _ => exact ⟨_, _, _, b3_3 s0 s1 s2 s3 s4 s5 s6 s8 s9 s10⟩
  | 4, _ => exact ⟨_, _, _, b3_4 s0 s1 s2 s3 s4 s5 s6 s8 s9 s10⟩
  | 5, _ => exact ⟨_, _, _, b3_5 s0 s1 s2 s3 s4 s5 s6 s8 s9 s10⟩
  | 6, _ => exact ⟨_, _, _, b3_6 s0 s1 s2 s3 s4 s5 s6 s8 s9 s10⟩
  | 7, _ => exact ⟨_, _, _, b3_7 s0 s1 s2 s3 s4 s5 s6 s8 s9 s10⟩
  | 8, _ => exact ⟨_, _, _, b3_8 s0 s1 s2 s3 s4 s5 s6 s8 s9 s10⟩
  | 9, _ => exact ⟨_, _, _, b3_9 s0 s1 s2 s3 s4 s5 s6 s8 s9 s10⟩
  | 10, _ => exact ⟨_, _, _, b3_10 s0 s1 s2 s3 s4 s5 s6 s8 s9 s10⟩
  | 11, _ => exact ⟨_, _, _, b3_11 s0 s1 s2 s3 s4 s5 s6 s8 s9 s10⟩
  | 12, _ => exact ⟨_, _, _, b3_12 s0 s1 s2 s3 s4 s5 s6 s8 s9 s10⟩
  | 13, _ => exact ⟨_, _, _, b3_13 s0 s1 s2 s3 s4 s5 s6 s8 s9 s10⟩
  | 14, _ => exact ⟨_, _, _, b3_14 s0 s1 s2 s3 s4 s5 s6 s8 s9 s10⟩
  | 15, _ => exact ⟨_, _, _, b3_15 s0 s1 s2 s3 s4 s5 s6 s8 s9 s10⟩
  | 16, _ => exact ⟨_, _, _, b3_16 s0 s1 s2 s3 s4 s5 s6 s8 s9 s10⟩
  | 17, _ => exact ⟨_, _, _, b3_17 s0 s1 s2 s3 s4 s5 s6 s8 s9 s10⟩
  | 18, _ => exact ⟨_, _, _, b3_18 s0 s1 s2 s3 s4 s5 s6 s8 s9 s10⟩
  | 19, _ => exact ⟨_, _, _, b3_19 s0 s1 s2 s3 s4 s5 s6 s8 s9 s10⟩
  | 20, _ => exact ⟨_, _, _, b3_20 s0 s1 s2 s3 s4 s5 s6 s8 s9 s10⟩
  | 21, _ => exact ⟨_, _, _, b3_21 s0 s1 s2 s3 s4 s5 s6 s8 s9 s10⟩
  | 22, _ => exact ⟨_, _, _, b3_22 s0 s1 s2 s3 s4 s5 s6 s8 s9 s10⟩
  | 23, _ => exact ⟨_, _, _, b3_23 s0 s1 s2 s3 s4 s5 s6 s8 s9 s10⟩
  | 24, _ => exact ⟨_, _, _, b3_24 s0 s1 s2 s3 s4 s5 s6 s8 s9 s10⟩
  | 25, _ => exact ⟨_, _, _, b3_25 s0 s1 s2 s3 s4 s5 s6 s8 s9 s10⟩
  | 26, _ => exact ⟨_, _, _, b3_26 s0 s1 s2 s3 s4 s5 s6 s8 s9 s10⟩
  | 27, _ => exact ⟨_, _, _, b3_27 s0 s1 s2 s3 s4 s5 s6 s8 s9 s10⟩
  | 28, _ => exact ⟨_, _, _, b3_28 s0 s1 s2 s3 s4 s5 s6 s8 s9 s10⟩
  | 29, _ => exact ⟨_, _, _, b3_29 s0 s1 s2 s3 s4 s5 s6 s8 s9 s10⟩
  | 30, _ => exact ⟨_, _, _, b3_30 s0 s1 s2 s3 s4 s5 s6 s8 s9 s10⟩
  | 31, _ => exact ⟨_, _, _, b3_31 s0 s1 s2 s3 s4 s5 s6 s8 s9 s10⟩
  | n + 32, h => exact absurd h (by omega)
end K92
/-! K92L3 -/
namespace K92
open Ev Mx EvBin
local macro_rules | `(tactic| walk_at "ev") => `(tactic| simp -implicitDefEqProofs only [↓bK_v, ↓cK_v, ↓oK_v, ↓tK_v, ↓iK_v, ↓sK_v, ↓vK_v, ↓insK_v, ↓hK_v, bK_w, cK_w, oK_w, tK_wt, tK_wf, iK_w, sK_wn, sK_wr, vK_w, insK_w, hK_w, vec_one, z_var, z_mv, z_int, z_bl, z_non, z_str, z_glb, z_bin, z_neg, z_inv, z_not, z_cmp, z_isN, z_ntN, z_chain, z_and, z_or, z_ite, z_tup, z_lst, z_call, z_lend, z_meth, z_fld, z_bi, z_bf, z_idx, z_sl, z_sget, z_snz, z_spop, z_appPop, z_lzip, z_hin, z_hlen, z_hkeys, z_hne, z_lc, z_nil, z_cons, z_no, z_so, z_no', z_so', lcB_app, forB_app, whC_app, whB_app, z_bnm, z_set, z_own, z_tset, z_par, z_app, z_ext, z_put, z_site, z_whl, z_for, z_ret, z_ex, z_pass, z_snil, z_scons, z_sput, z_hput, z_hupd, bK_some, cK_some, oK_some, tK_true, tK_false, iK_true, sK_nx, sK_rt, fK_rt, fK_nx, vK_some, insK_some, hK_some, negD, invD, notD, fldD, intO, seqO, lstO, intI, hndI, isNonD, setAll, bindD, ownL, ownD, wipeE, backE, isStt, stGet, stPut, Option.getD_some, Option.bind_some, Option.map_some, List.length_cons, List.length_nil, Int.toNat_natCast, Nat.reduceAdd, Nat.reduceSub, Nat.reduceEqDiff, List.map_cons, List.map_nil, List.replicate, List.cons_append, List.nil_append, List.getElem?_cons_zero, List.getElem?_cons_succ, List.set_cons_zero, List.set_cons_succ, ite_true, ite_false, hget, keyD, Bool.not_true, Bool.not_false, Bool.false_eq_true, if_false, if_true, if_pos, flatD, y_add, y_addS, y_addL, y_sub, y_mulR, y_mulL, y_mulS, y_mod, y_div, y_pow, y_band, y_bor, y_eq, y_ne, y_lt, y_le, y_gt, y_ge, y_ltS, y_inn, y_nin, e_ii, e_ss, e_bb, e_nn, e_si, e_is, i_ss, i_s1, i_sL, i_sT, q_lenL, q_lenT, q_lenS, q_lenD, q_abs, q_max, q_min, q_int, q_int2, q_all, q_any, q_join, c_listL, c_listT, d_lst, d_tup, d_str, d_lst0, d_lst1, d_lst2, d_tup0, d_tup1, d_tup2, d_str0, s_seqL, s_seqT, s_seqS, s_rng, s_rng1, s_rng2, s_rng3, s_rng4, s_rng5, s_rng6, s_rng7, s_rng8, s_rng600, s_enm, s_zpL, s_zpT, z_isi', t_1, t_2, t_3, t_4, t_5, t_6, t_7, t_8, t_9, t_10, t_11, t_12, t_13, t_14, t_15, t_16, t_17, t_18, t_19, t_20, t_21, t_22, t_23, t_24, t_25, t_26, t_27, t_28, t_29, t_30, t_31, t_32, t_33, t_34, t_35, t_36, t_37, t_38, t_39, t_40, t_41, t_42, t_43, t_44, t_45, t_46, t_47, t_48, t_49, t_50, t_51, t_52, t_53, t_54, t_55, t_56, t_57, t_58, t_59, t_60, t_61, t_62, t_63, t_64, t_65, t_66, t_67, t_68, t_69, t_70, t_71, t_72, t_73, t_74, t_75, t_76, t_77, t_78, t_79, t_80, t_81, Bool.and_true, Bool.true_and, Bool.false_and, Bool.or_false, Bool.false_or, Bool.true_or, decide_true, decide_false, List.isEmpty_nil, Option.isSome_some, hset, and_self, and_true, true_and, or_true, true_or, Int.cast_ofNat_Int, Int.reduceDiv, Int.reduceMod, Int.reduceLT, Int.reduceLE, Int.reduceAdd, Int.reduceSub, Int.reduceMul, Int.reduceNeg, Int.reduceBEq, Int.reduceEq, Int.reduceToNat, Nat.reduceLT, Nat.reduceLeDiff, Nat.reduceBEq, reduceIte, beq_self_eq_true, *])
def unP : D → List Nat × List Nat
  | .tup [.str a, .str b] => (a, b)
  | _ => ([], [])
theorem pairs_perm {ys : List D} {ps : Gts} (h : ys.Perm (pairsD ps)) : ∃ qs : Gts, qs.Perm ps ∧ ys = pairsD qs := by
  refine ⟨ys.map unP, ?_, ?_⟩
  · refine (h.map unP).trans ?_
    unfold pairsD
    rw [List.map_map]
    have : (unP ∘ fun p : List Nat × List Nat => D.tup [.str p.1, .str p.2]) = id := by funext p; rfl
    rw [this, List.map_id]
  · unfold pairsD
    rw [List.map_map]
    have : ∀ y ∈ ys, ((fun p : List Nat × List Nat => D.tup [.str p.1, .str p.2]) ∘ unP) y = y := fun y hy => by
      obtain ⟨p, _, rfl⟩ := List.mem_map.mp (h.mem_iff.mp hy)
      rfl
    rw [List.map_congr_left this]; simp
theorem zip_pairs : ∀ (ws ts : List (List Nat)), ((strL ws).zip (strL ts)).map (fun p => D.tup [p.1, p.2]) = pairsD (ws.zip ts)
  | [], _ => rfl
  | _ :: _, [] => rfl
  | w :: ws, t :: ts => by
    show D.tup [.str w, .str t] :: ((strL ws).zip (strL ts)).map (fun p => D.tup [p.1, p.2]) = _
    rw [zip_pairs ws ts]; rfl
theorem isG_perm {ps qs : Gts} (h : qs.Perm ps) (g : IsG ps) : IsG qs :=
  ⟨fun p hp => g.nm p (h.mem_iff.mp hp), ((h.map (·.1)).nodup_iff).mpr g.nd, fun p hp => g.tb p (h.mem_iff.mp hp), by rw [h.length_eq]; exact g.ln⟩
abbrev knownD : D := .lst [(.lst [(.str [49, 49, 49, 48])]), (.lst [(.str [48, 48, 48, 49]), (.str [48, 49, 49, 49])]), (.lst [(.str [48, 49, 49, 48])]), (.lst [(.str [48, 48, 48, 49, 48, 49, 49, 49]), (.str [49, 48])]), (.lst [(.str [48, 49, 49, 48, 49, 48, 48, 49])]), (.lst [(.str [48, 48, 48, 49])])]
abbrev eGates : E := .call "Gates.__init__" [(.call "_law_mixed" [(.mv 1), (.lzip (.call "_law_words" [(.mv 1), (.int 2)]) (.idx (.var 2) (.var 3)))])]
theorem gates_of {k : Int} {tabs : List (List Nat)} {q : Nat} {st : PSt} {s0 s4 s5 s6 s7 s8 s9 s10 : Slot} (hi : idxD knownD (.int k) = some (.lst (strL tabs))) (hl : tabs.length ≤ 2) (ht : ∀ t ∈ tabs, ∃ j, TbJ j t) (hp : Pk (q + 40) st) :
    ∃ ps st', IsG ps ∧ (∀ t, t ∈ ps.map (·.2) ↔ t ∈ tabs) ∧ Pk q st' ∧ evE (cN 30) eGates [s0, some (false, .stt), some (false, knownD), some (false, .int k), s4, s5, s6, s7, s8, s9, s10] st = some (gatesD ps, [s0, some (false, .stt), some (false, knownD), some (false, .int k), s4, s5, s6, s7, s8, s9, s10], st') := by
  obtain ⟨ws, st1, h1, h2, h3, h4, h5⟩ := sp_words lib (by decide : 1000 ≤ 1000) (n := 28) (q := q + 19) (many := 2) (st := st) (by decide) hp
  match ws, h1 with
  | [w1, w2], _ =>
  have hz : (([w1, w2].zip tabs).map (·.2)) = tabs := by
    match tabs, hl with
    | [], _ => rfl
    | [a], _ => rfl
    | [a, b], _ => rfl
    | _ :: _ :: _ :: _, hl => simp at hl
  have hzl : ([w1, w2].zip tabs).length ≤ 2 := by rw [List.length_zip]; simp; omega
  have hG : IsG ([w1, w2].zip tabs) := by
    refine ⟨fun p hp => h2 _ (List.of_mem_zip hp).1, ?_, fun p hp => ht _ (List.of_mem_zip hp).2, by omega⟩
    match tabs, hl with
    | [], _ => simp
    | [a], _ => simp
    | [a, b], _ => simpa using h3
    | _ :: _ :: _ :: _, hl => simp at hl
  obtain ⟨ys, st2, g1, g2, g3⟩ := sp_mixed lib (by decide : 1000 ≤ 1000) (n := 28) (q := q) (xs := pairsD ([w1, w2].zip tabs)) (st := st1) (by simp [pairsD]; omega) (h4.less (by simp [pairsD]; omega))
  obtain ⟨ps, p1, rfl⟩ := pairs_perm g1
  have hGp := isG_perm p1 hG
  have h6 := sp_Gates lib (by decide : 1000 ≤ 1000) (n := 25) (st := st2) (ps := ps) g2.hd hGp
  refine ⟨ps, st2, hGp, fun t => ?_, g2, ?_⟩
  · rw [(p1.map (·.2)).mem_iff, hz]
  · have hzp := zip_pairs [w1, w2] tabs
    simp only [Int.cast_ofNat_Int] at h5
    have hlen : (strL [w1, w2]).length ≤ 1000 := by simp [strL]
    simp only [Nat.reduceAdd] at h5 g3 h6
    clear hp h1 h4 hGp hG g1 p1 g2 h2 h3 ht hl hz hzl
    walk_at "ev"
end K92
/-! K92L4 -/
namespace K92
open Ev Mx EvBin
local macro_rules | `(tactic| walk_at "ev") => `(tactic| simp -implicitDefEqProofs only [↓bK_v, ↓cK_v, ↓oK_v, ↓tK_v, ↓iK_v, ↓sK_v, ↓vK_v, ↓insK_v, ↓hK_v, bK_w, cK_w, oK_w, tK_wt, tK_wf, iK_w, sK_wn, sK_wr, vK_w, insK_w, hK_w, vec_one, z_var, z_mv, z_int, z_bl, z_non, z_str, z_glb, z_bin, z_neg, z_inv, z_not, z_cmp, z_isN, z_ntN, z_chain, z_and, z_or, z_ite, z_tup, z_lst, z_call, z_lend, z_meth, z_fld, z_bi, z_bf, z_idx, z_sl, z_sget, z_snz, z_spop, z_appPop, z_lzip, z_hin, z_hlen, z_hkeys, z_hne, z_lc, z_nil, z_cons, z_no, z_so, z_no', z_so', lcB_app, forB_app, whC_app, whB_app, z_bnm, z_set, z_own, z_tset, z_par, z_app, z_ext, z_put, z_site, z_whl, z_for, z_ret, z_ex, z_pass, z_snil, z_scons, z_sput, z_hput, z_hupd, bK_some, cK_some, oK_some, tK_true, tK_false, iK_true, sK_nx, sK_rt, fK_rt, fK_nx, vK_some, insK_some, hK_some, negD, invD, notD, fldD, intO, seqO, lstO, intI, hndI, isNonD, setAll, bindD, ownL, ownD, wipeE, backE, isStt, stGet, stPut, Option.getD_some, Option.bind_some, Option.map_some, List.length_cons, List.length_nil, Int.toNat_natCast, Nat.reduceAdd, Nat.reduceSub, Nat.reduceEqDiff, List.map_cons, List.map_nil, List.replicate, List.cons_append, List.nil_append, List.getElem?_cons_zero, List.getElem?_cons_succ, List.set_cons_zero, List.set_cons_succ, ite_true, ite_false, hget, keyD, Bool.not_true, Bool.not_false, Bool.false_eq_true, if_false, if_true, if_pos, flatD, y_add, y_addS, y_addL, y_sub, y_mulR, y_mulL, y_mulS, y_mod, y_div, y_pow, y_band, y_bor, y_eq, y_ne, y_lt, y_le, y_gt, y_ge, y_ltS, y_inn, y_nin, e_ii, e_ss, e_bb, e_nn, e_si, e_is, i_ss, i_s1, i_sL, i_sT, q_lenL, q_lenT, q_lenS, q_lenD, q_abs, q_max, q_min, q_int, q_int2, q_all, q_any, q_join, c_listL, c_listT, d_lst, d_tup, d_str, d_lst0, d_lst1, d_lst2, d_tup0, d_tup1, d_tup2, d_str0, s_seqL, s_seqT, s_seqS, s_rng, s_rng1, s_rng2, s_rng3, s_rng4, s_rng5, s_rng6, s_rng7, s_rng8, s_rng600, s_enm, s_zpL, s_zpT, z_isi', t_1, t_2, t_3, t_4, t_5, t_6, t_7, t_8, t_9, t_10, t_11, t_12, t_13, t_14, t_15, t_16, t_17, t_18, t_19, t_20, t_21, t_22, t_23, t_24, t_25, t_26, t_27, t_28, t_29, t_30, t_31, t_32, t_33, t_34, t_35, t_36, t_37, t_38, t_39, t_40, t_41, t_42, t_43, t_44, t_45, t_46, t_47, t_48, t_49, t_50, t_51, t_52, t_53, t_54, t_55, t_56, t_57, t_58, t_59, t_60, t_61, t_62, t_63, t_64, t_65, t_66, t_67, t_68, t_69, t_70, t_71, t_72, t_73, t_74, t_75, t_76, t_77, t_78, t_79, t_80, t_81, Bool.and_true, Bool.true_and, Bool.false_and, Bool.or_false, Bool.false_or, Bool.true_or, decide_true, decide_false, List.isEmpty_nil, Option.isSome_some, hset, and_self, and_true, true_and, or_true, true_or, Int.cast_ofNat_Int, Int.reduceDiv, Int.reduceMod, Int.reduceLT, Int.reduceLE, Int.reduceAdd, Int.reduceSub, Int.reduceMul, Int.reduceNeg, Int.reduceBEq, Int.reduceEq, Int.reduceToNat, Nat.reduceLT, Nat.reduceLeDiff, Nat.reduceBEq, reduceIte, beq_self_eq_true, *])
/-- whether a table of three inputs fits a kind: as the law says it -/
theorem tb8 {l : List Nat} (hl : l.length = 8) (hb : isBits l = true) : TbJ 2 l := ⟨by decide, hl, hb⟩
theorem worth8 {l : List Nat} (hl : l.length = 8) (hb : isBits l = true) : worth l < 256 ∧ sig 8 (worth l) = l := by
  refine ⟨?_, by rw [← hl]; exact sig_worth hb⟩
  have := worth_lt (isBits_of hb)
  rw [hl] at this; exact this
def e2 : List (List Nat) := [0, 85, 51, 102, 15, 90, 60, 105].map (sig 8)
def e4 : List (List Nat) := [15, 51, 85, 105].map (sig 8)
def e5 : List (List Nat) := [85, 51, 17, 15, 5, 3, 1].map (sig 8)
theorem fit0 (t : List Nat) : ∃ s, cN 20 "_law_fits" [.int 0, .str t] st0 = some (.bl true, s) := ⟨st0, by kernel_rfl⟩
theorem fit2 (t : List Nat) : ∃ s, cN 20 "_law_fits" [.int 2, .str t] st0 = some (.bl ((strL e2).any fun y => eqF y (.str t)), s) := ⟨st0, by kernel_rfl⟩
theorem fit4 (t : List Nat) : ∃ s, cN 20 "_law_fits" [.int 4, .str t] st0 = some (.bl ((strL e4).any fun y => eqF y (.str t)), s) := ⟨st0, by kernel_rfl⟩
theorem fit5 (t : List Nat) : ∃ s, cN 20 "_law_fits" [.int 5, .str t] st0 = some (.bl ((strL e5).any fun y => eqF y (.str t)), s) := ⟨st0, by kernel_rfl⟩
theorem in2 : (List.range 256).all (fun x => decide (sig 8 x ∈ e2) == Nat.testBit mask2 x) = true := by decide +kernel
theorem in4 : (List.range 256).all (fun x => decide (sig 8 x ∈ e4) == Nat.testBit mask4 x) = true := by decide +kernel
theorem in5 : (List.range 256).all (fun x => decide (sig 8 x ∈ e5) == Nat.testBit mask5 x) = true := by decide +kernel
theorem all0 : (List.range 256).all (fun x => Nat.testBit mask0 x) = true := by decide +kernel
theorem go {i : Int} {l : List Nat} {b : Bool} {s : PSt} (e : cN 20 "_law_fits" [.int i, .str l] st0 = some (.bl b, s)) {n : Nat} (hn : 20 ≤ n) {st : PSt} (hs : st.hd = []) : cN n "_law_fits" [.int i, .str l] st = some (.bl b, st) := call_pure sim hn (by decide +kernel) (by rw [hs]; rfl) e
theorem fits (k : Nat) (hk : k < 6) {l : List Nat} (hl : l.length = 8) (hb : isBits l = true) {n : Nat} (hn : 20 ≤ n) {st : PSt} (hs : st.hd = []) : cN n "_law_fits" [.int (k : Int), .str l] st = some (.bl (Nat.testBit (maskK k) (worth l)), st) := by
  obtain ⟨hw, hsg⟩ := worth8 hl hb
  have hm : worth l ∈ List.range 256 := List.mem_range.mpr hw
  match k, hk with
  | 0, _ =>
    obtain ⟨s, e⟩ := fit0 l
    have h1 : Nat.testBit mask0 (worth l) = true := List.all_eq_true.mp all0 _ hm
    rw [show ((0 : Nat) : Int) = 0 from rfl, go e hn hs, show maskK 0 = mask0 from rfl, h1]
  | 1, _ =>
    obtain ⟨s, e⟩ := isB_of (List.all_eq_true.mp fit1 _ hm)
    rw [hsg] at e
    rw [show ((1 : Nat) : Int) = 1 from rfl, go e hn hs, show maskK 1 = mask1 from rfl]
  | 2, _ =>
    obtain ⟨s, e⟩ := fit2 l
    have h1 := List.all_eq_true.mp in2 _ hm
    rw [hsg, beq_iff_eq] at h1
    rw [show ((2 : Nat) : Int) = 2 from rfl, go e hn hs, any_strL, h1, show maskK 2 = mask2 from rfl]
  | 3, _ =>
    obtain ⟨s, e⟩ := isB_of (List.all_eq_true.mp fit3 _ hm)
    rw [hsg] at e
    rw [show ((3 : Nat) : Int) = 3 from rfl, go e hn hs, show maskK 3 = mask3 from rfl]
  | 4, _ =>
    obtain ⟨s, e⟩ := fit4 l
    have h1 := List.all_eq_true.mp in4 _ hm
    rw [hsg, beq_iff_eq] at h1
    rw [show ((4 : Nat) : Int) = 4 from rfl, go e hn hs, any_strL, h1, show maskK 4 = mask4 from rfl]
  | 5, _ =>
    obtain ⟨s, e⟩ := fit5 l
    have h1 := List.all_eq_true.mp in5 _ hm
    rw [hsg, beq_iff_eq] at h1
    rw [show ((5 : Nat) : Int) = 5 from rfl, go e hn hs, any_strL, h1, show maskK 5 = mask5 from rfl]
end K92
/-! K92L5 -/
namespace K92
open Ev Mx EvBin
local macro_rules | `(tactic| walk_at "ev") => `(tactic| simp -implicitDefEqProofs only [↓bK_v, ↓cK_v, ↓oK_v, ↓tK_v, ↓iK_v, ↓sK_v, ↓vK_v, ↓insK_v, ↓hK_v, bK_w, cK_w, oK_w, tK_wt, tK_wf, iK_w, sK_wn, sK_wr, vK_w, insK_w, hK_w, vec_one, z_var, z_mv, z_int, z_bl, z_non, z_str, z_glb, z_bin, z_neg, z_inv, z_not, z_cmp, z_isN, z_ntN, z_chain, z_and, z_or, z_ite, z_tup, z_lst, z_call, z_lend, z_meth, z_fld, z_bi, z_bf, z_idx, z_sl, z_sget, z_snz, z_spop, z_appPop, z_lzip, z_hin, z_hlen, z_hkeys, z_hne, z_lc, z_nil, z_cons, z_no, z_so, z_no', z_so', lcB_app, forB_app, whC_app, whB_app, z_bnm, z_set, z_own, z_tset, z_par, z_app, z_ext, z_put, z_site, z_whl, z_for, z_ret, z_ex, z_pass, z_snil, z_scons, z_sput, z_hput, z_hupd, bK_some, cK_some, oK_some, tK_true, tK_false, iK_true, sK_nx, sK_rt, fK_rt, fK_nx, vK_some, insK_some, hK_some, negD, invD, notD, fldD, intO, seqO, lstO, intI, hndI, isNonD, setAll, bindD, ownL, ownD, wipeE, backE, isStt, stGet, stPut, Option.getD_some, Option.bind_some, Option.map_some, List.length_cons, List.length_nil, Int.toNat_natCast, Nat.reduceAdd, Nat.reduceSub, Nat.reduceEqDiff, List.map_cons, List.map_nil, List.replicate, List.cons_append, List.nil_append, List.getElem?_cons_zero, List.getElem?_cons_succ, List.set_cons_zero, List.set_cons_succ, ite_true, ite_false, hget, keyD, Bool.not_true, Bool.not_false, Bool.false_eq_true, if_false, if_true, if_pos, flatD, y_add, y_addS, y_addL, y_sub, y_mulR, y_mulL, y_mulS, y_mod, y_div, y_pow, y_band, y_bor, y_eq, y_ne, y_lt, y_le, y_gt, y_ge, y_ltS, y_inn, y_nin, e_ii, e_ss, e_bb, e_nn, e_si, e_is, i_ss, i_s1, i_sL, i_sT, q_lenL, q_lenT, q_lenS, q_lenD, q_abs, q_max, q_min, q_int, q_int2, q_all, q_any, q_join, c_listL, c_listT, d_lst, d_tup, d_str, d_lst0, d_lst1, d_lst2, d_tup0, d_tup1, d_tup2, d_str0, s_seqL, s_seqT, s_seqS, s_rng, s_rng1, s_rng2, s_rng3, s_rng4, s_rng5, s_rng6, s_rng7, s_rng8, s_rng600, s_enm, s_zpL, s_zpT, z_isi', t_1, t_2, t_3, t_4, t_5, t_6, t_7, t_8, t_9, t_10, t_11, t_12, t_13, t_14, t_15, t_16, t_17, t_18, t_19, t_20, t_21, t_22, t_23, t_24, t_25, t_26, t_27, t_28, t_29, t_30, t_31, t_32, t_33, t_34, t_35, t_36, t_37, t_38, t_39, t_40, t_41, t_42, t_43, t_44, t_45, t_46, t_47, t_48, t_49, t_50, t_51, t_52, t_53, t_54, t_55, t_56, t_57, t_58, t_59, t_60, t_61, t_62, t_63, t_64, t_65, t_66, t_67, t_68, t_69, t_70, t_71, t_72, t_73, t_74, t_75, t_76, t_77, t_78, t_79, t_80, t_81, Bool.and_true, Bool.true_and, Bool.false_and, Bool.or_false, Bool.false_or, Bool.true_or, decide_true, decide_false, List.isEmpty_nil, Option.isSome_some, hset, and_self, and_true, true_and, or_true, true_or, Int.cast_ofNat_Int, Int.reduceDiv, Int.reduceMod, Int.reduceLT, Int.reduceLE, Int.reduceAdd, Int.reduceSub, Int.reduceMul, Int.reduceNeg, Int.reduceBEq, Int.reduceEq, Int.reduceToNat, Nat.reduceLT, Nat.reduceLeDiff, Nat.reduceBEq, reduceIte, beq_self_eq_true, *])
abbrev cnts : D := .lst [.int 256, .int 18, .int 8, .int 16, .int 4, .int 7]
abbrev sNum : Ev.S := .ite (.not (.lend "_law_same" [(.lend "number_built" [(.var 4), (.int 3)]), (.idx (.lst [(.int 256), (.int 18), (.int 8), (.int 16), (.int 4), (.int 7)]) (.var 3))])) [.ret (.bl false)] []
abbrev eTab : Ev.E := .ite (.cmp .gt (.var 5) (.int 0)) (.lend "_law_bits" [(.var 1), (.int 8)]) (.call "_law_one" [(.mv 1), (.lst [(.str [48, 48, 48, 49, 48, 49, 49, 49]), (.str [48, 49, 49, 48, 49, 48, 48, 49]), (.str [48, 48, 48, 48, 48, 48, 48, 49]), (.str [48, 49, 49, 49, 49, 49, 49, 49]), (.str [49, 48, 48, 49, 48, 49, 49, 48])])])
abbrev bA : List Ev.S := [.set 6 eTab, .ite (.not (.lend "_law_same" [(.lend "can_build" [(.var 4), (.var 6)]), (.lend "_law_fits" [(.var 3), (.var 6)])])) [.ret (.bl false)] []]
abbrev bB : List Ev.S := .set 7 (.lend "_law_bits" [(.var 1), (.int 5)]) :: L2b
def five : List (List Nat) := [[48, 48, 48, 49, 48, 49, 49, 49], [48, 49, 49, 48, 49, 48, 48, 49], [48, 48, 48, 48, 48, 48, 48, 49], [48, 49, 49, 49, 49, 49, 49, 49], [49, 48, 48, 49, 48, 49, 49, 48]]
theorem five_ok : ∀ l ∈ five, l.length = 8 ∧ isBits l = true := by decide
def cntK (k : Nat) : Nat := [256, 18, 8, 16, 4, 7].getD k 0
def tabsK (k : Nat) : List (List Nat) := [tabs0, tabs1, tabs2, tabs3, tabs4, tabs5].getD k []
theorem closK (k : Nat) (hk : k < 6) : closedL 8 (tabsK k) (projN 3) = (List.range (2 ^ 8)).filter fun x => Nat.testBit (maskK k) x := by
  match k, hk with
  | 0, _ => exact clos0
  | 1, _ => exact clos1
  | 2, _ => exact clos2
  | 3, _ => exact clos3
  | 4, _ => exact clos4
  | 5, _ => exact clos5
theorem lenK (k : Nat) (hk : k < 6) : ((List.range (2 ^ 8)).filter fun x => Nat.testBit (maskK k) x).length = cntK k := by
  match k, hk with
  | 0, _ => decide +kernel
  | 1, _ => decide +kernel
  | 2, _ => decide +kernel
  | 3, _ => decide +kernel
  | 4, _ => decide +kernel
  | 5, _ => decide +kernel
theorem cntI (k : Nat) (hk : k < 6) : idxD cnts (.int (k : Int)) = some (.int (cntK k : Nat)) := by
  match k, hk with
  | 0, _ => rfl
  | 1, _ => rfl
  | 2, _ => rfl
  | 3, _ => rfl
  | 4, _ => rfl
  | 5, _ => rfl
theorem knownI (k : Nat) (hk : k < 6) : idxD knownD (.int (k : Int)) = some (.lst (strL (tabsK k))) := by
  match k, hk with
  | 0, _ => rfl
  | 1, _ => rfl
  | 2, _ => rfl
  | 3, _ => rfl
  | 4, _ => rfl
  | 5, _ => rfl
theorem tabsT (k : Nat) (hk : k < 6) : (tabsK k).length ≤ 2 ∧ ∀ t ∈ tabsK k, ∃ j, TbJ j t := by
  have key : ∀ t : List Nat, (t.length = 2 ∨ t.length = 4 ∨ t.length = 8) → isBits t = true → ∃ j, TbJ j t := fun t h b => by
    rcases h with h | h | h
    · exact ⟨0, by decide, h, b⟩
    · exact ⟨1, by decide, h, b⟩
    · exact ⟨2, by decide, h, b⟩
  have h2 : (tabsK k).all (fun t => (t.length == 2 || t.length == 4 || t.length == 8) && isBits t) = true ∧ (tabsK k).length ≤ 2 := by
    match k, hk with
    | 0, _ => exact ⟨by decide, by decide⟩
    | 1, _ => exact ⟨by decide, by decide⟩
    | 2, _ => exact ⟨by decide, by decide⟩
    | 3, _ => exact ⟨by decide, by decide⟩
    | 4, _ => exact ⟨by decide, by decide⟩
    | 5, _ => exact ⟨by decide, by decide⟩
  refine ⟨h2.2, fun t ht => ?_⟩
  have := List.all_eq_true.mp h2.1 t ht
  simp only [Bool.and_eq_true, Bool.or_eq_true, beq_iff_eq] at this
  exact key t (by rcases this.1 with (h | h) | h <;> simp [h]) this.2
section
variable {k : Nat} (hk : k < 6) {ps : Gts} (hG : IsG ps) (hT : ∀ t, t ∈ ps.map (·.2) ↔ t ∈ tabsK k)
include hk hG hT
theorem cl8 : closedL (2 ^ 3) (ps.map (·.2)) (projN 3) = (List.range (2 ^ 8)).filter fun x => Nat.testBit (maskK k) x := (closedL_congr hT).trans (closK k hk)
theorem num_ok {s0 s5 s6 s7 s8 s9 s10 : Slot} {st : PSt} (hs : st.hd = []) : exS (cN 30) 1000 sNum [s0, some (false, .stt), some (false, knownD), some (false, .int (k : Int)), some (false, gatesD ps), s5, s6, s7, s8, s9, s10] st = some (.nx, [s0, some (false, .stt), some (false, knownD), some (false, .int (k : Int)), some (false, gatesD ps), s5, s6, s7, s8, s9, s10], st) := by
  have h1 := sp_number_built lib (wf := 1000) (n := 24) (k := 3) (st := st) (ps := ps) hs hG (by decide) (by decide)
  rw [cl8 hk hG hT, lenK k hk] at h1
  have h2 := cntI k hk
  have h3 := sp_same_int lib (wf := 1000) (n := 29) (st := st) (i := (cntK k : Nat)) (j := (cntK k : Nat)) hs
  rw [beq_self_eq_true] at h3
  simp only [Nat.reduceAdd, Int.cast_ofNat_Int] at h1 h3
  clear hG hT
  walk_at "ev"
theorem tab_ok {i q : Nat} {s0 s6 s7 s8 s9 s10 : Slot} {st : PSt} (hp : Pk (q + 8) st) : ∃ l st', (l.length = 8 ∧ isBits l = true) ∧ Pk q st' ∧
    evE (cN 30) eTab [s0, some (false, .stt), some (false, knownD), some (false, .int (k : Int)), some (false, gatesD ps), some (false, .int (i : Int)), s6, s7, s8, s9, s10] st = some (.str l, [s0, some (false, .stt), some (false, knownD), some (false, .int (k : Int)), some (false, gatesD ps), some (false, .int (i : Int)), s6, s7, s8, s9, s10], st') := by
  by_cases hi : (0 : Int) < (i : Int)
  · have hd := decide_eq_true hi
    obtain ⟨l, st', h1, h2, h3, h4⟩ := sp_bits lib (by decide : 1000 ≤ 1000) (n := 28) (q := q) (many := 8) (st := st) (by decide) hp
    refine ⟨l, st', ⟨h1, h2⟩, h3, ?_⟩
    have hh := h3.hd
    simp only [Nat.reduceAdd, Int.cast_ofNat_Int] at h4
    clear hG hT hk
    walk_at "ev"
  · have hd := decide_eq_false hi
    obtain ⟨x, st', h1, h2, h3⟩ := sp_one lib (by decide : 1000 ≤ 1000) (n := 28) (q := q) (xs := strL five) (st := st) (by decide) (by decide) (hp.less (by omega))
    obtain ⟨l, hl, rfl⟩ := List.mem_map.mp h1
    refine ⟨l, st', five_ok l hl, h2, ?_⟩
    simp only [Nat.reduceAdd, strL, five, List.map_cons, List.map_nil] at h3
    clear hG hT hk h1 hl
    walk_at "ev"
theorem stepA {i q : Nat} {s0 s5 s6 s7 s8 s9 s10 : Slot} {st : PSt} (hp : Pk (q + 8) st) : ∃ t6 st', Pk q st' ∧
    forB (cN 30) 1000 (.nm 5) bA (.int (i : Int)) [s0, some (false, .stt), some (false, knownD), some (false, .int (k : Int)), some (false, gatesD ps), s5, s6, s7, s8, s9, s10] st = some (.nx, [s0, some (false, .stt), some (false, knownD), some (false, .int (k : Int)), some (false, gatesD ps), some (false, .int (i : Int)), t6, s7, s8, s9, s10], st') := by
  obtain ⟨l, st', ⟨h1, h2⟩, h3, h4⟩ := tab_ok hk hG hT (i := i) (q := q) (s0 := s0) (s6 := s6) (s7 := s7) (s8 := s8) (s9 := s9) (s10 := s10) hp
  have hs := h3.hd
  refine ⟨some (false, .str l), st', h3, ?_⟩
  have c1 := sp_can_build lib (by decide : 1000 ≤ 1000) (n := 23) (j := 2) (st := st') (ps := ps) (t := l) hs hG (tb8 h1 h2) (by decide)
  have c2 := fits k hk h1 h2 (n := 30) (st := st') (by decide) hs
  have hb : decide (l ∈ (closedL (2 ^ (2 + 1)) (ps.map (·.2)) (projN (2 + 1))).map (sig (2 ^ (2 + 1)))) = Nat.testBit (maskK k) (worth l) := by
    rw [show (2 + 1 : Nat) = 3 from rfl, cl8 hk hG hT, Bool.eq_iff_iff, decide_eq_true_eq]
    rw [mem_sigs (sz := 2 ^ 3) h1 h2 (fun x hx => List.mem_range.mp (List.mem_filter.mp hx).1), List.mem_filter, List.mem_range]
    exact ⟨fun h => h.2, fun h => ⟨(worth8 h1 h2).1, h⟩⟩
  rw [hb] at c1
  have c3 := sp_same_bl lib (wf := 1000) (n := 29) (st := st') (a := Nat.testBit (maskK k) (worth l)) (b := Nat.testBit (maskK k) (worth l)) hs
  rw [beq_self_eq_true] at c3
  simp only [Nat.reduceAdd] at c1 c3
  clear hb hp h1 h2 h3 hG hT hk
  simp -implicitDefEqProofs only [forB_app, z_bnm, oK_some, List.set_cons_zero, List.set_cons_succ, z_scons, z_set, h4, bK_some, sK_nx]
  walk_at "ev"
theorem stepB {i q : Nat} {s0 s5 s6 s7 s8 s9 s10 : Slot} {st : PSt} (hp : Pk (q + 5) st) : ∃ t6 t7 t8 t9 st', Pk q st' ∧
    forB (cN 30) 1000 (.nm 5) bB (.int (i : Int)) [s0, some (false, .stt), some (false, knownD), some (false, .int (k : Int)), some (false, gatesD ps), s5, s6, s7, s8, s9, s10] st = some (.nx, [s0, some (false, .stt), some (false, knownD), some (false, .int (k : Int)), some (false, gatesD ps), some (false, .int (i : Int)), t6, t7, t8, t9, s10], st') := by
  obtain ⟨l, st', h1, h2, h3, h4⟩ := sp_bits lib (by decide : 1000 ≤ 1000) (n := 28) (q := q) (many := 5) (st := st) (by decide) hp
  have hs := h3.hd
  have hl : sig 5 (worth l) = l := by rw [← h1]; exact sig_worth h2
  have hx : worth l < 32 := by
    have := worth_lt (isBits_of h2)
    rw [h1] at this; exact this
  obtain ⟨t6, t8, t9, e⟩ := b3 (worth l) hx s0 (some (false, .stt)) (some (false, knownD)) (some (false, .int (k : Int))) (some (false, gatesD ps)) (some (false, .int (i : Int))) s6 s8 s9 s10
  rw [hl] at e
  have e2 := exL_pure sim (n := 20) (m := 30) (by decide) (by decide +kernel) (st := st') (by rw [hs]; rfl) e
  refine ⟨t6, some (false, .str l), t8, t9, st', h3, ?_⟩
  simp only [Nat.reduceAdd, Int.cast_ofNat_Int] at h4
  have e1 : evE (cN 30) (.lend "_law_bits" [(.var 1), (.int 5)]) [s0, some (false, .stt), some (false, knownD), some (false, .int (k : Int)), some (false, gatesD ps), some (false, .int (i : Int)), s6, s7, s8, s9, s10] st = some (.str l, [s0, some (false, .stt), some (false, knownD), some (false, .int (k : Int)), some (false, gatesD ps), some (false, .int (i : Int)), s6, s7, s8, s9, s10], st') := by
    clear e e2 hG hT hk hp h3 h1 h2 hl hx
    walk_at "ev"
  simp -implicitDefEqProofs only [forB_app, z_bnm, oK_some, List.set_cons_zero, List.set_cons_succ]
  rw [z_scons, z_set, e1]
  simp -implicitDefEqProofs only [bK_some, sK_nx, List.set_cons_zero, List.set_cons_succ]
  exact e2
end
end K92
/-! K92L6 -/
namespace K92
open Ev Mx EvBin
local macro_rules | `(tactic| walk_at "ev") => `(tactic| simp -implicitDefEqProofs only [↓bK_v, ↓cK_v, ↓oK_v, ↓tK_v, ↓iK_v, ↓sK_v, ↓vK_v, ↓insK_v, ↓hK_v, bK_w, cK_w, oK_w, tK_wt, tK_wf, iK_w, sK_wn, sK_wr, vK_w, insK_w, hK_w, vec_one, z_var, z_mv, z_int, z_bl, z_non, z_str, z_glb, z_bin, z_neg, z_inv, z_not, z_cmp, z_isN, z_ntN, z_chain, z_and, z_or, z_ite, z_tup, z_lst, z_call, z_lend, z_meth, z_fld, z_bi, z_bf, z_idx, z_sl, z_sget, z_snz, z_spop, z_appPop, z_lzip, z_hin, z_hlen, z_hkeys, z_hne, z_lc, z_nil, z_cons, z_no, z_so, z_no', z_so', lcB_app, forB_app, whC_app, whB_app, z_bnm, z_set, z_own, z_tset, z_par, z_app, z_ext, z_put, z_site, z_whl, z_for, z_ret, z_ex, z_pass, z_snil, z_scons, z_sput, z_hput, z_hupd, bK_some, cK_some, oK_some, tK_true, tK_false, iK_true, sK_nx, sK_rt, fK_rt, fK_nx, vK_some, insK_some, hK_some, negD, invD, notD, fldD, intO, seqO, lstO, intI, hndI, isNonD, setAll, bindD, ownL, ownD, wipeE, backE, isStt, stGet, stPut, Option.getD_some, Option.bind_some, Option.map_some, List.length_cons, List.length_nil, Int.toNat_natCast, Nat.reduceAdd, Nat.reduceSub, Nat.reduceEqDiff, List.map_cons, List.map_nil, List.replicate, List.cons_append, List.nil_append, List.getElem?_cons_zero, List.getElem?_cons_succ, List.set_cons_zero, List.set_cons_succ, ite_true, ite_false, hget, keyD, Bool.not_true, Bool.not_false, Bool.false_eq_true, if_false, if_true, if_pos, flatD, y_add, y_addS, y_addL, y_sub, y_mulR, y_mulL, y_mulS, y_mod, y_div, y_pow, y_band, y_bor, y_eq, y_ne, y_lt, y_le, y_gt, y_ge, y_ltS, y_inn, y_nin, e_ii, e_ss, e_bb, e_nn, e_si, e_is, i_ss, i_s1, i_sL, i_sT, q_lenL, q_lenT, q_lenS, q_lenD, q_abs, q_max, q_min, q_int, q_int2, q_all, q_any, q_join, c_listL, c_listT, d_lst, d_tup, d_str, d_lst0, d_lst1, d_lst2, d_tup0, d_tup1, d_tup2, d_str0, s_seqL, s_seqT, s_seqS, s_rng, s_rng1, s_rng2, s_rng3, s_rng4, s_rng5, s_rng6, s_rng7, s_rng8, s_rng600, s_enm, s_zpL, s_zpT, z_isi', t_1, t_2, t_3, t_4, t_5, t_6, t_7, t_8, t_9, t_10, t_11, t_12, t_13, t_14, t_15, t_16, t_17, t_18, t_19, t_20, t_21, t_22, t_23, t_24, t_25, t_26, t_27, t_28, t_29, t_30, t_31, t_32, t_33, t_34, t_35, t_36, t_37, t_38, t_39, t_40, t_41, t_42, t_43, t_44, t_45, t_46, t_47, t_48, t_49, t_50, t_51, t_52, t_53, t_54, t_55, t_56, t_57, t_58, t_59, t_60, t_61, t_62, t_63, t_64, t_65, t_66, t_67, t_68, t_69, t_70, t_71, t_72, t_73, t_74, t_75, t_76, t_77, t_78, t_79, t_80, t_81, Bool.and_true, Bool.true_and, Bool.false_and, Bool.or_false, Bool.false_or, Bool.true_or, decide_true, decide_false, List.isEmpty_nil, Option.isSome_some, hset, and_self, and_true, true_and, or_true, true_or, Int.cast_ofNat_Int, Int.reduceDiv, Int.reduceMod, Int.reduceLT, Int.reduceLE, Int.reduceAdd, Int.reduceSub, Int.reduceMul, Int.reduceNeg, Int.reduceBEq, Int.reduceEq, Int.reduceToNat, Nat.reduceLT, Nat.reduceLeDiff, Nat.reduceBEq, reduceIte, beq_self_eq_true, *])
section
variable {k : Nat} (hk : k < 6) {ps : Gts} (hG : IsG ps) (hT : ∀ t, t ∈ ps.map (·.2) ↔ t ∈ tabsK k)
include hk hG hT
theorem loopA : ∀ (m i q : Nat) (s0 s5 s6 s7 s8 s9 s10 : Slot) (st : PSt), Pk (q + 8 * m) st → ∃ t5 t6 st', Pk q st' ∧
    forL (forB (cN 30) 1000 (.nm 5) bA) ((List.range' i m).map fun (i : Nat) => D.int i) [s0, some (false, .stt), some (false, knownD), some (false, .int (k : Int)), some (false, gatesD ps), s5, s6, s7, s8, s9, s10] st = some (.nx, [s0, some (false, .stt), some (false, knownD), some (false, .int (k : Int)), some (false, gatesD ps), t5, t6, s7, s8, s9, s10], st') := by
  intro m
  induction m with
  | zero => intro i q s0 s5 s6 s7 s8 s9 s10 st hp; exact ⟨s5, s6, st, hp, by simp [forL]⟩
  | succ m ih =>
    intro i q s0 s5 s6 s7 s8 s9 s10 st hp
    obtain ⟨t6, st1, h1, e1⟩ := stepA hk hG hT (i := i) (q := q + 8 * m) (s0 := s0) (s5 := s5) (s6 := s6) (s7 := s7) (s8 := s8) (s9 := s9) (s10 := s10) (hp.less (by omega))
    obtain ⟨u5, u6, st', h2, e2⟩ := ih (i + 1) q s0 (some (false, .int (i : Int))) t6 s7 s8 s9 s10 st1 h1
    refine ⟨u5, u6, st', h2, ?_⟩
    rw [List.range'_succ, List.map_cons, forL, e1]
    exact e2
theorem loopB : ∀ (m i q : Nat) (s0 s5 s6 s7 s8 s9 s10 : Slot) (st : PSt), Pk (q + 5 * m) st → ∃ t5 t6 t7 t8 t9 st', Pk q st' ∧
    forL (forB (cN 30) 1000 (.nm 5) bB) ((List.range' i m).map fun (i : Nat) => D.int i) [s0, some (false, .stt), some (false, knownD), some (false, .int (k : Int)), some (false, gatesD ps), s5, s6, s7, s8, s9, s10] st = some (.nx, [s0, some (false, .stt), some (false, knownD), some (false, .int (k : Int)), some (false, gatesD ps), t5, t6, t7, t8, t9, s10], st') := by
  intro m
  induction m with
  | zero => intro i q s0 s5 s6 s7 s8 s9 s10 st hp; exact ⟨s5, s6, s7, s8, s9, st, hp, by simp [forL]⟩
  | succ m ih =>
    intro i q s0 s5 s6 s7 s8 s9 s10 st hp
    obtain ⟨t6, t7, t8, t9, st1, h1, e1⟩ := stepB hk hG hT (i := i) (q := q + 5 * m) (s0 := s0) (s5 := s5) (s6 := s6) (s7 := s7) (s8 := s8) (s9 := s9) (s10 := s10) (hp.less (by omega))
    obtain ⟨u5, u6, u7, u8, u9, st', h2, e2⟩ := ih (i + 1) q s0 (some (false, .int (i : Int))) t6 t7 t8 t9 s10 st1 h1
    refine ⟨u5, u6, u7, u8, u9, st', h2, ?_⟩
    rw [List.range'_succ, List.map_cons, forL, e1]
    exact e2
end
theorem law_pure {st : PSt} (hp : Pk 1000000 st) : ∃ ρ' st', exL (cN 30) 1000 b_law (none :: some (false, .stt) :: List.replicate 9 none) st = some (.rt (.bl true), ρ', st') := by
  obtain ⟨k, st1, hk, h1, e1⟩ := sp_pick lib (by decide : 1000 ≤ 1000) (n := 29) (m := 500000) (many := 6) (by decide) (by decide) (hp.less (by omega))
  obtain ⟨ht1, ht2⟩ := tabsT k hk
  obtain ⟨ps, st2, hG, hT, h2, e2⟩ := gates_of (k := (k : Int)) (q := 400000) (st := st1) (s0 := none) (s4 := none) (s5 := none) (s6 := none) (s7 := none) (s8 := none) (s9 := none) (s10 := none) (knownI k hk) ht1 ht2 (h1.less (by omega))
  have e3 := num_ok hk hG hT (s0 := none) (s5 := none) (s6 := none) (s7 := none) (s8 := none) (s9 := none) (s10 := none) (st := st2) h2.hd
  obtain ⟨t5, t6, st3, h3, e4⟩ := loopA hk hG hT 3 0 300000 none none none none none none none st2 (h2.less (by omega))
  obtain ⟨u5, u6, u7, u8, u9, st4, h4, e5⟩ := loopB hk hG hT 4 0 200000 none t5 t6 none none none none st3 (h3.less (by omega))
  rw [← List.range_eq_range'] at e4 e5
  have r3 := s_rng3
  have r4 := s_rng4
  unfold rngL at r3 r4
  have hh := h1.hd
  simp only [Nat.reduceAdd, Int.cast_ofNat_Int] at e1
  refine ⟨[none, some (false, .stt), some (false, knownD), some (false, .int (k : Nat)), some (false, gatesD ps), u5, u6, u7, u8, u9, none], st4, ?_⟩
  show exL (cN 30) 1000 [.set 2 _, .set 3 _, .set 4 eGates, sNum, .for (.nm 5) .rng [.int 3] bA, .for (.nm 5) .rng [.int 4] bB, .ret (.bl true)] _ st = _
  clear hp hk h1 ht1 ht2 hG hT h2 h3 h4
  simp -implicitDefEqProofs only [z_scons, z_set, z_lst, z_cons, z_nil, z_str, bK_some, sK_nx, List.replicate, List.set_cons_zero, List.set_cons_succ]
  have p1 : evE (cN 30) (.lend "_law_pick" [(.var 1), (.int 6)]) [none, some (false, .stt), some (false, knownD), none, none, none, none, none, none, none, none] st = some (.int (k : Nat), [none, some (false, .stt), some (false, knownD), none, none, none, none, none, none, none, none], st1) := by
    clear e2 e3 e4 e5
    walk_at "ev"
  simp -implicitDefEqProofs only [p1, bK_some, sK_nx, List.set_cons_zero, List.set_cons_succ, e2, e3, z_for, z_cons, z_nil, z_int, r3, r4, oK_some, e4, e5, z_ret, z_bl, sK_rt]
end K92
/-! LawEnd -/
/-! LawEnd: the law itself, from its first statement on. -/
namespace Ev
open PySem PySem.Spec PyProof.Rows L2
def spLaw (K : PySem.W.Frag) : Sp := fun vs H Q _ => ∃ (a : Addr) (ns : List Int), vs = [.ref a] ∧ SqL K H a (ns.map V.int) ∧ ns.length ≤ 63 ∧ ∀ H', Q (.bl true) H'
def spStart (K : PySem.W.Frag) : Sp := fun vs H Q _ => ∃ (a : Addr) (ns : List Int), vs = [.ref a] ∧ SqL K H a (ns.map V.int) ∧
  ∀ H' p q, p ≠ q → H' q = some (.lst (ns.map V.int)) → H' p = some (.lst [.ref q, .int 0, .int 0, .int 29]) → Q (.ref p) H'
theorem start_ok {P : Program} {w : World} {K : PySem.W.Frag} {mg : Str → Option Value} {base : Heap} {k : Nat} {sS : Stmt} {fA : Addr} {fd : FuncData}
    (Fn : Fun K "_law_start" "_law_start" sS fA fd) (Sc : FnScope ["script"] ["script"] (defScope sS)) (ml : mg "list" = none) (hv : Vis (defScope sS) (nm "script")) (hgl : ∀ cdv A outer s H E, Gl (cxOf CX0 P w K mg base ["script"] "_law_start" (defScope sS) fA cdv A outer s H E).nox "list")
    (hb : ∃ p1 p2 p3 p4 p5 p6 p7 p8 k4 k5 k6, defBody sS = [.Return (some (.List [.Call (.Name (nm "list") p1) [.Name (nm "script") p2] [] p3, .Constant (.int 0) k4 p4, .Constant (.int 0) k5 p5, .Constant (.int 29) k6 p6] p7)) p8]) :
    FnOk P w K mg base CX0 (k + 1) fA fd ["script"] (spStart K) := by
  refine Fn.ok Sc (fun vs H Q E h => ?_) (fun cdv A outer s H vs Q E hr hsp => ?_)
  · obtain ⟨_, _, rfl, _⟩ := h
    rfl
  obtain ⟨a, ns, rfl, hS, kQ⟩ := hsp
  obtain ⟨p1, p2, p3, p4, p5, p6, p7, p8, k4, k5, k6, hb⟩ := hb
  rw [hb]
  refine ⟨_, pss_one (ps_ret (pe_lst (pa_cons (pe_callTy call_list_of (hgl _ _ _ _ _ _) ml (by rfl) (pa_cons (pv 0 rfl hv) pa_nil)) (pa_cons pe_int (pa_cons pe_int (pa_cons pe_int pa_nil)))))), ?_⟩
  refine ⟨.ref a, rfl, ?_⟩
  refine ⟨a, _, rfl, .inl hS, fun q hq => ?_⟩
  refine ⟨show 4 ≤ sizeLine by decide, fun p hp => ?_⟩
  have npq : p ≠ q := by
    rintro rfl
    rw [upd_same] at hp; cases hp
  exact kQ _ p q npq (by rw [upd_ne npq.symm, upd_same]) upd_same
theorem law_ok {P : Program} {w : World} {K : PySem.W.Frag} {mg : Str → Option Value} {base : Heap} {k m n wf : Nat} {cs : List String} {T : Tb} {cl : Cl} {sL : Stmt} {fA fS : Addr} {fd fdS : FuncData} {Ns : List Str} {body : List S}
    (Fn : Fun K "law" "law" sL fA fd) (Sc : FnScope Ns ["script"] (defScope sL)) (h0 : Ns[0]? = some (nm "script")) (h1 : Ns[1]? = some (nm "state")) (hm : Ns.length = m + 2) (hloc : L2.Loc (defScope sL) (nm "state")) (hv : Vis (defScope sL) (nm "script"))
    (hgl : ∀ cdv A outer s H E, Gl (cxOf CX0 P w K mg base Ns "law" (defScope sL) fA cdv A outer s H E).nox "_law_start")
    (tb : trLs (trS T n n) ⟨⟨Ns, defScope sL, fun _ => true, []⟩, []⟩ ((defBody sL).drop 1) = some body)
    (hb : ∃ p1 p2 p3 p4 p5, defBody sL = .Assign [.Name (nm "state") p1] (.Call (.Name (nm "_law_start") p2) [.Name (nm "script") p3] [] p4) p5 :: (defBody sL).drop 1)
    (FS : FnOk P w K mg base CX0 k fS fdS ["script"] (spStart K)) (hS : mg "_law_start" = some (.ref fS)) (kS : PySem.W.keepIn K (.ref fS) = true) (bS : Binds K fdS ["script"] [])
    (hctx : ∀ (sa : Option (Addr × Addr)) (X : Cx), X.prog = P → X.w = w → X.base = base → XOk ⟨K, mg, sa, cs, []⟩ X → Room k X.A → CtxOk T cl ⟨K, mg, sa, cs, []⟩ X)
    (hev : ∀ st, Pk 1000000 st → ∃ ρ' st', exL cl wf body (none :: some (false, .stt) :: List.replicate m none) st = some (.rt (.bl true), ρ', st')) :
    FnOk P w K mg base CX0 (k + 1) fA fd ["script"] (spLaw K) := by
  refine Fn.ok Sc (fun vs H Q E h => ?_) (fun cdv A outer s H vs Q E hr hsp => ?_)
  · obtain ⟨_, _, rfl, _⟩ := h
    rfl
  obtain ⟨a, ns, rfl, hSq, hl, kQ⟩ := hsp
  obtain ⟨p1, p2, p3, p4, p5, hb⟩ := hb
  refine ⟨tSeq (tAsg (tCall (spStart K) [] E0 (tCons (tVar 0) tNil)) (gName 1)) (fun D σ H => ∃ z : (Addr × Addr) × Hp, tS ⟨⟨K, mg, some z.1, cs, []⟩, fun _ => none, z.2, fun _ => False, 0⟩ (exL cl wf body) D σ H), ?_, ?_⟩
  · rw [hb]
    refine pss_cons (ps_set (i := 1) Sc.nd h1 hloc (pe_call FS hr (hgl _ _ _ _ _ _) hS kS bS .nil pass0 (pa_cons (pv 0 h0 hv) pa_nil))) (pss_ex fun z => ?_)
    exact trLs_ok (s := ⟨⟨Ns, defScope sL, fun _ => true, []⟩, []⟩) (trS_ok n) (hctx _ _ rfl rfl rfl ⟨rfl, rfl, Sc.nd, rfl, hr.units⟩ hr) ⟨rfl, rfl, rfl⟩ rfl tb
  refine ⟨.ref a, start_v rfl, ?_⟩
  refine ⟨a, ns, rfl, hSq, fun H' p q npq hq hp => ?_⟩
  obtain ⟨ρ', st', e⟩ := hev ⟨ns, 0, 0, 29, []⟩ ⟨rfl, show (0 : Int) ≤ 0 by decide, show (0 : Int) ≤ 0 by decide, show (0 : Int) + ((1000000 : Nat) : Int) ≤ 100000000000 by decide, show (0 : Int) ≤ 29 by decide, show (29 : Int) < 2147483647 by decide, hl⟩
  have hlen : (L2.start Ns [V.ref a]).length = Ns.length := by unfold L2.start; simp [hm]
  have no : ∀ (j : Nat) (b : Bool) (d : D), ((none : Slot) :: some (false, D.stt) :: List.replicate m none)[j]? = some (some (b, d)) → j = 1 ∧ b = false ∧ d = .stt := fun j b d z => by
    match j, z with
    | 0, z => cases z
    | 1, z => cases z; exact ⟨rfl, rfl, rfl⟩
    | j + 2, z =>
      rw [List.getElem?_cons_succ, List.getElem?_cons_succ] at z
      have := List.mem_of_getElem? z
      rw [List.mem_replicate] at this
      cases this.2
  refine ⟨((p, q), H'), fun _ => none, none :: some (false, .stt) :: List.replicate m none, ⟨ns, 0, 0, 29, []⟩, ?_, _, _, _, e, fun F2 H2 v _ _ _ r => ?_⟩
  · refine ⟨⟨fun x u h => (by cases h), ⟨fun r hr' => ?_, rfl, by show ([] : List Addr).Nodup; simp, fun r _ => by show r.1 ∉ [] ∧ r.2 ∉ []; simp, fun i b d h1 _ => by cases h1⟩, ?_, fun j s x z1 z2 => ?_, fun i j d e a _ z _ _ _ => ?_⟩, Ext.refl _ _ _, fun j d a z _ => ?_, fun a z => z.elim, fun j d a z _ => ?_⟩
    · cases hr'
      exact ⟨npq, rfl, rfl, hp, hq, hl⟩
    · rw [List.length_set, hlen, hm]; simp
    · rcases s with _ | ⟨b, d⟩
      · trivial
      · obtain ⟨rfl, rfl, rfl⟩ := no j b d z1
        rw [List.getElem?_set_self (by rw [hlen, hm]; omega)] at z2
        cases z2
        exact ⟨.ref p, rfl, by simp only [Rep]; exact ⟨(p, q), rfl, rfl⟩⟩
    · exact absurd (no i true d z).2.1 (by decide)
    · exact absurd (no j true d z).2.1 (by decide)
    · exact absurd (no j true d z).2.1 (by decide)
  · have ev : v = .bl true := by simpa [Rep] using r
    subst ev
    exact kQ H2
end Ev
/-! K92Fin -/
namespace K92
open PySem PySem.Spec PyProof.Rows L2 Ev
section
variable {K : PySem.W.Frag} {mg : Str → Option Value} {h : Heap} {cs : List String}
theorem kit_of {c : Addr} {T : String} {b : Bool} (h : PySem.W.subIn K (.ref c) (.type T) = some b) (m : PySem.W.kitMeta T = true) : PySem.W.kitOne K (.ref c) (.type T) = some b := by
  unfold PySem.W.kitOne
  rw [if_neg (by intro z; cases z)]
  unfold PySem.W.kitCls
  simp only [m, if_true]
  exact h
theorem ins_mk {c : Addr} (pg : PySem.W.plainGet K c Str.empty = true) (hd : PySem.W.hasDictIn K c = true) (po : PySem.W.plainOver K c = true) (sa : PySem.W.findIn K (.ref c) "__setattr__" = some (some (.builtin "object.__setattr__")))
    (ha : PySem.W.findIn K (.ref c) "__class__" = some (some (.builtin "object.__class__"))) (hn : PySem.W.specialIn K (.builtin "object.__class__") "__get__" = some (some (.builtin "getset_descriptor.__get__"))) (tk : PySem.W.takesIn K (.builtin "object.__class__") = some true) (ob : PySem.W.mroIn K c (.type "object") = some true)
    (k1 : PySem.W.subIn K (.ref c) (.type "NoneType") = some false) (k2 : PySem.W.subIn K (.ref c) (.type "bool") = some false) (k3 : PySem.W.subIn K (.ref c) (.type "int") = some false) (k4 : PySem.W.subIn K (.ref c) (.type "str") = some false) (k5 : PySem.W.subIn K (.ref c) (.type "list") = some false) (k6 : PySem.W.subIn K (.ref c) (.type "tuple") = some false) (k7 : PySem.W.subIn K (.ref c) (.type "dict") = some false) : InsC K c :=
  ⟨⟨pg, hd, po, sa⟩, ha, hn, tk, ob, fun T hT => by
    simp only [tys, List.mem_cons, List.not_mem_nil, or_false] at hT
    rcases hT with rfl | rfl | rfl | rfl | rfl | rfl | rfl
    · exact kit_of k1 rfl
    · exact kit_of k2 rfl
    · exact kit_of k3 rfl
    · exact kit_of k4 rfl
    · exact kit_of k5 rfl
    · exact kit_of k6 rfl
    · exact kit_of k7 rfl⟩
theorem f_d3 (X : K.In h) (G : h.Ns mainGlobals mg) {f : Addr} {oc : Value} {od an : Option Addr} {sl : Array (Option Value)} {kV dc pm cd ct : Value} (a : PySem.W.nsIn K mainGlobals "is_integer" = some (some (.ref f))) (l : K.lookup f = some ⟨oc, od, .func (PySem.W.fnOf "is_integer" "is_integer" (defArgs (K92.top 3)) (defBody (K92.top 3)) (defScope (K92.top 3)) .none kV dc pm an cd ct), sl⟩) (c : PySem.W.codeIn K cd "is_integer" = true) (k : PySem.W.keepIn K (.ref f) = true) : DFact K mg cs d3 :=
  ⟨f, _, fun_mk (st := (K92.top 3)) l c k, (fun_mk (st := (K92.top 3)) l c k).binds (ps := d3.ps) fun _ _ _ _ _ _ us hl => match us, hl with | [_], _ => rfl, PySem.W.mg_of X G a⟩
theorem f_d4 (X : K.In h) (G : h.Ns mainGlobals mg) {f : Addr} {oc : Value} {od an : Option Addr} {sl : Array (Option Value)} {kV dc pm cd ct : Value} (a : PySem.W.nsIn K mainGlobals "is_list" = some (some (.ref f))) (l : K.lookup f = some ⟨oc, od, .func (PySem.W.fnOf "is_list" "is_list" (defArgs (K92.top 4)) (defBody (K92.top 4)) (defScope (K92.top 4)) .none kV dc pm an cd ct), sl⟩) (c : PySem.W.codeIn K cd "is_list" = true) (k : PySem.W.keepIn K (.ref f) = true) : DFact K mg cs d4 :=
  ⟨f, _, fun_mk (st := (K92.top 4)) l c k, (fun_mk (st := (K92.top 4)) l c k).binds (ps := d4.ps) fun _ _ _ _ _ _ us hl => match us, hl with | [_], _ => rfl, PySem.W.mg_of X G a⟩
theorem f_d5 (X : K.In h) (G : h.Ns mainGlobals mg) {f : Addr} {oc : Value} {od an : Option Addr} {sl : Array (Option Value)} {kV dc pm cd ct : Value} (a : PySem.W.nsIn K mainGlobals "is_row" = some (some (.ref f))) (l : K.lookup f = some ⟨oc, od, .func (PySem.W.fnOf "is_row" "is_row" (defArgs (K92.top 5)) (defBody (K92.top 5)) (defScope (K92.top 5)) .none kV dc pm an cd ct), sl⟩) (c : PySem.W.codeIn K cd "is_row" = true) (k : PySem.W.keepIn K (.ref f) = true) : DFact K mg cs d5 :=
  ⟨f, _, fun_mk (st := (K92.top 5)) l c k, (fun_mk (st := (K92.top 5)) l c k).binds (ps := d5.ps) fun _ _ _ _ _ _ us hl => match us, hl with | [_, _], _ => rfl, PySem.W.mg_of X G a⟩
theorem f_d6 (X : K.In h) (G : h.Ns mainGlobals mg) {f : Addr} {oc : Value} {od an : Option Addr} {sl : Array (Option Value)} {kV dc pm cd ct : Value} (a : PySem.W.nsIn K mainGlobals "is_text" = some (some (.ref f))) (l : K.lookup f = some ⟨oc, od, .func (PySem.W.fnOf "is_text" "is_text" (defArgs (K92.top 6)) (defBody (K92.top 6)) (defScope (K92.top 6)) .none kV dc pm an cd ct), sl⟩) (c : PySem.W.codeIn K cd "is_text" = true) (k : PySem.W.keepIn K (.ref f) = true) : DFact K mg cs d6 :=
  ⟨f, _, fun_mk (st := (K92.top 6)) l c k, (fun_mk (st := (K92.top 6)) l c k).binds (ps := d6.ps) fun _ _ _ _ _ _ us hl => match us, hl with | [_], _ => rfl, PySem.W.mg_of X G a⟩
theorem f_d7 (X : K.In h) (G : h.Ns mainGlobals mg) {f : Addr} {oc : Value} {od an : Option Addr} {sl : Array (Option Value)} {kV dc pm cd ct : Value} (a : PySem.W.nsIn K mainGlobals "is_letters" = some (some (.ref f))) (l : K.lookup f = some ⟨oc, od, .func (PySem.W.fnOf "is_letters" "is_letters" (defArgs (K92.top 7)) (defBody (K92.top 7)) (defScope (K92.top 7)) .none kV dc pm an cd ct), sl⟩) (c : PySem.W.codeIn K cd "is_letters" = true) (k : PySem.W.keepIn K (.ref f) = true) : DFact K mg cs d7 :=
  ⟨f, _, fun_mk (st := (K92.top 7)) l c k, (fun_mk (st := (K92.top 7)) l c k).binds (ps := d7.ps) fun _ _ _ _ _ _ us hl => match us, hl with | [_], _ => rfl, PySem.W.mg_of X G a⟩
theorem f_d8 (X : K.In h) (G : h.Ns mainGlobals mg) {f : Addr} {oc : Value} {od an : Option Addr} {sl : Array (Option Value)} {kV dc pm cd ct : Value} (a : PySem.W.nsIn K mainGlobals "is_word" = some (some (.ref f))) (l : K.lookup f = some ⟨oc, od, .func (PySem.W.fnOf "is_word" "is_word" (defArgs (K92.top 8)) (defBody (K92.top 8)) (defScope (K92.top 8)) .none kV dc pm an cd ct), sl⟩) (c : PySem.W.codeIn K cd "is_word" = true) (k : PySem.W.keepIn K (.ref f) = true) : DFact K mg cs d8 :=
  ⟨f, _, fun_mk (st := (K92.top 8)) l c k, (fun_mk (st := (K92.top 8)) l c k).binds (ps := d8.ps) fun _ _ _ _ _ _ us hl => match us, hl with | [_], _ => rfl, PySem.W.mg_of X G a⟩
theorem f_d19 (X : K.In h) (G : h.Ns mainGlobals mg) {f : Addr} {oc : Value} {od an : Option Addr} {sl : Array (Option Value)} {kV dc pm cd ct : Value} (a : PySem.W.nsIn K mainGlobals "are_signs" = some (some (.ref f))) (l : K.lookup f = some ⟨oc, od, .func (PySem.W.fnOf "are_signs" "are_signs" (defArgs (K92.top 19)) (defBody (K92.top 19)) (defScope (K92.top 19)) .none kV dc pm an cd ct), sl⟩) (c : PySem.W.codeIn K cd "are_signs" = true) (k : PySem.W.keepIn K (.ref f) = true) : DFact K mg cs d19 :=
  ⟨f, _, fun_mk (st := (K92.top 19)) l c k, (fun_mk (st := (K92.top 19)) l c k).binds (ps := d19.ps) fun _ _ _ _ _ _ us hl => match us, hl with | [_, _], _ => rfl, PySem.W.mg_of X G a⟩
theorem f_d20 (X : K.In h) (G : h.Ns mainGlobals mg) {f : Addr} {oc : Value} {od an : Option Addr} {sl : Array (Option Value)} {kV dc pm cd ct : Value} (a : PySem.W.nsIn K mainGlobals "doubled" = some (some (.ref f))) (l : K.lookup f = some ⟨oc, od, .func (PySem.W.fnOf "doubled" "doubled" (defArgs (K92.top 20)) (defBody (K92.top 20)) (defScope (K92.top 20)) .none kV dc pm an cd ct), sl⟩) (c : PySem.W.codeIn K cd "doubled" = true) (k : PySem.W.keepIn K (.ref f) = true) : DFact K mg cs d20 :=
  ⟨f, _, fun_mk (st := (K92.top 20)) l c k, (fun_mk (st := (K92.top 20)) l c k).binds (ps := d20.ps) fun _ _ _ _ _ _ us hl => match us, hl with | [_], _ => rfl, PySem.W.mg_of X G a⟩
theorem f_d21 (X : K.In h) (G : h.Ns mainGlobals mg) {f : Addr} {oc : Value} {od an : Option Addr} {sl : Array (Option Value)} {kV dc pm cd ct : Value} (a : PySem.W.nsIn K mainGlobals "count_inputs" = some (some (.ref f))) (l : K.lookup f = some ⟨oc, od, .func (PySem.W.fnOf "count_inputs" "count_inputs" (defArgs (K92.top 21)) (defBody (K92.top 21)) (defScope (K92.top 21)) .none kV dc pm an cd ct), sl⟩) (c : PySem.W.codeIn K cd "count_inputs" = true) (k : PySem.W.keepIn K (.ref f) = true) : DFact K mg cs d21 :=
  ⟨f, _, fun_mk (st := (K92.top 21)) l c k, (fun_mk (st := (K92.top 21)) l c k).binds (ps := d21.ps) fun _ _ _ _ _ _ us hl => match us, hl with | [_], _ => rfl, PySem.W.mg_of X G a⟩
theorem f_d22 (X : K.In h) (G : h.Ns mainGlobals mg) {f : Addr} {oc : Value} {od an : Option Addr} {sl : Array (Option Value)} {kV dc pm cd ct : Value} (a : PySem.W.nsIn K mainGlobals "is_table" = some (some (.ref f))) (l : K.lookup f = some ⟨oc, od, .func (PySem.W.fnOf "is_table" "is_table" (defArgs (K92.top 22)) (defBody (K92.top 22)) (defScope (K92.top 22)) .none kV dc pm an cd ct), sl⟩) (c : PySem.W.codeIn K cd "is_table" = true) (k : PySem.W.keepIn K (.ref f) = true) : DFact K mg cs d22 :=
  ⟨f, _, fun_mk (st := (K92.top 22)) l c k, (fun_mk (st := (K92.top 22)) l c k).binds (ps := d22.ps) fun _ _ _ _ _ _ us hl => match us, hl with | [_], _ => rfl, PySem.W.mg_of X G a⟩
theorem f_d23 (X : K.In h) (G : h.Ns mainGlobals mg) {f : Addr} {oc : Value} {od an : Option Addr} {sl : Array (Option Value)} {kV dc pm cd ct : Value} (a : PySem.W.nsIn K mainGlobals "need_table" = some (some (.ref f))) (l : K.lookup f = some ⟨oc, od, .func (PySem.W.fnOf "need_table" "need_table" (defArgs (K92.top 23)) (defBody (K92.top 23)) (defScope (K92.top 23)) .none kV dc pm an cd ct), sl⟩) (c : PySem.W.codeIn K cd "need_table" = true) (k : PySem.W.keepIn K (.ref f) = true) : DFact K mg cs d23 :=
  ⟨f, _, fun_mk (st := (K92.top 23)) l c k, (fun_mk (st := (K92.top 23)) l c k).binds (ps := d23.ps) fun _ _ _ _ _ _ us hl => match us, hl with | [_], _ => rfl, PySem.W.mg_of X G a⟩
theorem f_d24 (X : K.In h) (G : h.Ns mainGlobals mg) {f : Addr} {oc : Value} {od an : Option Addr} {sl : Array (Option Value)} {kV dc pm cd ct : Value} (a : PySem.W.nsIn K mainGlobals "check_many" = some (some (.ref f))) (l : K.lookup f = some ⟨oc, od, .func (PySem.W.fnOf "check_many" "check_many" (defArgs (K92.top 24)) (defBody (K92.top 24)) (defScope (K92.top 24)) .none kV dc pm an cd ct), sl⟩) (c : PySem.W.codeIn K cd "check_many" = true) (k : PySem.W.keepIn K (.ref f) = true) : DFact K mg cs d24 :=
  ⟨f, _, fun_mk (st := (K92.top 24)) l c k, (fun_mk (st := (K92.top 24)) l c k).binds (ps := d24.ps) fun _ _ _ _ _ _ us hl => match us, hl with | [_], _ => rfl, PySem.W.mg_of X G a⟩
theorem f_d25 (X : K.In h) (G : h.Ns mainGlobals mg) {f : Addr} {oc : Value} {od an : Option Addr} {sl : Array (Option Value)} {kV dc pm cd ct : Value} (a : PySem.W.nsIn K mainGlobals "inputs_of" = some (some (.ref f))) (l : K.lookup f = some ⟨oc, od, .func (PySem.W.fnOf "inputs_of" "inputs_of" (defArgs (K92.top 25)) (defBody (K92.top 25)) (defScope (K92.top 25)) .none kV dc pm an cd ct), sl⟩) (c : PySem.W.codeIn K cd "inputs_of" = true) (k : PySem.W.keepIn K (.ref f) = true) : DFact K mg cs d25 :=
  ⟨f, _, fun_mk (st := (K92.top 25)) l c k, (fun_mk (st := (K92.top 25)) l c k).binds (ps := d25.ps) fun _ _ _ _ _ _ us hl => match us, hl with | [_], _ => rfl, PySem.W.mg_of X G a⟩
theorem f_d26 (X : K.In h) (G : h.Ns mainGlobals mg) {f : Addr} {oc : Value} {od an : Option Addr} {sl : Array (Option Value)} {kV dc pm cd ct : Value} (a : PySem.W.nsIn K mainGlobals "at_inputs" = some (some (.ref f))) (l : K.lookup f = some ⟨oc, od, .func (PySem.W.fnOf "at_inputs" "at_inputs" (defArgs (K92.top 26)) (defBody (K92.top 26)) (defScope (K92.top 26)) .none kV dc pm an cd ct), sl⟩) (c : PySem.W.codeIn K cd "at_inputs" = true) (k : PySem.W.keepIn K (.ref f) = true) : DFact K mg cs d26 :=
  ⟨f, _, fun_mk (st := (K92.top 26)) l c k, (fun_mk (st := (K92.top 26)) l c k).binds (ps := d26.ps) fun _ _ _ _ _ _ us hl => match us, hl with | [_, _], _ => rfl, PySem.W.mg_of X G a⟩
theorem f_d27 (X : K.In h) (G : h.Ns mainGlobals mg) {f : Addr} {oc : Value} {od an : Option Addr} {sl : Array (Option Value)} {kV dc pm cd ct : Value} (a : PySem.W.nsIn K mainGlobals "signs_of" = some (some (.ref f))) (l : K.lookup f = some ⟨oc, od, .func (PySem.W.fnOf "signs_of" "signs_of" (defArgs (K92.top 27)) (defBody (K92.top 27)) (defScope (K92.top 27)) .none kV dc pm an cd ct), sl⟩) (c : PySem.W.codeIn K cd "signs_of" = true) (k : PySem.W.keepIn K (.ref f) = true) : DFact K mg cs d27 :=
  ⟨f, _, fun_mk (st := (K92.top 27)) l c k, (fun_mk (st := (K92.top 27)) l c k).binds (ps := d27.ps) fun _ _ _ _ _ _ us hl => match us, hl with | [_, _], _ => rfl, PySem.W.mg_of X G a⟩
theorem f_d28 (X : K.In h) (G : h.Ns mainGlobals mg) {f : Addr} {oc : Value} {od an : Option Addr} {sl : Array (Option Value)} {kV dc pm cd ct : Value} (a : PySem.W.nsIn K mainGlobals "all_inputs" = some (some (.ref f))) (l : K.lookup f = some ⟨oc, od, .func (PySem.W.fnOf "all_inputs" "all_inputs" (defArgs (K92.top 28)) (defBody (K92.top 28)) (defScope (K92.top 28)) .none kV dc pm an cd ct), sl⟩) (c : PySem.W.codeIn K cd "all_inputs" = true) (k : PySem.W.keepIn K (.ref f) = true) : DFact K mg cs d28 :=
  ⟨f, _, fun_mk (st := (K92.top 28)) l c k, (fun_mk (st := (K92.top 28)) l c k).binds (ps := d28.ps) fun _ _ _ _ _ _ us hl => match us, hl with | [_], _ => rfl, PySem.W.mg_of X G a⟩
theorem f_d29 (X : K.In h) (G : h.Ns mainGlobals mg) {f : Addr} {oc : Value} {od an : Option Addr} {sl : Array (Option Value)} {kV dc pm cd ct : Value} (a : PySem.W.nsIn K mainGlobals "projection" = some (some (.ref f))) (l : K.lookup f = some ⟨oc, od, .func (PySem.W.fnOf "projection" "projection" (defArgs (K92.top 29)) (defBody (K92.top 29)) (defScope (K92.top 29)) .none kV dc pm an cd ct), sl⟩) (c : PySem.W.codeIn K cd "projection" = true) (k : PySem.W.keepIn K (.ref f) = true) : DFact K mg cs d29 :=
  ⟨f, _, fun_mk (st := (K92.top 29)) l c k, (fun_mk (st := (K92.top 29)) l c k).binds (ps := d29.ps) fun _ _ _ _ _ _ us hl => match us, hl with | [_, _], _ => rfl, PySem.W.mg_of X G a⟩
theorem f_d30 (X : K.In h) (G : h.Ns mainGlobals mg) {f : Addr} {oc : Value} {od an : Option Addr} {sl : Array (Option Value)} {kV dc pm cd ct : Value} (a : PySem.W.nsIn K mainGlobals "flipped" = some (some (.ref f))) (l : K.lookup f = some ⟨oc, od, .func (PySem.W.fnOf "flipped" "flipped" (defArgs (K92.top 30)) (defBody (K92.top 30)) (defScope (K92.top 30)) .none kV dc pm an cd ct), sl⟩) (c : PySem.W.codeIn K cd "flipped" = true) (k : PySem.W.keepIn K (.ref f) = true) : DFact K mg cs d30 :=
  ⟨f, _, fun_mk (st := (K92.top 30)) l c k, (fun_mk (st := (K92.top 30)) l c k).binds (ps := d30.ps) fun _ _ _ _ _ _ us hl => match us, hl with | [_, _], _ => rfl, PySem.W.mg_of X G a⟩
theorem f_d32 (X : K.In h) (G : h.Ns mainGlobals mg) {f : Addr} {oc : Value} {od an : Option Addr} {sl : Array (Option Value)} {kV dc pm cd ct : Value} (a : PySem.W.nsIn K mainGlobals "wrong_gates" = some (some (.ref f))) (l : K.lookup f = some ⟨oc, od, .func (PySem.W.fnOf "wrong_gates" "wrong_gates" (defArgs (K92.top 32)) (defBody (K92.top 32)) (defScope (K92.top 32)) .none kV dc pm an cd ct), sl⟩) (c : PySem.W.codeIn K cd "wrong_gates" = true) (k : PySem.W.keepIn K (.ref f) = true) : DFact K mg cs d32 :=
  ⟨f, _, fun_mk (st := (K92.top 32)) l c k, (fun_mk (st := (K92.top 32)) l c k).binds (ps := d32.ps) fun _ _ _ _ _ _ us hl => match us, hl with | [_], _ => rfl, PySem.W.mg_of X G a⟩
theorem f_d33_0 (X : K.In h) (G : h.Ns mainGlobals mg) {C : Addr} {f : Addr} {oc : Value} {od an : Option Addr} {sl : Array (Option Value)} {kV dc pm cd ct : Value} (aC : PySem.W.nsIn K mainGlobals "Gates" = some (some (.ref C))) (a : PySem.W.findIn K (.ref C) "__init__" = some (some (.ref f))) (i : PySem.W.isFn K (.ref f) = true) (l : K.lookup f = some ⟨oc, od, .func (PySem.W.fnOf "__init__" "Gates.__init__" (defArgs (inClass (K92.top 33) 0)) (defBody (inClass (K92.top 33) 0)) (defScope (inClass (K92.top 33) 0)) .none kV dc pm an cd ct), sl⟩) (c : PySem.W.codeIn K cd "Gates.__init__" = true) (k : PySem.W.keepIn K (.ref f) = true) (mk : PySem.W.makesIn K C = true) (kc : PySem.W.keepIn K (.ref C) = true) (hC : "Gates" ∈ cs) (hi : InsC K C) : DFact K mg cs d33_0 :=
  ⟨f, _, fun_mk (st := (inClass (K92.top 33) 0)) l c k, (fun_mk (st := (inClass (K92.top 33) 0)) l c k).binds (ps := d33_0.ps) fun _ _ _ _ _ _ us hl => match us, hl with | [_, _], _ => rfl, C, ⟨mk, a, i, kc⟩, PySem.W.mg_of X G aC, hC, hi⟩
theorem f_d33_1 (X : K.In h) (G : h.Ns mainGlobals mg) {C : Addr} {f : Addr} {oc : Value} {od an : Option Addr} {sl : Array (Option Value)} {kV dc pm cd ct : Value} (aC : PySem.W.nsIn K mainGlobals "Gates" = some (some (.ref C))) (a : PySem.W.findIn K (.ref C) "pairs" = some (some (.ref f))) (i : PySem.W.isFn K (.ref f) = true) (l : K.lookup f = some ⟨oc, od, .func (PySem.W.fnOf "pairs" "Gates.pairs" (defArgs (inClass (K92.top 33) 1)) (defBody (inClass (K92.top 33) 1)) (defScope (inClass (K92.top 33) 1)) .none kV dc pm an cd ct), sl⟩) (c : PySem.W.codeIn K cd "Gates.pairs" = true) (k : PySem.W.keepIn K (.ref f) = true) (hcl : Cls K C) : DFact K mg cs d33_1 :=
  ⟨f, _, fun_mk (st := (inClass (K92.top 33) 1)) l c k, (fun_mk (st := (inClass (K92.top 33) 1)) l c k).binds (ps := d33_1.ps) fun _ _ _ _ _ _ us hl => match us, hl with | [_], _ => rfl, C, PySem.W.mg_of X G aC, hcl, ⟨a, i, k⟩⟩
theorem f_d34 (X : K.In h) (G : h.Ns mainGlobals mg) {f : Addr} {oc : Value} {od an : Option Addr} {sl : Array (Option Value)} {kV dc pm cd ct : Value} (a : PySem.W.nsIn K mainGlobals "need_gates" = some (some (.ref f))) (l : K.lookup f = some ⟨oc, od, .func (PySem.W.fnOf "need_gates" "need_gates" (defArgs (K92.top 34)) (defBody (K92.top 34)) (defScope (K92.top 34)) .none kV dc pm an cd ct), sl⟩) (c : PySem.W.codeIn K cd "need_gates" = true) (k : PySem.W.keepIn K (.ref f) = true) : DFact K mg cs d34 :=
  ⟨f, _, fun_mk (st := (K92.top 34)) l c k, (fun_mk (st := (K92.top 34)) l c k).binds (ps := d34.ps) fun _ _ _ _ _ _ us hl => match us, hl with | [_], _ => rfl, PySem.W.mg_of X G a⟩
theorem f_d35 (X : K.In h) (G : h.Ns mainGlobals mg) {f : Addr} {oc : Value} {od an : Option Addr} {sl : Array (Option Value)} {kV dc pm cd ct : Value} (a : PySem.W.nsIn K mainGlobals "tables_in" = some (some (.ref f))) (l : K.lookup f = some ⟨oc, od, .func (PySem.W.fnOf "tables_in" "tables_in" (defArgs (K92.top 35)) (defBody (K92.top 35)) (defScope (K92.top 35)) .none kV dc pm an cd ct), sl⟩) (c : PySem.W.codeIn K cd "tables_in" = true) (k : PySem.W.keepIn K (.ref f) = true) : DFact K mg cs d35 :=
  ⟨f, _, fun_mk (st := (K92.top 35)) l c k, (fun_mk (st := (K92.top 35)) l c k).binds (ps := d35.ps) fun _ _ _ _ _ _ us hl => match us, hl with | [_], _ => rfl, PySem.W.mg_of X G a⟩
theorem f_d40 (X : K.In h) (G : h.Ns mainGlobals mg) {f : Addr} {oc : Value} {od an : Option Addr} {sl : Array (Option Value)} {kV dc pm cd ct : Value} (a : PySem.W.nsIn K mainGlobals "rows_of_inputs" = some (some (.ref f))) (l : K.lookup f = some ⟨oc, od, .func (PySem.W.fnOf "rows_of_inputs" "rows_of_inputs" (defArgs (K92.top 40)) (defBody (K92.top 40)) (defScope (K92.top 40)) .none kV dc pm an cd ct), sl⟩) (c : PySem.W.codeIn K cd "rows_of_inputs" = true) (k : PySem.W.keepIn K (.ref f) = true) : DFact K mg cs d40 :=
  ⟨f, _, fun_mk (st := (K92.top 40)) l c k, (fun_mk (st := (K92.top 40)) l c k).binds (ps := d40.ps) fun _ _ _ _ _ _ us hl => match us, hl with | [_], _ => rfl, PySem.W.mg_of X G a⟩
theorem f_d41 (X : K.In h) (G : h.Ns mainGlobals mg) {f : Addr} {oc : Value} {od an : Option Addr} {sl : Array (Option Value)} {kV dc pm cd ct : Value} (a : PySem.W.nsIn K mainGlobals "built_all" = some (some (.ref f))) (l : K.lookup f = some ⟨oc, od, .func (PySem.W.fnOf "built_all" "built_all" (defArgs (K92.top 41)) (defBody (K92.top 41)) (defScope (K92.top 41)) .none kV dc pm an cd ct), sl⟩) (c : PySem.W.codeIn K cd "built_all" = true) (k : PySem.W.keepIn K (.ref f) = true) : DFact K mg cs d41 :=
  ⟨f, _, fun_mk (st := (K92.top 41)) l c k, (fun_mk (st := (K92.top 41)) l c k).binds (ps := d41.ps) fun _ _ _ _ _ _ us hl => match us, hl with | [_, _], _ => rfl, PySem.W.mg_of X G a⟩
theorem f_d42 (X : K.In h) (G : h.Ns mainGlobals mg) {f : Addr} {oc : Value} {od an : Option Addr} {sl : Array (Option Value)} {kV dc pm cd ct : Value} (a : PySem.W.nsIn K mainGlobals "is_built" = some (some (.ref f))) (l : K.lookup f = some ⟨oc, od, .func (PySem.W.fnOf "is_built" "is_built" (defArgs (K92.top 42)) (defBody (K92.top 42)) (defScope (K92.top 42)) .none kV dc pm an cd ct), sl⟩) (c : PySem.W.codeIn K cd "is_built" = true) (k : PySem.W.keepIn K (.ref f) = true) : DFact K mg cs d42 :=
  ⟨f, _, fun_mk (st := (K92.top 42)) l c k, (fun_mk (st := (K92.top 42)) l c k).binds (ps := d42.ps) fun _ _ _ _ _ _ us hl => match us, hl with | [_, _], _ => rfl, PySem.W.mg_of X G a⟩
theorem f_d43 (X : K.In h) (G : h.Ns mainGlobals mg) {f : Addr} {oc : Value} {od an : Option Addr} {sl : Array (Option Value)} {kV dc pm cd ct : Value} (a : PySem.W.nsIn K mainGlobals "can_build" = some (some (.ref f))) (l : K.lookup f = some ⟨oc, od, .func (PySem.W.fnOf "can_build" "can_build" (defArgs (K92.top 43)) (defBody (K92.top 43)) (defScope (K92.top 43)) .none kV dc pm an cd ct), sl⟩) (c : PySem.W.codeIn K cd "can_build" = true) (k : PySem.W.keepIn K (.ref f) = true) : DFact K mg cs d43 :=
  ⟨f, _, fun_mk (st := (K92.top 43)) l c k, (fun_mk (st := (K92.top 43)) l c k).binds (ps := d43.ps) fun _ _ _ _ _ _ us hl => match us, hl with | [_, _], _ => rfl, PySem.W.mg_of X G a⟩
theorem f_d46 (X : K.In h) (G : h.Ns mainGlobals mg) {f : Addr} {oc : Value} {od an : Option Addr} {sl : Array (Option Value)} {kV dc pm cd ct : Value} (a : PySem.W.nsIn K mainGlobals "check_kind" = some (some (.ref f))) (l : K.lookup f = some ⟨oc, od, .func (PySem.W.fnOf "check_kind" "check_kind" (defArgs (K92.top 46)) (defBody (K92.top 46)) (defScope (K92.top 46)) .none kV dc pm an cd ct), sl⟩) (c : PySem.W.codeIn K cd "check_kind" = true) (k : PySem.W.keepIn K (.ref f) = true) : DFact K mg cs d46 :=
  ⟨f, _, fun_mk (st := (K92.top 46)) l c k, (fun_mk (st := (K92.top 46)) l c k).binds (ps := d46.ps) fun _ _ _ _ _ _ us hl => match us, hl with | [_], _ => rfl, PySem.W.mg_of X G a⟩
theorem f_d47 (X : K.In h) (G : h.Ns mainGlobals mg) {f : Addr} {oc : Value} {od an : Option Addr} {sl : Array (Option Value)} {kV dc pm cd ct : Value} (a : PySem.W.nsIn K mainGlobals "turned_about" = some (some (.ref f))) (l : K.lookup f = some ⟨oc, od, .func (PySem.W.fnOf "turned_about" "turned_about" (defArgs (K92.top 47)) (defBody (K92.top 47)) (defScope (K92.top 47)) .none kV dc pm an cd ct), sl⟩) (c : PySem.W.codeIn K cd "turned_about" = true) (k : PySem.W.keepIn K (.ref f) = true) : DFact K mg cs d47 :=
  ⟨f, _, fun_mk (st := (K92.top 47)) l c k, (fun_mk (st := (K92.top 47)) l c k).binds (ps := d47.ps) fun _ _ _ _ _ _ us hl => match us, hl with | [_], _ => rfl, PySem.W.mg_of X G a⟩
theorem f_d48 (X : K.In h) (G : h.Ns mainGlobals mg) {f : Addr} {oc : Value} {od an : Option Addr} {sl : Array (Option Value)} {kV dc pm cd ct : Value} (a : PySem.W.nsIn K mainGlobals "first_fall" = some (some (.ref f))) (l : K.lookup f = some ⟨oc, od, .func (PySem.W.fnOf "first_fall" "first_fall" (defArgs (K92.top 48)) (defBody (K92.top 48)) (defScope (K92.top 48)) .none kV dc pm an cd ct), sl⟩) (c : PySem.W.codeIn K cd "first_fall" = true) (k : PySem.W.keepIn K (.ref f) = true) : DFact K mg cs d48 :=
  ⟨f, _, fun_mk (st := (K92.top 48)) l c k, (fun_mk (st := (K92.top 48)) l c k).binds (ps := d48.ps) fun _ _ _ _ _ _ us hl => match us, hl with | [_], _ => rfl, PySem.W.mg_of X G a⟩
theorem f_d49 (X : K.In h) (G : h.Ns mainGlobals mg) {f : Addr} {oc : Value} {od an : Option Addr} {sl : Array (Option Value)} {kV dc pm cd ct : Value} (a : PySem.W.nsIn K mainGlobals "first_alike" = some (some (.ref f))) (l : K.lookup f = some ⟨oc, od, .func (PySem.W.fnOf "first_alike" "first_alike" (defArgs (K92.top 49)) (defBody (K92.top 49)) (defScope (K92.top 49)) .none kV dc pm an cd ct), sl⟩) (c : PySem.W.codeIn K cd "first_alike" = true) (k : PySem.W.keepIn K (.ref f) = true) : DFact K mg cs d49 :=
  ⟨f, _, fun_mk (st := (K92.top 49)) l c k, (fun_mk (st := (K92.top 49)) l c k).binds (ps := d49.ps) fun _ _ _ _ _ _ us hl => match us, hl with | [_], _ => rfl, PySem.W.mg_of X G a⟩
theorem f_d50 (X : K.In h) (G : h.Ns mainGlobals mg) {f : Addr} {oc : Value} {od an : Option Addr} {sl : Array (Option Value)} {kV dc pm cd ct : Value} (a : PySem.W.nsIn K mainGlobals "is_odd" = some (some (.ref f))) (l : K.lookup f = some ⟨oc, od, .func (PySem.W.fnOf "is_odd" "is_odd" (defArgs (K92.top 50)) (defBody (K92.top 50)) (defScope (K92.top 50)) .none kV dc pm an cd ct), sl⟩) (c : PySem.W.codeIn K cd "is_odd" = true) (k : PySem.W.keepIn K (.ref f) = true) : DFact K mg cs d50 :=
  ⟨f, _, fun_mk (st := (K92.top 50)) l c k, (fun_mk (st := (K92.top 50)) l c k).binds (ps := d50.ps) fun _ _ _ _ _ _ us hl => match us, hl with | [_, _], _ => rfl, PySem.W.mg_of X G a⟩
theorem f_d51 (X : K.In h) (G : h.Ns mainGlobals mg) {f : Addr} {oc : Value} {od an : Option Addr} {sl : Array (Option Value)} {kV dc pm cd ct : Value} (a : PySem.W.nsIn K mainGlobals "first_square" = some (some (.ref f))) (l : K.lookup f = some ⟨oc, od, .func (PySem.W.fnOf "first_square" "first_square" (defArgs (K92.top 51)) (defBody (K92.top 51)) (defScope (K92.top 51)) .none kV dc pm an cd ct), sl⟩) (c : PySem.W.codeIn K cd "first_square" = true) (k : PySem.W.keepIn K (.ref f) = true) : DFact K mg cs d51 :=
  ⟨f, _, fun_mk (st := (K92.top 51)) l c k, (fun_mk (st := (K92.top 51)) l c k).binds (ps := d51.ps) fun _ _ _ _ _ _ us hl => match us, hl with | [_], _ => rfl, PySem.W.mg_of X G a⟩
theorem f_d52 (X : K.In h) (G : h.Ns mainGlobals mg) {f : Addr} {oc : Value} {od an : Option Addr} {sl : Array (Option Value)} {kV dc pm cd ct : Value} (a : PySem.W.nsIn K mainGlobals "shown_not" = some (some (.ref f))) (l : K.lookup f = some ⟨oc, od, .func (PySem.W.fnOf "shown_not" "shown_not" (defArgs (K92.top 52)) (defBody (K92.top 52)) (defScope (K92.top 52)) .none kV dc pm an cd ct), sl⟩) (c : PySem.W.codeIn K cd "shown_not" = true) (k : PySem.W.keepIn K (.ref f) = true) : DFact K mg cs d52 :=
  ⟨f, _, fun_mk (st := (K92.top 52)) l c k, (fun_mk (st := (K92.top 52)) l c k).binds (ps := d52.ps) fun _ _ _ _ _ _ us hl => match us, hl with | [_, _], _ => rfl, PySem.W.mg_of X G a⟩
theorem f_d53 (X : K.In h) (G : h.Ns mainGlobals mg) {f : Addr} {oc : Value} {od an : Option Addr} {sl : Array (Option Value)} {kV dc pm cd ct : Value} (a : PySem.W.nsIn K mainGlobals "why_not" = some (some (.ref f))) (l : K.lookup f = some ⟨oc, od, .func (PySem.W.fnOf "why_not" "why_not" (defArgs (K92.top 53)) (defBody (K92.top 53)) (defScope (K92.top 53)) .none kV dc pm an cd ct), sl⟩) (c : PySem.W.codeIn K cd "why_not" = true) (k : PySem.W.keepIn K (.ref f) = true) : DFact K mg cs d53 :=
  ⟨f, _, fun_mk (st := (K92.top 53)) l c k, (fun_mk (st := (K92.top 53)) l c k).binds (ps := d53.ps) fun _ _ _ _ _ _ us hl => match us, hl with | [_, _], _ => rfl, PySem.W.mg_of X G a⟩
theorem f_d54 (X : K.In h) (G : h.Ns mainGlobals mg) {f : Addr} {oc : Value} {od an : Option Addr} {sl : Array (Option Value)} {kV dc pm cd ct : Value} (a : PySem.W.nsIn K mainGlobals "kinds_of" = some (some (.ref f))) (l : K.lookup f = some ⟨oc, od, .func (PySem.W.fnOf "kinds_of" "kinds_of" (defArgs (K92.top 54)) (defBody (K92.top 54)) (defScope (K92.top 54)) .none kV dc pm an cd ct), sl⟩) (c : PySem.W.codeIn K cd "kinds_of" = true) (k : PySem.W.keepIn K (.ref f) = true) : DFact K mg cs d54 :=
  ⟨f, _, fun_mk (st := (K92.top 54)) l c k, (fun_mk (st := (K92.top 54)) l c k).binds (ps := d54.ps) fun _ _ _ _ _ _ us hl => match us, hl with | [_], _ => rfl, PySem.W.mg_of X G a⟩
theorem f_d56 (X : K.In h) (G : h.Ns mainGlobals mg) {f : Addr} {oc : Value} {od an : Option Addr} {sl : Array (Option Value)} {kV dc pm cd ct : Value} (a : PySem.W.nsIn K mainGlobals "need_many" = some (some (.ref f))) (l : K.lookup f = some ⟨oc, od, .func (PySem.W.fnOf "need_many" "need_many" (defArgs (K92.top 56)) (defBody (K92.top 56)) (defScope (K92.top 56)) .none kV dc pm an cd ct), sl⟩) (c : PySem.W.codeIn K cd "need_many" = true) (k : PySem.W.keepIn K (.ref f) = true) : DFact K mg cs d56 :=
  ⟨f, _, fun_mk (st := (K92.top 56)) l c k, (fun_mk (st := (K92.top 56)) l c k).binds (ps := d56.ps) fun _ _ _ _ _ _ us hl => match us, hl with | [_, _], _ => rfl, PySem.W.mg_of X G a⟩
theorem f_d57 (X : K.In h) (G : h.Ns mainGlobals mg) {f : Addr} {oc : Value} {od an : Option Addr} {sl : Array (Option Value)} {kV dc pm cd ct : Value} (a : PySem.W.nsIn K mainGlobals "number_built" = some (some (.ref f))) (l : K.lookup f = some ⟨oc, od, .func (PySem.W.fnOf "number_built" "number_built" (defArgs (K92.top 57)) (defBody (K92.top 57)) (defScope (K92.top 57)) .none kV dc pm an cd ct), sl⟩) (c : PySem.W.codeIn K cd "number_built" = true) (k : PySem.W.keepIn K (.ref f) = true) : DFact K mg cs d57 :=
  ⟨f, _, fun_mk (st := (K92.top 57)) l c k, (fun_mk (st := (K92.top 57)) l c k).binds (ps := d57.ps) fun _ _ _ _ _ _ us hl => match us, hl with | [_, _], _ => rfl, PySem.W.mg_of X G a⟩
theorem f_d59 (X : K.In h) (G : h.Ns mainGlobals mg) {f : Addr} {oc : Value} {od an : Option Addr} {sl : Array (Option Value)} {kV dc pm cd ct : Value} (a : PySem.W.nsIn K mainGlobals "of_weights" = some (some (.ref f))) (l : K.lookup f = some ⟨oc, od, .func (PySem.W.fnOf "of_weights" "of_weights" (defArgs (K92.top 59)) (defBody (K92.top 59)) (defScope (K92.top 59)) .none kV dc pm an cd ct), sl⟩) (c : PySem.W.codeIn K cd "of_weights" = true) (k : PySem.W.keepIn K (.ref f) = true) : DFact K mg cs d59 :=
  ⟨f, _, fun_mk (st := (K92.top 59)) l c k, (fun_mk (st := (K92.top 59)) l c k).binds (ps := d59.ps) fun _ _ _ _ _ _ us hl => match us, hl with | [_], _ => rfl, PySem.W.mg_of X G a⟩
theorem f_d62 (X : K.In h) (G : h.Ns mainGlobals mg) {f : Addr} {oc : Value} {od an : Option Addr} {sl : Array (Option Value)} {kV dc pm cd ct : Value} (a : PySem.W.nsIn K mainGlobals "_law_pick" = some (some (.ref f))) (l : K.lookup f = some ⟨oc, od, .func (PySem.W.fnOf "_law_pick" "_law_pick" (defArgs (K92.top 62)) (defBody (K92.top 62)) (defScope (K92.top 62)) .none kV dc pm an cd ct), sl⟩) (c : PySem.W.codeIn K cd "_law_pick" = true) (k : PySem.W.keepIn K (.ref f) = true) : DFact K mg cs d62 :=
  ⟨f, _, fun_mk (st := (K92.top 62)) l c k, (fun_mk (st := (K92.top 62)) l c k).binds (ps := d62.ps) fun _ _ _ _ _ _ us hl => match us, hl with | [_, _], _ => rfl, PySem.W.mg_of X G a⟩
theorem f_d63 (X : K.In h) (G : h.Ns mainGlobals mg) {f : Addr} {oc : Value} {od an : Option Addr} {sl : Array (Option Value)} {kV dc pm cd ct : Value} (a : PySem.W.nsIn K mainGlobals "_law_one" = some (some (.ref f))) (l : K.lookup f = some ⟨oc, od, .func (PySem.W.fnOf "_law_one" "_law_one" (defArgs (K92.top 63)) (defBody (K92.top 63)) (defScope (K92.top 63)) .none kV dc pm an cd ct), sl⟩) (c : PySem.W.codeIn K cd "_law_one" = true) (k : PySem.W.keepIn K (.ref f) = true) : DFact K mg cs d63 :=
  ⟨f, _, fun_mk (st := (K92.top 63)) l c k, (fun_mk (st := (K92.top 63)) l c k).binds (ps := d63.ps) fun _ _ _ _ _ _ us hl => match us, hl with | [_, _], _ => rfl, PySem.W.mg_of X G a⟩
theorem f_d64 (X : K.In h) (G : h.Ns mainGlobals mg) {f : Addr} {oc : Value} {od an : Option Addr} {sl : Array (Option Value)} {kV dc pm cd ct : Value} (a : PySem.W.nsIn K mainGlobals "_law_mixed" = some (some (.ref f))) (l : K.lookup f = some ⟨oc, od, .func (PySem.W.fnOf "_law_mixed" "_law_mixed" (defArgs (K92.top 64)) (defBody (K92.top 64)) (defScope (K92.top 64)) .none kV dc pm an cd ct), sl⟩) (c : PySem.W.codeIn K cd "_law_mixed" = true) (k : PySem.W.keepIn K (.ref f) = true) : DFact K mg cs d64 :=
  ⟨f, _, fun_mk (st := (K92.top 64)) l c k, (fun_mk (st := (K92.top 64)) l c k).binds (ps := d64.ps) fun _ _ _ _ _ _ us hl => match us, hl with | [_, _], _ => rfl, PySem.W.mg_of X G a⟩
theorem f_d65 (X : K.In h) (G : h.Ns mainGlobals mg) {f : Addr} {oc : Value} {od an : Option Addr} {sl : Array (Option Value)} {kV dc pm cd ct : Value} (a : PySem.W.nsIn K mainGlobals "_law_same" = some (some (.ref f))) (l : K.lookup f = some ⟨oc, od, .func (PySem.W.fnOf "_law_same" "_law_same" (defArgs (K92.top 65)) (defBody (K92.top 65)) (defScope (K92.top 65)) .none kV dc pm an cd ct), sl⟩) (c : PySem.W.codeIn K cd "_law_same" = true) (k : PySem.W.keepIn K (.ref f) = true) : DFact K mg cs d65 :=
  ⟨f, _, fun_mk (st := (K92.top 65)) l c k, (fun_mk (st := (K92.top 65)) l c k).binds (ps := d65.ps) fun _ _ _ _ _ _ us hl => match us, hl with | [_, _], _ => rfl, PySem.W.mg_of X G a⟩
theorem f_d66 (X : K.In h) (G : h.Ns mainGlobals mg) {f : Addr} {oc : Value} {od an : Option Addr} {sl : Array (Option Value)} {kV dc pm cd ct : Value} (a : PySem.W.nsIn K mainGlobals "_law_free_word" = some (some (.ref f))) (l : K.lookup f = some ⟨oc, od, .func (PySem.W.fnOf "_law_free_word" "_law_free_word" (defArgs (K92.top 66)) (defBody (K92.top 66)) (defScope (K92.top 66)) .none kV dc pm an cd ct), sl⟩) (c : PySem.W.codeIn K cd "_law_free_word" = true) (k : PySem.W.keepIn K (.ref f) = true) : DFact K mg cs d66 :=
  ⟨f, _, fun_mk (st := (K92.top 66)) l c k, (fun_mk (st := (K92.top 66)) l c k).binds (ps := d66.ps) fun _ _ _ _ _ _ us hl => match us, hl with | [_, _], _ => rfl, PySem.W.mg_of X G a⟩
theorem f_d67 (X : K.In h) (G : h.Ns mainGlobals mg) {f : Addr} {oc : Value} {od an : Option Addr} {sl : Array (Option Value)} {kV dc pm cd ct : Value} (a : PySem.W.nsIn K mainGlobals "_law_words" = some (some (.ref f))) (l : K.lookup f = some ⟨oc, od, .func (PySem.W.fnOf "_law_words" "_law_words" (defArgs (K92.top 67)) (defBody (K92.top 67)) (defScope (K92.top 67)) .none kV dc pm an cd ct), sl⟩) (c : PySem.W.codeIn K cd "_law_words" = true) (k : PySem.W.keepIn K (.ref f) = true) : DFact K mg cs d67 :=
  ⟨f, _, fun_mk (st := (K92.top 67)) l c k, (fun_mk (st := (K92.top 67)) l c k).binds (ps := d67.ps) fun _ _ _ _ _ _ us hl => match us, hl with | [_, _], _ => rfl, PySem.W.mg_of X G a⟩
theorem f_d68 (X : K.In h) (G : h.Ns mainGlobals mg) {f : Addr} {oc : Value} {od an : Option Addr} {sl : Array (Option Value)} {kV dc pm cd ct : Value} (a : PySem.W.nsIn K mainGlobals "_law_bits" = some (some (.ref f))) (l : K.lookup f = some ⟨oc, od, .func (PySem.W.fnOf "_law_bits" "_law_bits" (defArgs (K92.top 68)) (defBody (K92.top 68)) (defScope (K92.top 68)) .none kV dc pm an cd ct), sl⟩) (c : PySem.W.codeIn K cd "_law_bits" = true) (k : PySem.W.keepIn K (.ref f) = true) : DFact K mg cs d68 :=
  ⟨f, _, fun_mk (st := (K92.top 68)) l c k, (fun_mk (st := (K92.top 68)) l c k).binds (ps := d68.ps) fun _ _ _ _ _ _ us hl => match us, hl with | [_, _], _ => rfl, PySem.W.mg_of X G a⟩
theorem f_d69 (X : K.In h) (G : h.Ns mainGlobals mg) {f : Addr} {oc : Value} {od an : Option Addr} {sl : Array (Option Value)} {kV dc pm cd ct : Value} (a : PySem.W.nsIn K mainGlobals "_law_all_signs" = some (some (.ref f))) (l : K.lookup f = some ⟨oc, od, .func (PySem.W.fnOf "_law_all_signs" "_law_all_signs" (defArgs (K92.top 69)) (defBody (K92.top 69)) (defScope (K92.top 69)) .none kV dc pm an cd ct), sl⟩) (c : PySem.W.codeIn K cd "_law_all_signs" = true) (k : PySem.W.keepIn K (.ref f) = true) : DFact K mg cs d69 :=
  ⟨f, _, fun_mk (st := (K92.top 69)) l c k, (fun_mk (st := (K92.top 69)) l c k).binds (ps := d69.ps) fun _ _ _ _ _ _ us hl => match us, hl with | [_], _ => rfl, PySem.W.mg_of X G a⟩
theorem f_d70 (X : K.In h) (G : h.Ns mainGlobals mg) {f : Addr} {oc : Value} {od an : Option Addr} {sl : Array (Option Value)} {kV dc pm cd ct : Value} (a : PySem.W.nsIn K mainGlobals "_law_apply" = some (some (.ref f))) (l : K.lookup f = some ⟨oc, od, .func (PySem.W.fnOf "_law_apply" "_law_apply" (defArgs (K92.top 70)) (defBody (K92.top 70)) (defScope (K92.top 70)) .none kV dc pm an cd ct), sl⟩) (c : PySem.W.codeIn K cd "_law_apply" = true) (k : PySem.W.keepIn K (.ref f) = true) : DFact K mg cs d70 :=
  ⟨f, _, fun_mk (st := (K92.top 70)) l c k, (fun_mk (st := (K92.top 70)) l c k).binds (ps := d70.ps) fun _ _ _ _ _ _ us hl => match us, hl with | [_, _], _ => rfl, PySem.W.mg_of X G a⟩
theorem f_d71 (X : K.In h) (G : h.Ns mainGlobals mg) {f : Addr} {oc : Value} {od an : Option Addr} {sl : Array (Option Value)} {kV dc pm cd ct : Value} (a : PySem.W.nsIn K mainGlobals "_law_input_rows" = some (some (.ref f))) (l : K.lookup f = some ⟨oc, od, .func (PySem.W.fnOf "_law_input_rows" "_law_input_rows" (defArgs (K92.top 71)) (defBody (K92.top 71)) (defScope (K92.top 71)) .none kV dc pm an cd ct), sl⟩) (c : PySem.W.codeIn K cd "_law_input_rows" = true) (k : PySem.W.keepIn K (.ref f) = true) : DFact K mg cs d71 :=
  ⟨f, _, fun_mk (st := (K92.top 71)) l c k, (fun_mk (st := (K92.top 71)) l c k).binds (ps := d71.ps) fun _ _ _ _ _ _ us hl => match us, hl with | [_], _ => rfl, PySem.W.mg_of X G a⟩
theorem f_d72 (X : K.In h) (G : h.Ns mainGlobals mg) {f : Addr} {oc : Value} {od an : Option Addr} {sl : Array (Option Value)} {kV dc pm cd ct : Value} (a : PySem.W.nsIn K mainGlobals "_law_rises" = some (some (.ref f))) (l : K.lookup f = some ⟨oc, od, .func (PySem.W.fnOf "_law_rises" "_law_rises" (defArgs (K92.top 72)) (defBody (K92.top 72)) (defScope (K92.top 72)) .none kV dc pm an cd ct), sl⟩) (c : PySem.W.codeIn K cd "_law_rises" = true) (k : PySem.W.keepIn K (.ref f) = true) : DFact K mg cs d72 :=
  ⟨f, _, fun_mk (st := (K92.top 72)) l c k, (fun_mk (st := (K92.top 72)) l c k).binds (ps := d72.ps) fun _ _ _ _ _ _ us hl => match us, hl with | [_], _ => rfl, PySem.W.mg_of X G a⟩
theorem f_d73 (X : K.In h) (G : h.Ns mainGlobals mg) {f : Addr} {oc : Value} {od an : Option Addr} {sl : Array (Option Value)} {kV dc pm cd ct : Value} (a : PySem.W.nsIn K mainGlobals "_law_sum_of" = some (some (.ref f))) (l : K.lookup f = some ⟨oc, od, .func (PySem.W.fnOf "_law_sum_of" "_law_sum_of" (defArgs (K92.top 73)) (defBody (K92.top 73)) (defScope (K92.top 73)) .none kV dc pm an cd ct), sl⟩) (c : PySem.W.codeIn K cd "_law_sum_of" = true) (k : PySem.W.keepIn K (.ref f) = true) : DFact K mg cs d73 :=
  ⟨f, _, fun_mk (st := (K92.top 73)) l c k, (fun_mk (st := (K92.top 73)) l c k).binds (ps := d73.ps) fun _ _ _ _ _ _ us hl => match us, hl with | [_], _ => rfl, PySem.W.mg_of X G a⟩
theorem f_d74 (X : K.In h) (G : h.Ns mainGlobals mg) {f : Addr} {oc : Value} {od an : Option Addr} {sl : Array (Option Value)} {kV dc pm cd ct : Value} (a : PySem.W.nsIn K mainGlobals "_law_all_of" = some (some (.ref f))) (l : K.lookup f = some ⟨oc, od, .func (PySem.W.fnOf "_law_all_of" "_law_all_of" (defArgs (K92.top 74)) (defBody (K92.top 74)) (defScope (K92.top 74)) .none kV dc pm an cd ct), sl⟩) (c : PySem.W.codeIn K cd "_law_all_of" = true) (k : PySem.W.keepIn K (.ref f) = true) : DFact K mg cs d74 :=
  ⟨f, _, fun_mk (st := (K92.top 74)) l c k, (fun_mk (st := (K92.top 74)) l c k).binds (ps := d74.ps) fun _ _ _ _ _ _ us hl => match us, hl with | [_], _ => rfl, PySem.W.mg_of X G a⟩
theorem f_d75 (X : K.In h) (G : h.Ns mainGlobals mg) {f : Addr} {oc : Value} {od an : Option Addr} {sl : Array (Option Value)} {kV dc pm cd ct : Value} (a : PySem.W.nsIn K mainGlobals "_law_fits" = some (some (.ref f))) (l : K.lookup f = some ⟨oc, od, .func (PySem.W.fnOf "_law_fits" "_law_fits" (defArgs (K92.top 75)) (defBody (K92.top 75)) (defScope (K92.top 75)) .none kV dc pm an cd ct), sl⟩) (c : PySem.W.codeIn K cd "_law_fits" = true) (k : PySem.W.keepIn K (.ref f) = true) : DFact K mg cs d75 :=
  ⟨f, _, fun_mk (st := (K92.top 75)) l c k, (fun_mk (st := (K92.top 75)) l c k).binds (ps := d75.ps) fun _ _ _ _ _ _ us hl => match us, hl with | [_, _], _ => rfl, PySem.W.mg_of X G a⟩
def X_start (K : PySem.W.Frag) (mg : Str → Option Value) : Prop := ∃ (f : Addr) (fd : FuncData), Fun K "_law_start" "_law_start" (K92.top 61) f fd ∧ Binds K fd ["script"] [] ∧ mg "_law_start" = some (.ref f) ∧ PySem.W.keepIn K (.ref f) = true
theorem x_start (X : K.In h) (G : h.Ns mainGlobals mg) {f : Addr} {oc : Value} {od an : Option Addr} {sl : Array (Option Value)} {kV dc pm cd ct : Value} (a : PySem.W.nsIn K mainGlobals "_law_start" = some (some (.ref f))) (l : K.lookup f = some ⟨oc, od, .func (PySem.W.fnOf "_law_start" "_law_start" (defArgs (K92.top 61)) (defBody (K92.top 61)) (defScope (K92.top 61)) .none kV dc pm an cd ct), sl⟩) (c : PySem.W.codeIn K cd "_law_start" = true) (k : PySem.W.keepIn K (.ref f) = true) : X_start K mg :=
  ⟨f, _, fun_mk (st := (K92.top 61)) l c k, (fun_mk (st := (K92.top 61)) l c k).binds (ps := ["script"]) fun _ _ _ _ _ _ us hl => match us, hl with | [_], _ => rfl, PySem.W.mg_of X G a, k⟩
def X_closed (K : PySem.W.Frag) (mg : Str → Option Value) : Prop := ∃ (f : Addr) (fd : FuncData), Fun K "closed_rows" "closed_rows" (K92S.sClosed) f fd ∧ Binds K fd ["tables", "rows"] [] ∧ mg "closed_rows" = some (.ref f) ∧ PySem.W.keepIn K (.ref f) = true
theorem x_closed (X : K.In h) (G : h.Ns mainGlobals mg) {f : Addr} {oc : Value} {od an : Option Addr} {sl : Array (Option Value)} {kV dc pm cd ct : Value} (a : PySem.W.nsIn K mainGlobals "closed_rows" = some (some (.ref f))) (l : K.lookup f = some ⟨oc, od, .func (PySem.W.fnOf "closed_rows" "closed_rows" (defArgs (K92S.sClosed)) (defBody (K92S.sClosed)) (defScope (K92S.sClosed)) .none kV dc pm an cd ct), sl⟩) (c : PySem.W.codeIn K cd "closed_rows" = true) (k : PySem.W.keepIn K (.ref f) = true) : X_closed K mg :=
  ⟨f, _, fun_mk (st := (K92S.sClosed)) l c k, (fun_mk (st := (K92S.sClosed)) l c k).binds (ps := ["tables", "rows"]) fun _ _ _ _ _ _ us hl => match us, hl with | [_, _], _ => rfl, PySem.W.mg_of X G a, k⟩
def X_law (K : PySem.W.Frag) (fa : Addr) : Prop := ∃ (fd : FuncData), Fun K "law" "law" (K92.top 76) fa fd ∧ ∀ (s : Shared) (u : Value), BindsTo s fd ⟨[u], []⟩ [("script", u)]
theorem x_law (X : K.In h) (G : h.Ns mainGlobals mg) {fa : Addr} (hfa : mg "law" = some (.ref fa)) {f : Addr} {oc : Value} {od an : Option Addr} {sl : Array (Option Value)} {kV dc pm cd ct : Value} (a : PySem.W.nsIn K mainGlobals "law" = some (some (.ref f))) (l : K.lookup f = some ⟨oc, od, .func (PySem.W.fnOf "law" "law" (defArgs (K92.top 76)) (defBody (K92.top 76)) (defScope (K92.top 76)) .none kV dc pm an cd ct), sl⟩) (c : PySem.W.codeIn K cd "law" = true) (k : PySem.W.keepIn K (.ref f) = true) : X_law K fa := by
  have e := hfa.symm.trans (PySem.W.mg_of X G a)
  cases e
  exact ⟨_, fun_mk (st := (K92.top 76)) l c k, fun s v => .of_eq rfl⟩
def X_spread (K : PySem.W.Frag) (mg : Str → Option Value) : Prop := ∃ (c0 fI fT fS : Addr) (fdI fdT fdS : FuncData), mg "Spread" = some (.ref c0) ∧ InsC K c0 ∧ (∀ f ∈ sfs, NoAttr K c0 (nm f)) ∧ Mk K c0 fI ∧ Meth K c0 "turn" fT ∧ Meth K c0 "spread" fS ∧ Fun K "__init__" "Spread.__init__" K92S.sInit fI fdI ∧ Binds K fdI ["self", "tables", "rows"] [] ∧ Fun K "turn" "Spread.turn" K92S.sTurn fT fdT ∧ Binds K fdT ["self"] [] ∧ Fun K "spread" "Spread.spread" K92S.sSpread fS fdS ∧ Binds K fdS ["self"] []
theorem x_spread (X : K.In h) (G : h.Ns mainGlobals mg) {C fI fT fS : Addr} {ocI : Value} {odI anI : Option Addr} {slI : Array (Option Value)} {kVI dcI pmI cdI ctI : Value} {ocT : Value} {odT anT : Option Addr} {slT : Array (Option Value)} {kVT dcT pmT cdT ctT : Value} {ocS : Value} {odS anS : Option Addr} {slS : Array (Option Value)} {kVS dcS pmS cdS ctS : Value} (aC : PySem.W.nsIn K mainGlobals "Spread" = some (some (.ref C))) (hi : InsC K C) (n0 : PySem.W.findIn K (.ref C) "size" = some none) (n1 : PySem.W.findIn K (.ref C) "whole" = some none) (n2 : PySem.W.findIn K (.ref C) "tables" = some none) (n3 : PySem.W.findIn K (.ref C) "origins" = some none) (n4 : PySem.W.findIn K (.ref C) "fresh" = some none) (mk : PySem.W.makesIn K C = true) (kc : PySem.W.keepIn K (.ref C) = true) (lI : K.lookup fI = some ⟨ocI, odI, .func (PySem.W.fnOf "__init__" "Spread.__init__" (defArgs K92S.sInit) (defBody K92S.sInit) (defScope K92S.sInit) .none kVI dcI pmI anI cdI ctI), slI⟩) (cI : PySem.W.codeIn K cdI "Spread.__init__" = true) (kI : PySem.W.keepIn K (.ref fI) = true) (aI : PySem.W.findIn K (.ref C) "__init__" = some (some (.ref fI))) (iI : PySem.W.isFn K (.ref fI) = true) (lT : K.lookup fT = some ⟨ocT, odT, .func (PySem.W.fnOf "turn" "Spread.turn" (defArgs K92S.sTurn) (defBody K92S.sTurn) (defScope K92S.sTurn) .none kVT dcT pmT anT cdT ctT), slT⟩) (cT : PySem.W.codeIn K cdT "Spread.turn" = true) (kT : PySem.W.keepIn K (.ref fT) = true) (aT : PySem.W.findIn K (.ref C) "turn" = some (some (.ref fT))) (iT : PySem.W.isFn K (.ref fT) = true) (lS : K.lookup fS = some ⟨ocS, odS, .func (PySem.W.fnOf "spread" "Spread.spread" (defArgs K92S.sSpread) (defBody K92S.sSpread) (defScope K92S.sSpread) .none kVS dcS pmS anS cdS ctS), slS⟩) (cS : PySem.W.codeIn K cdS "Spread.spread" = true) (kS : PySem.W.keepIn K (.ref fS) = true) (aS : PySem.W.findIn K (.ref C) "spread" = some (some (.ref fS))) (iS : PySem.W.isFn K (.ref fS) = true) : X_spread K mg :=
  ⟨C, fI, fT, fS, _, _, _, PySem.W.mg_of X G aC, hi, fun f hf => by
    simp only [sfs, List.mem_cons, List.not_mem_nil, or_false] at hf
    rcases hf with rfl | rfl | rfl | rfl | rfl
    · exact n0
    · exact n1
    · exact n2
    · exact n3
    · exact n4, ⟨mk, aI, iI, kc⟩, ⟨aT, iT, kT⟩, ⟨aS, iS, kS⟩, fun_mk lI cI kI, (fun_mk lI cI kI).binds fun _ _ _ _ _ _ us hl => match us, hl with | [_, _, _], _ => rfl, fun_mk lT cT kT, (fun_mk lT cT kT).binds fun _ _ _ _ _ _ us hl => match us, hl with | [_], _ => rfl, fun_mk lS cS kS, (fun_mk lS cS kS).binds fun _ _ _ _ _ _ us hl => match us, hl with | [_], _ => rfl⟩
theorem f_note (X : K.In h) (G : h.Ns mainGlobals mg) {C : Addr} {f : Addr} {oc : Value} {od an : Option Addr} {sl : Array (Option Value)} {kV dc pm cd ct : Value} (aC : PySem.W.nsIn K mainGlobals "Spread" = some (some (.ref C))) (a : PySem.W.findIn K (.ref C) "note" = some (some (.ref f))) (i : PySem.W.isFn K (.ref f) = true) (l : K.lookup f = some ⟨oc, od, .func (PySem.W.fnOf "note" "Spread.note" (defArgs (inClass (K92S.top 37) 1)) (defBody (inClass (K92S.top 37) 1)) (defScope (inClass (K92S.top 37) 1)) .none kV dc pm an cd ct), sl⟩) (c : PySem.W.codeIn K cd "Spread.note" = true) (k : PySem.W.keepIn K (.ref f) = true) (hcl : Cls K C) : DFact K mg cs K92S.d37_1 :=
  ⟨f, _, fun_mk (st := (inClass (K92S.top 37) 1)) l c k, (fun_mk (st := (inClass (K92S.top 37) 1)) l c k).binds (ps := K92S.d37_1.ps) fun _ _ _ _ _ _ us hl => match us, hl with | [_, _, _, _], _ => rfl, C, PySem.W.mg_of X G aC, hcl, ⟨a, i, k⟩⟩
theorem f_walk (X : K.In h) (G : h.Ns mainGlobals mg) {C : Addr} {f : Addr} {oc : Value} {od an : Option Addr} {sl : Array (Option Value)} {kV dc pm cd ct : Value} (aC : PySem.W.nsIn K mainGlobals "Spread" = some (some (.ref C))) (a : PySem.W.findIn K (.ref C) "walk" = some (some (.ref f))) (i : PySem.W.isFn K (.ref f) = true) (l : K.lookup f = some ⟨oc, od, .func (PySem.W.fnOf "walk" "Spread.walk" (defArgs (inClass (K92S.top 37) 2)) (defBody (inClass (K92S.top 37) 2)) (defScope (inClass (K92S.top 37) 2)) .none kV dc pm an cd ct), sl⟩) (c : PySem.W.codeIn K cd "Spread.walk" = true) (k : PySem.W.keepIn K (.ref f) = true) (hcl : Cls K C) : DFact K mg cs K92S.d37_2 :=
  ⟨f, _, fun_mk (st := (inClass (K92S.top 37) 2)) l c k, (fun_mk (st := (inClass (K92S.top 37) 2)) l c k).binds (ps := K92S.d37_2.ps) fun _ _ _ _ _ _ us hl => match us, hl with | [_, _, _, _, _], _ => rfl, C, PySem.W.mg_of X G aC, hcl, ⟨a, i, k⟩⟩
def X_cGates (K : PySem.W.Frag) (mg : Str → Option Value) : Prop := ∃ (C : Addr), mg (nm "Gates") = some (.ref C) ∧ (∀ S ∈ tys, PySem.W.kitOne K (.type S) (.ref C) = some (isa S "Gates")) ∧ ∀ f ∈ ["_pairs"], NoAttr K C (nm f)
theorem x_cGates (X : K.In h) (G : h.Ns mainGlobals mg) {C : Addr} (aC : PySem.W.nsIn K mainGlobals "Gates" = some (some (.ref C))) (z1 : (PySem.W.clsIn K C).isSome = true) (z2 : PySem.W.typeIn K (.ref C) = some (.type "type")) (s0 : PySem.W.subIn K (.type "NoneType") (.ref C) = some false) (s1 : PySem.W.subIn K (.type "bool") (.ref C) = some false) (s2 : PySem.W.subIn K (.type "int") (.ref C) = some false) (s3 : PySem.W.subIn K (.type "str") (.ref C) = some false) (s4 : PySem.W.subIn K (.type "list") (.ref C) = some false) (s5 : PySem.W.subIn K (.type "tuple") (.ref C) = some false) (s6 : PySem.W.subIn K (.type "dict") (.ref C) = some false) (m0 : PySem.W.findIn K (.ref C) "_pairs" = some none) : X_cGates K mg := by
  have go : ∀ {S : String}, PySem.W.subIn K (.type S) (.ref C) = some false → PySem.W.kitOne K (.type S) (.ref C) = some false := fun e => by
    unfold PySem.W.kitOne
    rw [if_neg (by intro z; cases z)]
    unfold PySem.W.kitCls
    simp only [z1, z2, beq_self_eq_true, Bool.and_self, if_true]
    exact e
  refine ⟨C, PySem.W.mg_of X G aC, fun S hS => ?_, fun f hf => ?_⟩
  · simp only [tys, List.mem_cons, List.not_mem_nil, or_false] at hS
    rcases hS with rfl | rfl | rfl | rfl | rfl | rfl | rfl
    · rw [go s0]; decide +kernel
    · rw [go s1]; decide +kernel
    · rw [go s2]; decide +kernel
    · rw [go s3]; decide +kernel
    · rw [go s4]; decide +kernel
    · rw [go s5]; decide +kernel
    · rw [go s6]; decide +kernel
  · simp only [List.mem_cons, List.not_mem_nil, or_false] at hf
    rcases hf with rfl
    · exact m0
def X_kLETTERS (mg : Str → Option Value) : Prop := ∃ tk, mg (nm "LETTERS") = some (.str (tx [97, 98, 99, 100, 101, 102, 103, 104, 105, 106, 107, 108, 109, 110, 111, 112, 113, 114, 115, 116, 117, 118, 119, 120, 121, 122]) tk)
theorem x_kLETTERS (X : K.In h) (G : h.Ns mainGlobals mg) {z : Str} {tk : Tok} (a : PySem.W.nsIn K mainGlobals "LETTERS" = some (some (.str z tk))) (e : z = tx [97, 98, 99, 100, 101, 102, 103, 104, 105, 106, 107, 108, 109, 110, 111, 112, 113, 114, 115, 116, 117, 118, 119, 120, 121, 122]) : X_kLETTERS mg := ⟨tk, by rw [← e]; exact PySem.W.mg_of X G a⟩
def X_kKINDS (K : PySem.W.Frag) (mg : Str → Option Value) : Prop := ∃ ak, mg (nm "KINDS") = some (.ref ak) ∧ ∀ F, SqT K F ak [.str (tx [122, 101, 114, 111]), .str (tx [111, 110, 101]), .str (tx [114, 105, 115, 101, 115]), .str (tx [116, 117, 114, 110, 115]), .str (tx [115, 117, 109, 115])]
theorem x_kKINDS (X : K.In h) (G : h.Ns mainGlobals mg) {ak : Addr} {oc : Value} {od : Option Addr} {its : Array Value} {nk : Nat} {sl : Array (Option Value)} (a : PySem.W.nsIn K mainGlobals "KINDS" = some (some (.ref ak))) (l : K.lookup ak = some ⟨oc, od, .seq its nk, sl⟩) (e1 : oc = .type "tuple") (e2 : its.size ≤ sizeLine) (e3 : Vals [.str (tx [122, 101, 114, 111]), .str (tx [111, 110, 101]), .str (tx [114, 105, 115, 101, 115]), .str (tx [116, 117, 114, 110, 115]), .str (tx [115, 117, 109, 115])] its.toList) : X_kKINDS K mg :=
  ⟨ak, PySem.W.mg_of X G a, fun F => .inr ⟨_, its, nk, l, e1, rfl, e2, e3⟩⟩
end
abbrev CS : List String := ["Gates"]
theorem blt_ok {K : PySem.W.Frag} {mg : Str → Option Value} {h : Heap} (X : K.In h) (G : h.Ns mainGlobals mg) (B_len : PySem.W.nsIn K mainGlobals "len" = some none) (B_abs : PySem.W.nsIn K mainGlobals "abs" = some none) (B_max : PySem.W.nsIn K mainGlobals "max" = some none) (B_min : PySem.W.nsIn K mainGlobals "min" = some none) (B_int : PySem.W.nsIn K mainGlobals "int" = some none) (B_str : PySem.W.nsIn K mainGlobals "str" = some none) (B_all : PySem.W.nsIn K mainGlobals "all" = some none) (B_any : PySem.W.nsIn K mainGlobals "any" = some none) (B_sum : PySem.W.nsIn K mainGlobals "sum" = some none) (B_list : PySem.W.nsIn K mainGlobals "list" = some none) (B_isinstance : PySem.W.nsIn K mainGlobals "isinstance" = some none) (B_range : PySem.W.nsIn K mainGlobals "range" = some none) (B_enumerate : PySem.W.nsIn K mainGlobals "enumerate" = some none) (B_bool : PySem.W.nsIn K mainGlobals "bool" = some none) (B_tuple : PySem.W.nsIn K mainGlobals "tuple" = some none) (B_dict : PySem.W.nsIn K mainGlobals "dict" = some none) (B_zip : PySem.W.nsIn K mainGlobals "zip" = some none) (B_reversed : PySem.W.nsIn K mainGlobals "reversed" = some none) (B_sorted : PySem.W.nsIn K mainGlobals "sorted" = some none) : ∀ x ∈ blts, mg x = none := by
  intro x hx
  simp only [blts, List.mem_cons, List.not_mem_nil, or_false] at hx
  rcases hx with rfl | rfl | rfl | rfl | rfl | rfl | rfl | rfl | rfl | rfl | rfl | rfl | rfl | rfl | rfl | rfl | rfl | rfl | rfl
  · exact PySem.W.mg_none_of X G B_len
  · exact PySem.W.mg_none_of X G B_abs
  · exact PySem.W.mg_none_of X G B_max
  · exact PySem.W.mg_none_of X G B_min
  · exact PySem.W.mg_none_of X G B_int
  · exact PySem.W.mg_none_of X G B_str
  · exact PySem.W.mg_none_of X G B_all
  · exact PySem.W.mg_none_of X G B_any
  · exact PySem.W.mg_none_of X G B_sum
  · exact PySem.W.mg_none_of X G B_list
  · exact PySem.W.mg_none_of X G B_isinstance
  · exact PySem.W.mg_none_of X G B_range
  · exact PySem.W.mg_none_of X G B_enumerate
  · exact PySem.W.mg_none_of X G B_bool
  · exact PySem.W.mg_none_of X G B_tuple
  · exact PySem.W.mg_none_of X G B_dict
  · exact PySem.W.mg_none_of X G B_zip
  · exact PySem.W.mg_none_of X G B_reversed
  · exact PySem.W.mg_none_of X G B_sorted
theorem tabR_ok {K : PySem.W.Frag} {mg : Str → Option Value} (hb : ∀ x ∈ blts, mg x = none) (Q_cGates : X_cGates K mg) (Q_kLETTERS : X_kLETTERS mg) (Q_kKINDS : X_kKINDS K mg) (sa : Option (Addr × Addr)) : TabOk TT ⟨K, mg, sa, CS, []⟩ := by
  refine ⟨fun x d hx => ?_, fun x tt hx => ?_, fun x f hx => ?_, fun C c hC _ tt ht => ?_, hb⟩
  · have hm := PySem.mem_of_lookup hx
    change (x, d) ∈ [(nm "LETTERS", .str [97, 98, 99, 100, 101, 102, 103, 104, 105, 106, 107, 108, 109, 110, 111, 112, 113, 114, 115, 116, 117, 118, 119, 120, 121, 122]), (nm "KINDS", .tup [.str [122, 101, 114, 111], .str [111, 110, 101], .str [114, 105, 115, 101, 115], .str [116, 117, 114, 110, 115], .str [115, 117, 109, 115]])] at hm
    simp only [List.mem_cons, List.not_mem_nil, or_false, Prod.mk.injEq] at hm
    rcases hm with ⟨rfl, rfl⟩ | ⟨rfl, rfl⟩
    · obtain ⟨tk, e⟩ := Q_kLETTERS
      exact ⟨.str (tx [97, 98, 99, 100, 101, 102, 103, 104, 105, 106, 107, 108, 109, 110, 111, 112, 113, 114, 115, 116, 117, 118, 119, 120, 121, 122]), _, e, ⟨tk, rfl⟩, fun F => by simp [Rep]⟩
    · obtain ⟨ak, e, hs⟩ := Q_kKINDS
      exact ⟨.ref ak, _, e, rfl, fun F => by simp only [Rep]; exact ⟨ak, _, rfl, hs F, Reps.cons (by simp [Rep]) (Reps.cons (by simp [Rep]) (Reps.cons (by simp [Rep]) (Reps.cons (by simp [Rep]) (Reps.cons (by simp [Rep]) (Reps.nil)))))⟩⟩
  · have hm := PySem.mem_of_lookup hx
    change (x, tt) ∈ [(nm "Gates", "Gates")] at hm
    simp only [List.mem_cons, List.not_mem_nil, or_false, Prod.mk.injEq] at hm
    rcases hm with ⟨rfl, rfl⟩
    · obtain ⟨C, e, hk, _⟩ := Q_cGates
      refine ⟨C, e, .own C, hk, fun C' c hC hi => ?_⟩
      have hcs := hC.2
      change C' ∈ (["Gates"] : List String) at hcs
      simp only [List.mem_cons, List.not_mem_nil, or_false] at hcs
      subst hcs
      have : c = C := by
        have e2 := hC.1
        change mg _ = _ at e2
        rw [e] at e2; cases e2; rfl
      subst this
      unfold PySem.W.kitOne
      rw [if_pos (by simp)]
      decide +kernel
  · have hm := PySem.mem_of_lookup hx
    change (x, f) ∈ [(nm "_pairs", "_pairs")] at hm
    have hf : x = nm f ∧ f ∈ ["_pairs"] := by
      simp only [List.mem_cons, List.not_mem_nil, or_false, Prod.mk.injEq] at hm ⊢
      rcases hm with ⟨rfl, rfl⟩ <;> exact ⟨rfl, by simp⟩
    refine ⟨hf.1, fun C' c hC _ => ?_⟩
    obtain ⟨C, e, _, hn⟩ := Q_cGates
    have hcs := hC.2
    change C' ∈ (["Gates"] : List String) at hcs
    simp only [List.mem_cons, List.not_mem_nil, or_false] at hcs
    subst hcs
    have : c = C := by
      have e2 := hC.1
      change mg _ = _ at e2
      rw [e] at e2; cases e2; rfl
    subst this
    exact hn f hf.2
  · have hcs := hC.2
    change C ∈ (["Gates"] : List String) at hcs
    simp only [List.mem_cons, List.not_mem_nil, or_false] at hcs
    simp only [tys, List.mem_cons, List.not_mem_nil, or_false] at ht
    subst hcs
    rcases ht with rfl | rfl | rfl | rfl | rfl | rfl | rfl <;> decide +kernel
theorem tabS_ok {K : PySem.W.Frag} {mg : Str → Option Value} (hb : ∀ x ∈ blts, mg x = none) (Q_spread : X_spread K mg) (sa : Option (Addr × Addr)) (hs : List Addr) : TabOk K92S.TT (RS K mg sa hs) := by
  refine ⟨fun x d hx => (by cases hx), fun x tt hx => (by cases hx), fun x f hx => ?_, fun C c hC _ tt ht => ?_, hb⟩
  · have hm := PySem.mem_of_lookup hx
    change (x, f) ∈ [(nm "size", "size"), (nm "whole", "whole"), (nm "tables", "tables"), (nm "origins", "origins"), (nm "fresh", "fresh")] at hm
    have hf : x = nm f ∧ f ∈ sfs := by
      simp only [sfs, List.mem_cons, List.not_mem_nil, or_false, Prod.mk.injEq] at hm ⊢
      rcases hm with ⟨rfl, rfl⟩ | ⟨rfl, rfl⟩ | ⟨rfl, rfl⟩ | ⟨rfl, rfl⟩ | ⟨rfl, rfl⟩ <;> exact ⟨rfl, by simp⟩
    refine ⟨hf.1, fun C' c hC _ => ?_⟩
    obtain ⟨C, _, _, _, _, _, _, e, _, hn, _⟩ := Q_spread
    have hcs := hC.2
    change C' ∈ (["Spread"] : List String) at hcs
    simp only [List.mem_cons, List.not_mem_nil, or_false] at hcs
    subst hcs
    have : c = C := by
      have e2 := hC.1
      change mg _ = _ at e2
      rw [show mg (nm "Spread") = some (.ref C) from e] at e2; cases e2; rfl
    subst this
    exact hn f hf.2
  · have hcs := hC.2
    change C ∈ (["Spread"] : List String) at hcs
    simp only [List.mem_cons, List.not_mem_nil, or_false] at hcs
    simp only [tys, List.mem_cons, List.not_mem_nil, or_false] at ht
    subst hcs
    rcases ht with rfl | rfl | rfl | rfl | rfl | rfl | rfl <;> decide +kernel
theorem fin {w : World} {K : PySem.W.Frag} {mg : Str → Option Value} {h : Heap} {fa : Addr} (X : K.In h) (G : h.Ns mainGlobals mg) (F_d3 : DFact K mg CS d3) (F_d4 : DFact K mg CS d4) (F_d5 : DFact K mg CS d5) (F_d6 : DFact K mg CS d6) (F_d7 : DFact K mg CS d7) (F_d8 : DFact K mg CS d8) (F_d19 : DFact K mg CS d19) (F_d20 : DFact K mg CS d20) (F_d21 : DFact K mg CS d21) (F_d22 : DFact K mg CS d22) (F_d23 : DFact K mg CS d23) (F_d24 : DFact K mg CS d24) (F_d25 : DFact K mg CS d25) (F_d26 : DFact K mg CS d26) (F_d27 : DFact K mg CS d27) (F_d28 : DFact K mg CS d28) (F_d29 : DFact K mg CS d29) (F_d30 : DFact K mg CS d30) (F_d32 : DFact K mg CS d32) (F_d33_0 : DFact K mg CS d33_0) (F_d33_1 : DFact K mg CS d33_1) (F_d34 : DFact K mg CS d34) (F_d35 : DFact K mg CS d35) (F_d40 : DFact K mg CS d40) (F_d41 : DFact K mg CS d41) (F_d42 : DFact K mg CS d42) (F_d43 : DFact K mg CS d43) (F_d46 : DFact K mg CS d46) (F_d47 : DFact K mg CS d47) (F_d48 : DFact K mg CS d48) (F_d49 : DFact K mg CS d49) (F_d50 : DFact K mg CS d50) (F_d51 : DFact K mg CS d51) (F_d52 : DFact K mg CS d52) (F_d53 : DFact K mg CS d53) (F_d54 : DFact K mg CS d54) (F_d56 : DFact K mg CS d56) (F_d57 : DFact K mg CS d57) (F_d59 : DFact K mg CS d59) (F_d62 : DFact K mg CS d62) (F_d63 : DFact K mg CS d63) (F_d64 : DFact K mg CS d64) (F_d65 : DFact K mg CS d65) (F_d66 : DFact K mg CS d66) (F_d67 : DFact K mg CS d67) (F_d68 : DFact K mg CS d68) (F_d69 : DFact K mg CS d69) (F_d70 : DFact K mg CS d70) (F_d71 : DFact K mg CS d71) (F_d72 : DFact K mg CS d72) (F_d73 : DFact K mg CS d73) (F_d74 : DFact K mg CS d74) (F_d75 : DFact K mg CS d75) (Q_start : X_start K mg) (Q_closed : X_closed K mg) (Q_law : X_law K fa) (Q_spread : X_spread K mg) (F_note : DFact K mg ["Spread"] K92S.d37_1) (F_walk : DFact K mg ["Spread"] K92S.d37_2) (B_len : PySem.W.nsIn K mainGlobals "len" = some none) (B_abs : PySem.W.nsIn K mainGlobals "abs" = some none) (B_max : PySem.W.nsIn K mainGlobals "max" = some none) (B_min : PySem.W.nsIn K mainGlobals "min" = some none) (B_int : PySem.W.nsIn K mainGlobals "int" = some none) (B_str : PySem.W.nsIn K mainGlobals "str" = some none) (B_all : PySem.W.nsIn K mainGlobals "all" = some none) (B_any : PySem.W.nsIn K mainGlobals "any" = some none) (B_sum : PySem.W.nsIn K mainGlobals "sum" = some none) (B_list : PySem.W.nsIn K mainGlobals "list" = some none) (B_isinstance : PySem.W.nsIn K mainGlobals "isinstance" = some none) (B_range : PySem.W.nsIn K mainGlobals "range" = some none) (B_enumerate : PySem.W.nsIn K mainGlobals "enumerate" = some none) (B_bool : PySem.W.nsIn K mainGlobals "bool" = some none) (B_tuple : PySem.W.nsIn K mainGlobals "tuple" = some none) (B_dict : PySem.W.nsIn K mainGlobals "dict" = some none) (B_zip : PySem.W.nsIn K mainGlobals "zip" = some none) (B_reversed : PySem.W.nsIn K mainGlobals "reversed" = some none) (B_sorted : PySem.W.nsIn K mainGlobals "sorted" = some none) (Q_cGates : X_cGates K mg) (Q_kLETTERS : X_kLETTERS mg) (Q_kKINDS : X_kKINDS K mg) :
    ∃ fd : FuncData, (∀ (s : Shared) (u : Value), BindsTo s fd ⟨[u], []⟩ [("script", u)]) ∧ ∀ base : Heap, K.In base → base.Ns mainGlobals mg → FnOk PySem.Challenge.rw_gatesenough_k92_whole_known_numbers_of_t.prog w K mg base CX0 200 fa fd ["script"] (spLaw K) := by
  have hb := blt_ok X G B_len B_abs B_max B_min B_int B_str B_all B_any B_sum B_list B_isinstance B_range B_enumerate B_bool B_tuple B_dict B_zip B_reversed B_sorted
  have hT := tabR_ok hb Q_cGates Q_kLETTERS Q_kKINDS
  have hTS := tabS_ok hb Q_spread
  obtain ⟨fdL, FL, bL⟩ := Q_law
  refine ⟨fdL, bL, fun base _ _ => ?_⟩
  have SF : K92S.SFacts K mg := by
    refine ⟨fun e he => ?_, hTS, ?_⟩
    · simp only [K92S.L, List.mem_cons, List.not_mem_nil, or_false] at he
      rcases he with rfl | rfl | rfl | rfl
      · exact ⟨F_d20.ex⟩
      · exact ⟨F_d27.ex⟩
      · exact F_note
      · exact F_walk
    · obtain ⟨c0, fI, fT, fS, fdI, fdT, fdS, e1, e2, e3, e4, e5, e6, e7, e8, e9, e10, e11, e12⟩ := Q_spread
      obtain ⟨fA, fdA, g1, g2, g3, g4⟩ := Q_closed
      exact ⟨c0, fT, fS, fI, fA, fdT, fdS, fdI, fdA, e1, e2, e3, e4, e5, e6, e9, e11, e7, g1, e10, e12, e8, g2, g3, g4⟩
  have hall : ∀ e ∈ L, DFact K mg CS e := by
    intro e he
    simp only [L, List.mem_cons, List.not_mem_nil, or_false] at he
    rcases he with rfl | rfl | rfl | rfl | rfl | rfl | rfl | rfl | rfl | rfl | rfl | rfl | rfl | rfl | rfl | rfl | rfl | rfl | rfl | rfl | rfl | rfl | rfl | rfl | rfl | rfl | rfl | rfl | rfl | rfl | rfl | rfl | rfl | rfl | rfl | rfl | rfl | rfl | rfl | rfl | rfl | rfl | rfl | rfl | rfl | rfl | rfl | rfl | rfl | rfl | rfl | rfl | rfl
    · exact F_d3
    · exact F_d4
    · exact F_d5
    · exact F_d6
    · exact F_d7
    · exact F_d8
    · exact F_d19
    · exact F_d20
    · exact F_d21
    · exact F_d22
    · exact F_d23
    · exact F_d24
    · exact F_d25
    · exact F_d26
    · exact F_d27
    · exact F_d28
    · exact F_d29
    · exact F_d30
    · exact F_d32
    · exact F_d33_0
    · exact F_d33_1
    · exact F_d34
    · exact F_d35
    · exact F_d40
    · exact F_d41
    · exact F_d42
    · exact F_d43
    · exact F_d46
    · exact F_d47
    · exact F_d48
    · exact F_d49
    · exact F_d50
    · exact F_d51
    · exact F_d52
    · exact F_d53
    · exact F_d54
    · exact F_d56
    · exact F_d57
    · exact F_d59
    · exact F_d62
    · exact F_d63
    · exact F_d64
    · exact F_d65
    · exact F_d66
    · exact F_d67
    · exact F_d68
    · exact F_d69
    · exact F_d70
    · exact F_d71
    · exact F_d72
    · exact F_d73
    · exact F_d74
    · exact F_d75
  have hprim : ∀ sa, ∀ p ∈ [("closed_rows", 2)], ∃ g, Pc p.1 = some g ∧ PrimOk PySem.Challenge.rw_gatesenough_k92_whole_known_numbers_of_t.prog w base ⟨K, mg, sa, CS, []⟩ 50 p.1 p.2 g := by
    intro sa p hp
    simp only [List.mem_cons, List.not_mem_nil, or_false] at hp
    subst hp
    exact ⟨closedF, rfl, K92S.closed_prim (n := 22) (wf := 1000) SF rfl rfl rfl fun ds st d st2 e => closedAt_of (wf := 1000) K92S.spG (by decide) e⟩
  have tw := fun sa => tower (P := PySem.Challenge.rw_gatesenough_k92_whole_known_numbers_of_t.prog) (w := w) (base := base) (R := ⟨K, mg, sa, CS, []⟩) (wf := 1000) (Pp := Pc) (lp := 50) keys (fun e he => by
    have : L.all (fun e => e.key != "closed_rows") = true := by decide +kernel
    have := List.all_eq_true.mp this e he
    unfold Pc
    rw [if_neg (by simpa using this)]) txt (hT sa) hall (hprim sa) 30
  have hctx : ∀ (sa : Option (Addr × Addr)) (Y : Cx), Y.prog = PySem.Challenge.rw_gatesenough_k92_whole_known_numbers_of_t.prog → Y.w = w → Y.base = base → XOk ⟨K, mg, sa, CS, []⟩ Y → Room (50 + 2 * 30 + 2) Y.A → CtxOk TT (call 1000 Pc (defOf L) 30) ⟨K, mg, sa, CS, []⟩ Y := fun sa Y h1 h2 h3 ok hr =>
    ctx_of (n := 50 + 2 * 30) (hT sa) h1 h2 h3 ok (hr.mono (by decide)) (fun p hp => by
      obtain ⟨g, k1, A, fd, ps, k2, k3⟩ := hprim sa p hp
      refine ⟨A, fd, ps, (k2.mono (by decide)).imp fun vs H Q E hq => ?_, k3⟩
      obtain ⟨h0, F, ds, st, h1, h2, h3, d, st', e, h4⟩ := hq
      refine ⟨h0, F, ds, st, h1, h2, h3, d, st', ?_, h4⟩
      rw [call_pr k1] at e; exact e) (tw sa)
  obtain ⟨fS, fdS, s1, s2, s3, s4⟩ := Q_start
  have hgS : ∀ cdv A outer s H E, Gl (cxOf CX0 PySem.Challenge.rw_gatesenough_k92_whole_known_numbers_of_t.prog w K mg base ["script"] "_law_start" (defScope (K92.top 61)) fS cdv A outer s H E).nox "list" := fun _ _ _ _ _ _ => rfl
  have hgL : ∀ cdv A outer s H E, Gl (cxOf CX0 PySem.Challenge.rw_gatesenough_k92_whole_known_numbers_of_t.prog w K mg base [Str.ofString "script", Str.ofString "state", Str.ofString "known", Str.ofString "kind", Str.ofString "gates", Str.ofString "k", Str.ofString "table", Str.ofString "signs", Str.ofString "due", Str.ofString "kinds", Str.ofString "j"] "law" (defScope (K92.top 76)) fa cdv A outer s H E).nox "_law_start" := fun _ _ _ _ _ _ => rfl
  have FS := start_ok (P := PySem.Challenge.rw_gatesenough_k92_whole_known_numbers_of_t.prog) (w := w) (mg := mg) (base := base) (k := 50 + 2 * 30 + 1) s1 ⟨rfl, rfl, rfl, by decide +kernel, rfl, by decide +kernel, by decide +kernel⟩ (hb "list" (by decide +kernel)) (by first | exact .inl rfl | exact .inr (.inl rfl) | exact .inr (.inr rfl)) hgS ⟨_, _, _, _, _, _, _, _, _, _, _, rfl⟩
  have FF := law_ok (P := PySem.Challenge.rw_gatesenough_k92_whole_known_numbers_of_t.prog) (w := w) (mg := mg) (base := base) (k := 50 + 2 * 30 + 2) (m := 9) (wf := 1000) (cs := CS) (T := TT) (n := 30) FL (⟨rfl, rfl, rfl, by decide +kernel, rfl, by decide +kernel, by decide +kernel⟩ : FnScope [Str.ofString "script", Str.ofString "state", Str.ofString "known", Str.ofString "kind", Str.ofString "gates", Str.ofString "k", Str.ofString "table", Str.ofString "signs", Str.ofString "due", Str.ofString "kinds", Str.ofString "j"] ["script"] (defScope (K92.top 76))) rfl rfl rfl (by first | exact .inl rfl | exact .inr rfl) (by first | exact .inl rfl | exact .inr (.inl rfl) | exact .inr (.inr rfl)) hgL tb_law ⟨_, _, _, _, _, rfl⟩ FS s3 s4 s2 hctx fun st hp => law_pure hp
  exact FF.mono (by decide)
theorem walk {l : PySem.W.OpenLaw} {q : Program} {loose : List Str} {XP : (Str → Option Value) → Heap → Prop} {YP : World → Heap → Prop} {d : DefRec} {K : Params → PySem.W.Frag} (hn : l.most = some 63) (hdf : d.params.defaults = [])
    (hY : ∀ (w : World) (h : Heap), YP w h → (K w.params).In h)
    (F : ∀ (w : World) (mg : Str → Option Value) (fa : Addr) (h : Heap), (K w.params).In h → h.Ns mainGlobals mg → mg d.name = some (.ref fa) →
      ∃ fd : FuncData, (∀ (s : Shared) (u : Value), BindsTo s fd ⟨[u], []⟩ [("script", u)]) ∧ ∀ base : Heap, (K w.params).In base → base.Ns mainGlobals mg → FnOk l.prog w (K w.params) mg base CX0 200 fa fd ["script"] (spLaw (K w.params))) :
    PySem.W.WalkO q loose XP YP l.row.toRowW d [] (fun f vs => PySem.call f vs) :=
  L2.walk_of (n := 63) (k := 200) (x := "script") (CX := fun _ => CX0) (sp := fun w => spLaw (K w.params)) hn (by decide) hdf ⟨rfl, by decide, by decide⟩ hY F (fun _ _ a ns hl _ hS => ⟨a, ns, rfl, hS, hl, fun _ => rfl⟩) fun _ _ _ _ _ z => z
end K92
/-! K92Main -/
open PySem PySem.W PyProof.Rows
set_option maxRecDepth 100000 in
set_option maxHeartbeats 0 in
theorem PySem.Challenge.cw_gatesenough_k92_whole_known_numbers_of_t_holds : PySem.Challenge.rw_gatesenough_k92_whole_known_numbers_of_t.Holds := by
  w_on; o_law; k_head; (case hw => w_witness2)
  k_fill
  refine K92.walk (l := PySem.Challenge.rw_gatesenough_k92_whole_known_numbers_of_t) rfl rfl (fun w h Y => PySem.W.kIn_of Y) ?F
  case F =>
    intro w mg fa h KX G hmg
    refine' K92.fin KX G ?F_d3 ?F_d4 ?F_d5 ?F_d6 ?F_d7 ?F_d8 ?F_d19 ?F_d20 ?F_d21 ?F_d22 ?F_d23 ?F_d24 ?F_d25 ?F_d26 ?F_d27 ?F_d28 ?F_d29 ?F_d30 ?F_d32 ?F_d33_0 ?F_d33_1 ?F_d34 ?F_d35 ?F_d40 ?F_d41 ?F_d42 ?F_d43 ?F_d46 ?F_d47 ?F_d48 ?F_d49 ?F_d50 ?F_d51 ?F_d52 ?F_d53 ?F_d54 ?F_d56 ?F_d57 ?F_d59 ?F_d62 ?F_d63 ?F_d64 ?F_d65 ?F_d66 ?F_d67 ?F_d68 ?F_d69 ?F_d70 ?F_d71 ?F_d72 ?F_d73 ?F_d74 ?F_d75 ?Q_start ?Q_closed ?Q_law ?Q_spread ?F_note ?F_walk ?B_len ?B_abs ?B_max ?B_min ?B_int ?B_str ?B_all ?B_any ?B_sum ?B_list ?B_isinstance ?B_range ?B_enumerate ?B_bool ?B_tuple ?B_dict ?B_zip ?B_reversed ?B_sorted ?Q_cGates ?Q_kLETTERS ?Q_kKINDS
    case F_d3 =>
      refine' K92.f_d3 KX G ?a ?l ?c ?k
      (case a => k_is)
      (case l => k_is)
      (case c => k_is)
      (case k => k_is)
    case F_d4 =>
      refine' K92.f_d4 KX G ?a ?l ?c ?k
      (case a => k_is)
      (case l => k_is)
      (case c => k_is)
      (case k => k_is)
    case F_d5 =>
      refine' K92.f_d5 KX G ?a ?l ?c ?k
      (case a => k_is)
      (case l => k_is)
      (case c => k_is)
      (case k => k_is)
    case F_d6 =>
      refine' K92.f_d6 KX G ?a ?l ?c ?k
      (case a => k_is)
      (case l => k_is)
      (case c => k_is)
      (case k => k_is)
    case F_d7 =>
      refine' K92.f_d7 KX G ?a ?l ?c ?k
      (case a => k_is)
      (case l => k_is)
      (case c => k_is)
      (case k => k_is)
    case F_d8 =>
      refine' K92.f_d8 KX G ?a ?l ?c ?k
      (case a => k_is)
      (case l => k_is)
      (case c => k_is)
      (case k => k_is)
    case F_d19 =>
      refine' K92.f_d19 KX G ?a ?l ?c ?k
      (case a => k_is)
      (case l => k_is)
      (case c => k_is)
      (case k => k_is)
    case F_d20 =>
      refine' K92.f_d20 KX G ?a ?l ?c ?k
      (case a => k_is)
      (case l => k_is)
      (case c => k_is)
      (case k => k_is)
    case F_d21 =>
      refine' K92.f_d21 KX G ?a ?l ?c ?k
      (case a => k_is)
      (case l => k_is)
      (case c => k_is)
      (case k => k_is)
    case F_d22 =>
      refine' K92.f_d22 KX G ?a ?l ?c ?k
      (case a => k_is)
      (case l => k_is)
      (case c => k_is)
      (case k => k_is)
    case F_d23 =>
      refine' K92.f_d23 KX G ?a ?l ?c ?k
      (case a => k_is)
      (case l => k_is)
      (case c => k_is)
      (case k => k_is)
    case F_d24 =>
      refine' K92.f_d24 KX G ?a ?l ?c ?k
      (case a => k_is)
      (case l => k_is)
      (case c => k_is)
      (case k => k_is)
    case F_d25 =>
      refine' K92.f_d25 KX G ?a ?l ?c ?k
      (case a => k_is)
      (case l => k_is)
      (case c => k_is)
      (case k => k_is)
    case F_d26 =>
      refine' K92.f_d26 KX G ?a ?l ?c ?k
      (case a => k_is)
      (case l => k_is)
      (case c => k_is)
      (case k => k_is)
    case F_d27 =>
      refine' K92.f_d27 KX G ?a ?l ?c ?k
      (case a => k_is)
      (case l => k_is)
      (case c => k_is)
      (case k => k_is)
    case F_d28 =>
      refine' K92.f_d28 KX G ?a ?l ?c ?k
      (case a => k_is)
      (case l => k_is)
      (case c => k_is)
      (case k => k_is)
    case F_d29 =>
      refine' K92.f_d29 KX G ?a ?l ?c ?k
      (case a => k_is)
      (case l => k_is)
      (case c => k_is)
      (case k => k_is)
    case F_d30 =>
      refine' K92.f_d30 KX G ?a ?l ?c ?k
      (case a => k_is)
      (case l => k_is)
      (case c => k_is)
      (case k => k_is)
    case F_d32 =>
      refine' K92.f_d32 KX G ?a ?l ?c ?k
      (case a => k_is)
      (case l => k_is)
      (case c => k_is)
      (case k => k_is)
    case F_d33_0 =>
      refine' K92.f_d33_0 KX G ?aC ?a ?i ?l ?c ?k ?mk ?kc ?hC ?hi
      (case aC => k_is)
      (case a => k_is)
      (case i => k_is)
      (case l => k_is)
      (case c => k_is)
      (case k => k_is)
      (case mk => k_is)
      (case kc => k_is)
      (case hC => decide)
      (case hi => refine' K92.ins_mk ?_ ?_ ?_ ?_ ?_ ?_ ?_ ?_ ?_ ?_ ?_ ?_ ?_ ?_ ?_ <;> k_is)
    case F_d33_1 =>
      refine' K92.f_d33_1 KX G ?aC ?a ?i ?l ?c ?k ?hkl
      (case aC => k_is)
      (case a => k_is)
      (case i => k_is)
      (case l => k_is)
      (case c => k_is)
      (case k => k_is)
      (case hkl => refine' ⟨?_, ?_, ?_, ?_⟩ <;> k_is)
    case F_d34 =>
      refine' K92.f_d34 KX G ?a ?l ?c ?k
      (case a => k_is)
      (case l => k_is)
      (case c => k_is)
      (case k => k_is)
    case F_d35 =>
      refine' K92.f_d35 KX G ?a ?l ?c ?k
      (case a => k_is)
      (case l => k_is)
      (case c => k_is)
      (case k => k_is)
    case F_d40 =>
      refine' K92.f_d40 KX G ?a ?l ?c ?k
      (case a => k_is)
      (case l => k_is)
      (case c => k_is)
      (case k => k_is)
    case F_d41 =>
      refine' K92.f_d41 KX G ?a ?l ?c ?k
      (case a => k_is)
      (case l => k_is)
      (case c => k_is)
      (case k => k_is)
    case F_d42 =>
      refine' K92.f_d42 KX G ?a ?l ?c ?k
      (case a => k_is)
      (case l => k_is)
      (case c => k_is)
      (case k => k_is)
    case F_d43 =>
      refine' K92.f_d43 KX G ?a ?l ?c ?k
      (case a => k_is)
      (case l => k_is)
      (case c => k_is)
      (case k => k_is)
    case F_d46 =>
      refine' K92.f_d46 KX G ?a ?l ?c ?k
      (case a => k_is)
      (case l => k_is)
      (case c => k_is)
      (case k => k_is)
    case F_d47 =>
      refine' K92.f_d47 KX G ?a ?l ?c ?k
      (case a => k_is)
      (case l => k_is)
      (case c => k_is)
      (case k => k_is)
    case F_d48 =>
      refine' K92.f_d48 KX G ?a ?l ?c ?k
      (case a => k_is)
      (case l => k_is)
      (case c => k_is)
      (case k => k_is)
    case F_d49 =>
      refine' K92.f_d49 KX G ?a ?l ?c ?k
      (case a => k_is)
      (case l => k_is)
      (case c => k_is)
      (case k => k_is)
    case F_d50 =>
      refine' K92.f_d50 KX G ?a ?l ?c ?k
      (case a => k_is)
      (case l => k_is)
      (case c => k_is)
      (case k => k_is)
    case F_d51 =>
      refine' K92.f_d51 KX G ?a ?l ?c ?k
      (case a => k_is)
      (case l => k_is)
      (case c => k_is)
      (case k => k_is)
    case F_d52 =>
      refine' K92.f_d52 KX G ?a ?l ?c ?k
      (case a => k_is)
      (case l => k_is)
      (case c => k_is)
      (case k => k_is)
    case F_d53 =>
      refine' K92.f_d53 KX G ?a ?l ?c ?k
      (case a => k_is)
      (case l => k_is)
      (case c => k_is)
      (case k => k_is)
    case F_d54 =>
      refine' K92.f_d54 KX G ?a ?l ?c ?k
      (case a => k_is)
      (case l => k_is)
      (case c => k_is)
      (case k => k_is)
    case F_d56 =>
      refine' K92.f_d56 KX G ?a ?l ?c ?k
      (case a => k_is)
      (case l => k_is)
      (case c => k_is)
      (case k => k_is)
    case F_d57 =>
      refine' K92.f_d57 KX G ?a ?l ?c ?k
      (case a => k_is)
      (case l => k_is)
      (case c => k_is)
      (case k => k_is)
    case F_d59 =>
      refine' K92.f_d59 KX G ?a ?l ?c ?k
      (case a => k_is)
      (case l => k_is)
      (case c => k_is)
      (case k => k_is)
    case F_d62 =>
      refine' K92.f_d62 KX G ?a ?l ?c ?k
      (case a => k_is)
      (case l => k_is)
      (case c => k_is)
      (case k => k_is)
    case F_d63 =>
      refine' K92.f_d63 KX G ?a ?l ?c ?k
      (case a => k_is)
      (case l => k_is)
      (case c => k_is)
      (case k => k_is)
    case F_d64 =>
      refine' K92.f_d64 KX G ?a ?l ?c ?k
      (case a => k_is)
      (case l => k_is)
      (case c => k_is)
      (case k => k_is)
    case F_d65 =>
      refine' K92.f_d65 KX G ?a ?l ?c ?k
      (case a => k_is)
      (case l => k_is)
      (case c => k_is)
      (case k => k_is)
    case F_d66 =>
      refine' K92.f_d66 KX G ?a ?l ?c ?k
      (case a => k_is)
      (case l => k_is)
      (case c => k_is)
      (case k => k_is)
    case F_d67 =>
      refine' K92.f_d67 KX G ?a ?l ?c ?k
      (case a => k_is)
      (case l => k_is)
      (case c => k_is)
      (case k => k_is)
    case F_d68 =>
      refine' K92.f_d68 KX G ?a ?l ?c ?k
      (case a => k_is)
      (case l => k_is)
      (case c => k_is)
      (case k => k_is)
    case F_d69 =>
      refine' K92.f_d69 KX G ?a ?l ?c ?k
      (case a => k_is)
      (case l => k_is)
      (case c => k_is)
      (case k => k_is)
    case F_d70 =>
      refine' K92.f_d70 KX G ?a ?l ?c ?k
      (case a => k_is)
      (case l => k_is)
      (case c => k_is)
      (case k => k_is)
    case F_d71 =>
      refine' K92.f_d71 KX G ?a ?l ?c ?k
      (case a => k_is)
      (case l => k_is)
      (case c => k_is)
      (case k => k_is)
    case F_d72 =>
      refine' K92.f_d72 KX G ?a ?l ?c ?k
      (case a => k_is)
      (case l => k_is)
      (case c => k_is)
      (case k => k_is)
    case F_d73 =>
      refine' K92.f_d73 KX G ?a ?l ?c ?k
      (case a => k_is)
      (case l => k_is)
      (case c => k_is)
      (case k => k_is)
    case F_d74 =>
      refine' K92.f_d74 KX G ?a ?l ?c ?k
      (case a => k_is)
      (case l => k_is)
      (case c => k_is)
      (case k => k_is)
    case F_d75 =>
      refine' K92.f_d75 KX G ?a ?l ?c ?k
      (case a => k_is)
      (case l => k_is)
      (case c => k_is)
      (case k => k_is)
    case Q_start =>
      refine' K92.x_start KX G ?a ?l ?c ?k
      (case a => k_is)
      (case l => k_is)
      (case c => k_is)
      (case k => k_is)
    case Q_closed =>
      refine' K92.x_closed KX G ?a ?l ?c ?k
      (case a => k_is)
      (case l => k_is)
      (case c => k_is)
      (case k => k_is)
    case Q_law =>
      refine' K92.x_law KX G hmg ?a ?l ?c ?k
      (case a => k_is)
      (case l => k_is)
      (case c => k_is)
      (case k => k_is)
    case Q_spread =>
      refine' K92.x_spread KX G ?aC ?hi ?n0 ?n1 ?n2 ?n3 ?n4 ?mk ?kc ?lI ?cI ?kI ?aI ?iI ?lT ?cT ?kT ?aT ?iT ?lS ?cS ?kS ?aS ?iS
      (case aC => k_is)
      (case hi => refine' K92.ins_mk ?_ ?_ ?_ ?_ ?_ ?_ ?_ ?_ ?_ ?_ ?_ ?_ ?_ ?_ ?_ <;> k_is)
      (case n0 => k_is)
      (case n1 => k_is)
      (case n2 => k_is)
      (case n3 => k_is)
      (case n4 => k_is)
      (case mk => k_is)
      (case kc => k_is)
      (case aI => k_is)
      (case iI => k_is)
      (case lI => k_is)
      (case cI => k_is)
      (case kI => k_is)
      (case aT => k_is)
      (case iT => k_is)
      (case lT => k_is)
      (case cT => k_is)
      (case kT => k_is)
      (case aS => k_is)
      (case iS => k_is)
      (case lS => k_is)
      (case cS => k_is)
      (case kS => k_is)
    case F_note =>
      refine' K92.f_note KX G ?aC ?a ?i ?l ?c ?k ?hkl
      (case aC => k_is)
      (case a => k_is)
      (case i => k_is)
      (case l => k_is)
      (case c => k_is)
      (case k => k_is)
      (case hkl => refine' ⟨?_, ?_, ?_, ?_⟩ <;> k_is)
    case F_walk =>
      refine' K92.f_walk KX G ?aC ?a ?i ?l ?c ?k ?hkl
      (case aC => k_is)
      (case a => k_is)
      (case i => k_is)
      (case l => k_is)
      (case c => k_is)
      (case k => k_is)
      (case hkl => refine' ⟨?_, ?_, ?_, ?_⟩ <;> k_is)
    case B_len =>
      k_is
    case B_abs =>
      k_is
    case B_max =>
      k_is
    case B_min =>
      k_is
    case B_int =>
      k_is
    case B_str =>
      k_is
    case B_all =>
      k_is
    case B_any =>
      k_is
    case B_sum =>
      k_is
    case B_list =>
      k_is
    case B_isinstance =>
      k_is
    case B_range =>
      k_is
    case B_enumerate =>
      k_is
    case B_bool =>
      k_is
    case B_tuple =>
      k_is
    case B_dict =>
      k_is
    case B_zip =>
      k_is
    case B_reversed =>
      k_is
    case B_sorted =>
      k_is
    case Q_cGates =>
      refine' K92.x_cGates KX G ?aC ?z1 ?z2 ?s0 ?s1 ?s2 ?s3 ?s4 ?s5 ?s6 ?m0
      (case aC => k_is)
      (case z1 => first | k_is | kernel_rfl | rfl | decide +kernel)
      (case z2 => k_is)
      (case s0 => k_is)
      (case s1 => k_is)
      (case s2 => k_is)
      (case s3 => k_is)
      (case s4 => k_is)
      (case s5 => k_is)
      (case s6 => k_is)
      (case m0 => k_is)
    case Q_kLETTERS =>
      refine' K92.x_kLETTERS KX G ?a ?e
      (case a => k_is)
      (case e => first | rfl | kernel_rfl | decide +kernel)
    case Q_kKINDS =>
      refine' K92.x_kKINDS KX G ?a ?l ?e1 ?e2 ?e3
      (case a => k_is)
      (case l => k_is)
      (case e1 => rfl)
      (case e2 => first | decide | decide +kernel)
      (case e3 => refine' .cons ?_ (.cons ?_ (.cons ?_ (.cons ?_ (.cons ?_ .nil)))) <;> exact ⟨_, rfl⟩)
