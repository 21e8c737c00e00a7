import PyProof.Rows.All
import Wide.All
import OpenK.AllK
import Wide.FinOn
import HandS.ForMost
import HandS.Codes
import HandS.Wide
import HandS.WideBits
import HandS.TupMul
import HandS.TupAny
import HandS.Style
import HandS.Conv
import HandS.Strs
import PySem.Challenge.RW_lookalike_k39_whole_slots_and_whole_runs
set_option Elab.async false
set_option linter.all false
set_option maxRecDepth 100000
set_option maxHeartbeats 4000000
/-! The machine in plain Lean: images, states, steps, runs; what a thread does alone; whole runs. -/
namespace Lk
/-- an instruction; places, rows, widths are naturals, words whole numbers -/
inductive Ins where
  | push (w : Nat) (n : Int) | rest | op (o w : Nat) | out (l : Nat) | take (l w : Nat)
  | loc (i : Nat) | keep (i : Nat) | box (i : Nat) | fill (i : Nat) | cell (i : Nat) | cells (i : Nat)
  | els (r : Nat) | jump (r : Nat) | fin
structure Thr where
  ws : List Nat
  code : List Ins
/-- levels, boxes (width, word), rows (width, size), threads -/
structure Img where
  lv : Nat
  boxes : List (Nat × Int)
  rows : List (Nat × Nat)
  ths : List Thr
structure Th where
  row : Nat
  stk : List Int
  loc : List Int
structure MSt where
  tick : Nat
  boxes : List Int
  rows : List (List Int)
  ins : List (List Int)
  ths : List (Option Th)
inductive Deed where
  | out (l : Nat) (n : Int) | fin (t : Nat)
def top (xs : List Int) : Int := xs.getLast?.getD 0
/-- the bits of two words, as the interpreter reckons them -/
def wop (o w : Nat) (a b : Int) : Int :=
  if o = 0 then (a + b) % 2 ^ w else if o = 1 then (a - b) % 2 ^ w else if o = 2 then (a * b) % 2 ^ w
  else if o = 3 then (if b = 0 then 0 else a / b) else if o = 4 then (if b = 0 then a else a % b)
  else if o = 5 then PySem.Builtin.bitAnd a b else if o = 6 then PySem.Builtin.bitOr a b else if o = 7 then PySem.Builtin.bitXor a b
  else if o = 8 then (a * 2 ^ (b % w).toNat) % 2 ^ w else if o = 9 then a / 2 ^ (b % w).toNat
  else if o = 10 then (if a = b then 1 else 0) else (if a < b then 1 else 0)
def putT (s : MSt) (i : Nat) (t : Th) : MSt := { s with ths := s.ths.set i (some t) }
def exec (I : Img) (T : Thr) (i : Nat) (t : Th) (s : MSt) : Ins → MSt × Option Deed
  | .fin => ({ s with ths := s.ths.set i none }, some (.fin i))
  | .out l => (putT s i ⟨t.row + 1, t.stk.dropLast, t.loc⟩, some (.out l (top t.stk)))
  | .rest => (putT s i ⟨t.row + 1, t.stk, t.loc⟩, none)
  | .jump r => (putT s i ⟨r, t.stk, t.loc⟩, none)
  | .els r => (putT s i ⟨if top t.stk = 0 then r else t.row + 1, t.stk.dropLast, t.loc⟩, none)
  | .push _ n => (putT s i ⟨t.row + 1, t.stk ++ [n], t.loc⟩, none)
  | .op o w => (putT s i ⟨t.row + 1, t.stk.dropLast.dropLast ++ [wop o w (top t.stk.dropLast % 2 ^ w) (top t.stk % 2 ^ w)], t.loc⟩, none)
  | .take l w => (putT { s with ins := s.ins.set l (s.ins.getD l []).dropLast } i ⟨t.row + 1, t.stk ++ [top (s.ins.getD l []) % 2 ^ w], t.loc⟩, none)
  | .loc k => (putT s i ⟨t.row + 1, t.stk ++ [t.loc.getD k 0], t.loc⟩, none)
  | .keep k => (putT s i ⟨t.row + 1, t.stk.dropLast, t.loc.set k (top t.stk % 2 ^ (T.ws.getD k 0))⟩, none)
  | .box k => (putT s i ⟨t.row + 1, t.stk ++ [s.boxes.getD k 0], t.loc⟩, none)
  | .fill k => (putT { s with boxes := s.boxes.set k (top t.stk % 2 ^ ((I.boxes.getD k (0, 0)).1)) } i ⟨t.row + 1, t.stk.dropLast, t.loc⟩, none)
  | .cell k => (putT s i ⟨t.row + 1, t.stk.dropLast ++ [(s.rows.getD k []).getD (top t.stk % ((s.rows.getD k []).length : Nat)).toNat 0], t.loc⟩, none)
  | .cells k => (putT { s with rows := s.rows.set k ((s.rows.getD k []).set (top t.stk.dropLast % ((s.rows.getD k []).length : Nat)).toNat (top t.stk % 2 ^ ((I.rows.getD k (0, 0)).1))) } i
      ⟨t.row + 1, t.stk.dropLast.dropLast, t.loc⟩, none)
def MSt.next (s : MSt) : MSt := { s with tick := s.tick + 1 }
def step (I : Img) (s : MSt) : MSt × Option Deed :=
  match s.ths[s.tick % s.ths.length]?, I.ths[s.tick % s.ths.length]? with
  | some (some t), some T => (match T.code[t.row]? with
    | some c => exec I T (s.tick % s.ths.length) t s.next c
    | none => (s.next, none))
  | _, _ => (s.next, none)
def stt (I : Img) (s : MSt) : Nat → MSt
  | 0 => s
  | n + 1 => (step I (stt I s n)).1
abbrev Rec := List (Nat × Deed)
def recs (I : Img) (s : MSt) : Nat → Rec
  | 0 => []
  | n + 1 => recs I s n ++ (step I (stt I s n)).2.toList.map fun d => ((stt I s n).tick, d)
def begun (I : Img) (inp : List (List Int)) : MSt :=
  ⟨0, I.boxes.map (·.2), I.rows.map fun r => List.replicate r.2 0, inp.map List.reverse, I.ths.map fun T => some ⟨0, [], List.replicate T.ws.length 0⟩⟩
def deeds (m i : Nat) (r : Rec) : Rec := r.filterMap fun p => if p.1 % m = i then some (p.1 / m, p.2) else none
def over (s : MSt) : Bool := s.ths.all (·.isNone)

/-! ### what a step leaves -/
theorem exec_tick (I : Img) (T : Thr) (i : Nat) (t : Th) (s : MSt) (c : Ins) : (exec I T i t s c).1.tick = s.tick := by cases c <;> rfl
theorem exec_len (I : Img) (T : Thr) (i : Nat) (t : Th) (s : MSt) (c : Ins) : (exec I T i t s c).1.ths.length = s.ths.length := by
  cases c <;> simp [exec, putT]
theorem exec_ne (I : Img) (T : Thr) (i : Nat) (t : Th) (s : MSt) (c : Ins) {j : Nat} (h : j ≠ i) : (exec I T i t s c).1.ths[j]? = s.ths[j]? := by
  cases c <;> simp [exec, putT, List.getElem?_set_ne (Ne.symm h)]
theorem step_tick (I : Img) (s : MSt) : (step I s).1.tick = s.tick + 1 := by
  unfold step
  split
  · split
    · rw [exec_tick]; rfl
    · rfl
  · rfl
theorem step_len (I : Img) (s : MSt) : (step I s).1.ths.length = s.ths.length := by
  unfold step
  split
  · split
    · rw [exec_len]; rfl
    · rfl
  · rfl
theorem step_ne (I : Img) (s : MSt) {j : Nat} (h : j ≠ s.tick % s.ths.length) : (step I s).1.ths[j]? = s.ths[j]? := by
  unfold step
  split
  · split
    · rw [exec_ne _ _ _ _ _ _ h]; rfl
    · rfl
  · rfl
theorem stt_tick (I : Img) (s : MSt) : ∀ n, (stt I s n).tick = s.tick + n
  | 0 => rfl
  | n + 1 => by
    show (step I (stt I s n)).1.tick = _
    rw [step_tick, stt_tick I s n]; rfl
theorem stt_len (I : Img) (s : MSt) : ∀ n, (stt I s n).ths.length = s.ths.length
  | 0 => rfl
  | n + 1 => by
    show (step I (stt I s n)).1.ths.length = _
    rw [step_len, stt_len I s n]
theorem recs_len (I : Img) (s : MSt) : ∀ n, (recs I s n).length ≤ n
  | 0 => Nat.le_refl _
  | n + 1 => by
    have h := recs_len I s n
    show (recs I s n ++ (step I (stt I s n)).2.toList.map fun d => ((stt I s n).tick, d)).length ≤ n + 1
    rw [List.length_append, List.length_map]
    have h2 : (step I (stt I s n)).2.toList.length ≤ 1 := by cases (step I (stt I s n)).2 <;> simp
    omega

/-! ### a thread alone -/
def Ins.reads : Ins → Bool
  | .box _ | .cell _ | .take _ _ => true
  | _ => false
theorem exec_alone (I I' : Img) (T : Thr) (i : Nat) (t : Th) (s s' : MSt) (c : Ins) (hc : c.reads = false) (hi : i < s.ths.length) (hi' : i < s'.ths.length) :
    (exec I T i t s c).2 = (exec I' T i t s' c).2 ∧ (exec I T i t s c).1.ths[i]? = (exec I' T i t s' c).1.ths[i]? := by
  cases c <;> first
    | exact absurd (show true = false from hc) Bool.noConfusion
    | exact ⟨rfl, by simp [exec, putT, hi, hi']⟩
theorem alone_step {I I' : Img} {s s' : MSt} {i : Nat} {T : Thr} (ht : s.tick = s'.tick) (hl : s.ths.length = s'.ths.length) (h1 : s.ths[i]? = s'.ths[i]?) (hI : I.ths[i]? = some T) (hI' : I'.ths[i]? = some T) (hc : ∀ c ∈ T.code, c.reads = false) :
    (step I s).1.ths[i]? = (step I' s').1.ths[i]? ∧ (s.tick % s.ths.length = i → (step I s).2 = (step I' s').2) := by
  by_cases h : i = s.tick % s.ths.length
  · by_cases hi : i < s.ths.length
    · have hi' : i < s'.ths.length := hl ▸ hi
      have e' : s'.tick % s'.ths.length = i := by rw [← ht, ← hl]; exact h.symm
      have e1 : s.tick % s.ths.length = i := h.symm
      unfold step
      rw [e', e1, hI, hI', ← h1]
      cases q : s.ths[i]? with
      | none => exact absurd (List.getElem?_eq_none_iff.mp q) (by omega)
      | some o =>
        cases o with
        | none => exact ⟨by show s.ths[i]? = s'.ths[i]?; exact h1, fun _ => rfl⟩
        | some t =>
          show (match T.code[t.row]? with | some c => exec I T i t s.next c | none => (s.next, none)).1.ths[i]? = (match T.code[t.row]? with | some c => exec I' T i t s'.next c | none => (s'.next, none)).1.ths[i]? ∧ (_ → (match T.code[t.row]? with | some c => exec I T i t s.next c | none => (s.next, none)).2 = (match T.code[t.row]? with | some c => exec I' T i t s'.next c | none => (s'.next, none)).2)
          cases qc : T.code[t.row]? with
          | none => exact ⟨by show s.ths[i]? = s'.ths[i]?; exact h1, fun _ => rfl⟩
          | some c =>
            have hm := hc c (List.mem_of_getElem? qc)
            obtain ⟨a, b⟩ := exec_alone I I' T i t s.next s'.next c hm hi hi'
            exact ⟨b, fun _ => a⟩
    · have n1 : s.ths[i]? = none := List.getElem?_eq_none_iff.mpr (by omega)
      have n2 : s'.ths[i]? = none := h1 ▸ n1
      have e' : s'.tick % s'.ths.length = i := by rw [← ht, ← hl]; exact h.symm
      have e1 : s.tick % s.ths.length = i := h.symm
      unfold step
      rw [e', e1, n1, n2]
      exact ⟨by show s.ths[i]? = s'.ths[i]?; exact h1, fun _ => rfl⟩
  · have h' : i ≠ s'.tick % s'.ths.length := by rw [← ht, ← hl]; exact h
    exact ⟨by rw [step_ne I s h, step_ne I' s' h', h1], fun e => absurd e.symm h⟩
theorem deeds_append (m i : Nat) (r r' : Rec) : deeds m i (r ++ r') = deeds m i r ++ deeds m i r' := List.filterMap_append
theorem deeds_one (m i t : Nat) (o : Option Deed) : deeds m i (o.toList.map fun d => (t, d)) = if t % m = i then o.toList.map fun d => (t / m, d) else [] := by
  cases o with
  | none => by_cases h : t % m = i <;> simp [deeds]
  | some d => by_cases h : t % m = i <;> simp [deeds, h]
theorem alone_run {I I' : Img} {s s' : MSt} {i : Nat} {T : Thr} (ht : s.tick = s'.tick) (hl : s.ths.length = s'.ths.length) (h1 : s.ths[i]? = s'.ths[i]?) (hI : I.ths[i]? = some T) (hI' : I'.ths[i]? = some T) (hc : ∀ c ∈ T.code, c.reads = false) :
    ∀ n, (stt I s n).ths[i]? = (stt I' s' n).ths[i]? ∧ deeds s.ths.length i (recs I s n) = deeds s.ths.length i (recs I' s' n)
  | 0 => ⟨h1, rfl⟩
  | n + 1 => by
    obtain ⟨a, b⟩ := alone_run ht hl h1 hI hI' hc n
    have ht' : (stt I s n).tick = (stt I' s' n).tick := by rw [stt_tick, stt_tick, ht]
    have hl' : (stt I s n).ths.length = (stt I' s' n).ths.length := by rw [stt_len, stt_len, hl]
    obtain ⟨c, d⟩ := alone_step ht' hl' a hI hI' hc
    refine ⟨c, ?_⟩
    show deeds _ _ (recs I s n ++ _) = deeds _ _ (recs I' s' n ++ _)
    rw [deeds_append, deeds_append, b, deeds_one, deeds_one, ← ht']
    by_cases h : (stt I s n).tick % s.ths.length = i
    · rw [if_pos h, if_pos h, d (by rw [stt_len]; exact h)]
    · rw [if_neg h, if_neg h]

/-! ### a whole run -/
/-- what a loop to a bound has come to: n steps, over at none ahead -/
structure Ran (I : Img) (s : MSt) (most n : Nat) : Prop where
  le : n ≤ most
  no : ∀ k, k < n → over (stt I s k) = false
  fin : n = most ∨ over (stt I s n) = true
theorem ran_same {I : Img} {s : MSt} {most n m : Nat} (a : Ran I s 90 n) (b : Ran I s most m) (h : most ≤ 90) :
    (over (stt I s m) = (over (stt I s n) && decide (n ≤ most))) ∧ (over (stt I s m) = true → m = n) := by
  have e1 : over (stt I s m) = true → m = n := fun o => by
    rcases Nat.lt_trichotomy m n with l | e | l
    · rw [a.no m l] at o; cases o
    · exact e
    · have o2 : over (stt I s n) = true := by
        rcases a.fin with e | e
        · have := b.le; omega
        · exact e
      rw [b.no n l] at o2; cases o2
  refine ⟨?_, e1⟩
  cases o : over (stt I s m) with
  | true =>
    have e := e1 o
    subst e
    rw [o, decide_eq_true b.le]
    rfl
  | false =>
    cases o2 : over (stt I s n) with
    | false => rfl
    | true =>
      have : ¬ n ≤ most := fun hn => by
        have em : m = most := by
          rcases b.fin with e | e
          · exact e
          · rw [o] at e; cases e
        rcases Nat.lt_trichotomy m n with l | e | l
        · omega
        · subst e; rw [o] at o2; cases o2
        · rw [b.no n l] at o2; cases o2
      rw [decide_eq_false this]
      rfl
end Lk
/-! Rules of our own over the layer, and words about heaps. -/
namespace Lk
open PySem PySem.Spec PyProof.Rows L2
section
variable {X : Cx}
/-! ### a list held against the empty list -/
theorem plain_isList {h : Heap} {a : Addr} {its : Array Value} (p : PlainL h a its) : h.IsList a its := by
  obtain ⟨o, n, e, c, _, d⟩ := p
  exact ⟨o, e, c, n, d⟩
def rEqE (K : PySem.W.Frag) : R2 := fun x y H Q => ∃ a b xs, x = .ref a ∧ y = .ref b ∧ SqL K H a xs ∧ SqL K H b [] ∧ Q (.bl xs.isEmpty) H
def rNeE (K : PySem.W.Frag) : R2 := fun x y H Q => ∃ a b xs, x = .ref a ∧ y = .ref b ∧ SqL K H a xs ∧ SqL K H b [] ∧ Q (.bl (!xs.isEmpty)) H
theorem op_eqE (hu : X.A.units < cLine) : OpR X (compareOp .Eq) (rEqE X.K) := by
  intro pins s σ H x y v u Q I rx ry h
  obtain ⟨a, b, xs, rfl, rfl, ha, hb, q⟩ := h
  cases rx
  cases ry
  obtain ⟨its, r1, p1, _⟩ := I.list ha
  obtain ⟨js, r2, p2, _⟩ := I.list hb
  cases r2
  cases r1 with
  | nil =>
    exact SeqAt.RcAt.lists (e := fun _ => true) (plain_isList p1) (plain_isList p2) rfl hu (fun j h1 _ => absurd h1 (Nat.not_lt_zero _)) _ _ _ _ ⟨.bl true, H, I, rfl, q⟩
  | cons r t =>
    refine SeqAt.RcAt.lists_lengths (plain_isList p1) (plain_isList p2) ?_ hu _ _ _ _ ⟨.bl false, H, I, rfl, q⟩
    simp
theorem op_neE (hu : X.A.units < cLine) : OpR X (compareOp .NotEq) (rNeE X.K) := by
  intro pins s σ H x y v u Q I rx ry h
  obtain ⟨a, b, xs, rfl, rfl, ha, hb, q⟩ := h
  cases rx
  cases ry
  obtain ⟨its, r1, p1, _⟩ := I.list ha
  obtain ⟨js, r2, p2, _⟩ := I.list hb
  cases r2
  cases r1 with
  | nil =>
    exact SeqAt.RcNeAt.lists (e := fun _ => true) (plain_isList p1) (plain_isList p2) rfl hu (fun j h1 _ => absurd h1 (Nat.not_lt_zero _)) _ _ _ _ ⟨.bl false, H, I, rfl, q⟩
  | cons r t =>
    refine SeqAt.RcNeAt.lists_lengths (plain_isList p1) (plain_isList p2) ?_ hu _ _ _ _ ⟨.bl true, H, I, rfl, q⟩
    simp
/-! ### repr of tuples and of None -/
def rRepr (K : PySem.W.Frag) : List V → Hp → VK → Prop := fun xs H Q =>
  (xs = [.non] ∧ Q (.str "None") H) ∨
  (∃ a ds, xs = [.ref a] ∧ Dp K H (.ref a) (.tuple ds) ∧ (PyData.tuple ds).showable = true ∧ (PyData.tuple ds).hasDict = false ∧ (PyData.tuple ds).depth ≤ 60 ∧ (PyData.tuple ds).shown.length ≤ sizeLine ∧ Q (.str (PyData.tuple ds).shown) H)
theorem call_reprT (hg : X.A.guards = some []) (hu : X.A.units + 64 < cLine) : CallR X (.builtin "repr") (rRepr X.K) := by
  intro pins s σ H xs us Q I r h
  rcases h with ⟨rfl, q⟩ | ⟨a, ds, rfl, hd, h1, h2, h3, h4, q⟩
  · obtain ⟨u, rfl, rfl⟩ := vals1 r
    exact PySem.P.repr_of_none ⟨.str _, H, I.tok _, ⟨_, rfl⟩, q⟩
  · obtain ⟨u, rfl, ru⟩ := vals1 r
    obtain ⟨as, rd⟩ := Dp.reads I _ _ u hd ru
    cases ru
    refine repr_of_reads' rd h1 (PyData.noDict_hsm h2) hg (by omega) (fun _ _ e => e) (fun h' u tk hk => ?_) h4
    exact ⟨.str _, H, I.kept (t' := tk) hk, ⟨_, rfl⟩, q⟩
/-! ### a conditional expression as a test -/
def tIfT (tc ta tb : TT) : TT := fun σ H Q => tc σ H fun d H1 => if d = true then ta σ H1 Q else tb σ H1 Q
theorem pt_ifE {c a b : Expr} {tc ta tb : TT} {pos : Pos} (hc : PT X c tc) (ha : PT X a ta) (hb : PT X b tb) : PT X (.IfExp c a b pos) (tIfT tc ta tb) := by
  refine ⟨fun pins s σ H Q I h => isTrue_IfExp (thn (hc.run pins s σ H _ I h) fun d s1 z => ?_)⟩
  obtain ⟨H1, I1, q1⟩ := z
  cases d with
  | true => exact ha.run pins s1 σ H1 Q I1 q1
  | false => exact hb.run pins s1 σ H1 Q I1 q1
/-! ### a call by keywords alone -/
theorem pe_callK0 {CX : CXT} {k : Nat} {f : Addr} {fd : FuncData} {ps ks : List Str} {sp : Sp} {E : XK} {x : Str} {p pos : Pos} {kws : List Keyword} {tk : TA} {g : List Value → List Value → List Value} {gV : List V → List V → List V}
    (F : FnOk X.prog X.w X.K X.mg X.base CX k f fd ps sp) (hr : Room k X.A) (hgl : Gl X x) (hm : X.mg x = some (.ref f)) (hk : PySem.W.keepIn X.K (.ref f) = true) (hb : KBinds X.K fd ps ks g gV) (hx : Passes CX X E)
    (hkw : PK X kws tk) (hall : (backToKw pos (keywordEach kws X.env)).all (·.1.isSome) = true := by rfl) (hks : (backToKw pos (keywordEach kws X.env)).filterMap (·.1) = ks := by rfl)
    (hdb : (x == ("__debug__" : Str)) = false := by decide)
    (hpl : ((backTo pos (starEach [] X.env)).any (·.1) || (backToKw pos (keywordEach kws X.env)).any (·.1.isNone)) = false := by rfl) :
    PE X (.Call (.Name x p) [] kws pos) (tCallK sp gV E tNil tk) := by
  refine ⟨fun pins s σ H Q I h => wpAny_Call_Name_kw (ld_glob I hgl hm ?_ hdb)⟩
  have h' : tk σ H fun zs H2 => sp (gV [] zs) H2 Q E := h
  refine PySem.W.callWith_KW0 (h₀ := X.base) I.ok.mod.kin hk hall (thn (hkw.run pos pins s σ H _ I h') fun ws s2 z => ?_) hpl
  obtain ⟨zs, H2, I2, rz, q2⟩ := z
  refine ⟨I2.kIn, ?_⟩
  rw [hks]
  exact run_fnk (us := []) (vs := []) F hr hb hx I2 .nil rz q2
end
/-! ### heaps -/
/-- all but S is as it was -/
def Kp (S : Addr → Prop) (H H' : Hp) : Prop := ∀ a o, H a = some o → ¬ S a → H' a = some o
abbrev S0 : Addr → Prop := fun _ => False
theorem Kp.refl {S : Addr → Prop} (H : Hp) : Kp S H H := fun _ _ h _ => h
theorem Kp.trans {S T : Addr → Prop} {H H1 H2 : Hp} (a : Kp S H H1) (b : Kp T H1 H2) (h : ∀ x o, H x = some o → T x → S x) : Kp S H H2 := fun x o e n =>
  b x o (a x o e n) fun t => n (h x o e t)
theorem Kp.tr {S : Addr → Prop} {H H1 H2 : Hp} (a : Kp S H H1) (b : Kp S H1 H2) : Kp S H H2 := a.trans b fun _ _ _ t => t
theorem Kp.same {S : Addr → Prop} {H H1 : Hp} (a : Same H H1) : Kp S H H1 := fun x o e _ => a x o e
theorem Kp.then_same {S : Addr → Prop} {H H1 H2 : Hp} (a : Kp S H H1) (b : Same H1 H2) : Kp S H H2 := fun x o e n => b x o (a x o e n)
theorem same_then {S : Addr → Prop} {H H1 H2 : Hp} (a : Same H H1) (b : Kp S H1 H2) : Kp S H H2 := fun x o e n => b x o (a x o e) n
theorem Kp.to_same {H H1 : Hp} (a : Kp S0 H H1) : Same H H1 := fun x o e => a x o e fun z => z
theorem Kp.mono {S T : Addr → Prop} {H H1 : Hp} (a : Kp S H H1) (h : ∀ x, S x → T x) : Kp T H H1 := fun x o e n => a x o e fun s => n (h x s)
theorem same_new {H : Hp} {p : Addr} {o : HO} (h : H p = none) : Same H (upd H p o) := fun b x e => by
  rw [upd_ne (ne_of_none e h)]
  exact e
theorem kp_upd {S : Addr → Prop} {H : Hp} {p : Addr} {o : HO} (h : S p) : Kp S H (upd H p o) := fun b x e n => by
  rw [upd_ne (fun q => n (by rw [q]; exact h))]
  exact e
theorem upd_eq {H : Hp} {p : Addr} {o : HO} (h : H p = some o) : upd H p o = H := by
  funext b
  unfold upd
  split
  · rename_i e
    rw [e, h]
  · rfl
/-- what stands still: tuples -/
def Ts (H H' : Hp) : Prop := ∀ a xs, H a = some (.tup xs) → H' a = some (.tup xs)
theorem Ts.refl (H : Hp) : Ts H H := fun _ _ h => h
theorem Ts.trans {H H1 H2 : Hp} (a : Ts H H1) (b : Ts H1 H2) : Ts H H2 := fun x o e => b x o (a x o e)
theorem Ts.same {H H1 : Hp} (a : Same H H1) : Ts H H1 := fun x o e => a x _ e
theorem Kp.ts {S : Addr → Prop} {H H1 : Hp} (a : Kp S H H1) (h : ∀ x, S x → ∀ xs, H x ≠ some (.tup xs)) : Ts H H1 := fun x xs e => a x _ e fun s => h x s xs e
theorem ts_upd {H : Hp} {p : Addr} {o : HO} (h : ∀ xs, H p ≠ some (.tup xs)) : Ts H (upd H p o) := fun b xs e => by
  rw [upd_ne (fun q => h xs (by rw [← q]; exact e))]
  exact e
theorem ts_new {H : Hp} {p : Addr} {o : HO} (h : H p = none) : Ts H (upd H p o) := Ts.same (same_new h)
/-! ### lists item by item -/
def F2 {α β : Type} (P : α → β → Prop) (vs : List α) (xs : List β) : Prop := vs.length = xs.length ∧ ∀ (i : Nat) v x, vs[i]? = some v → xs[i]? = some x → P v x
section
variable {α β : Type} {P R : α → β → Prop} {vs : List α} {xs : List β} {v : α} {x : β}
theorem F2.nil : F2 P [] [] := ⟨rfl, fun i v x h _ => by simp at h⟩
theorem F2.imp (h : F2 P vs xs) (f : ∀ v x, P v x → R v x) : F2 R vs xs := ⟨h.1, fun i v x a b => f v x (h.2 i v x a b)⟩
theorem F2.snoc (h : F2 P vs xs) (p : P v x) : F2 P (vs ++ [v]) (xs ++ [x]) := by
  refine ⟨by simp [h.1], fun i v' x' a b => ?_⟩
  by_cases hi : i < vs.length
  · rw [List.getElem?_append_left hi] at a
    rw [List.getElem?_append_left (by rw [← h.1]; exact hi)] at b
    exact h.2 i v' x' a b
  · rw [List.getElem?_append_right (by omega)] at a
    rw [List.getElem?_append_right (by rw [← h.1]; omega)] at b
    cases e : i - vs.length with
    | zero =>
      rw [e] at a
      rw [← h.1, e] at b
      simp at a b
      rw [← a, ← b]
      exact p
    | succ n =>
      rw [e] at a
      simp at a
theorem F2.at (h : F2 P vs xs) {i : Nat} (e : xs[i]? = some x) : ∃ v, vs[i]? = some v ∧ P v x := by
  have hi : i < vs.length := by rw [h.1]; exact (List.getElem?_eq_some_iff.mp e).1
  exact ⟨vs[i], List.getElem?_eq_getElem hi, h.2 i _ x (List.getElem?_eq_getElem hi) e⟩
theorem F2.at' (h : F2 P vs xs) {i : Nat} (e : vs[i]? = some v) : ∃ x, xs[i]? = some x ∧ P v x := by
  have hi : i < xs.length := by rw [← h.1]; exact (List.getElem?_eq_some_iff.mp e).1
  exact ⟨xs[i], List.getElem?_eq_getElem hi, h.2 i v _ e (List.getElem?_eq_getElem hi)⟩
theorem F2.cons (h : F2 P vs xs) (p : P v x) : F2 P (v :: vs) (x :: xs) := by
  refine ⟨by simp [h.1], fun i v' x' a b => ?_⟩
  cases i with
  | zero =>
    simp at a b
    rw [← a, ← b]
    exact p
  | succ n =>
    simp at a b
    exact h.2 n v' x' a b
theorem F2.one (p : P v x) : F2 P [v] [x] := F2.nil.cons p
theorem F2.app {vs' : List α} {xs' : List β} (h : F2 P vs xs) (h' : F2 P vs' xs') : F2 P (vs ++ vs') (xs ++ xs') := by
  refine ⟨by simp [h.1, h'.1], fun i v' x' a b => ?_⟩
  by_cases hi : i < vs.length
  · rw [List.getElem?_append_left hi] at a
    rw [List.getElem?_append_left (by rw [← h.1]; exact hi)] at b
    exact h.2 i v' x' a b
  · rw [List.getElem?_append_right (by omega)] at a
    rw [List.getElem?_append_right (by rw [← h.1]; omega)] at b
    rw [← h.1] at b
    exact h'.2 _ v' x' a b
end
end Lk
/-! What a reading asks, a rule a construct: for the tactic that takes the plain steps. -/
namespace Lk
open PySem PySem.Spec PyProof.Rows L2
section
variable {σ : L2.St} {H : Hp} {Q : VK} {v : V} {te ta tb : TE} {t : TA} {D : Ends} {tu tw : TS} {tt tt' : TT} {QT : Bool → Hp → Prop} {QA : List V → Hp → Prop}
theorem rd_var {i : Nat} (e : σ[i]? = some (some v)) (h : Q v H) : tVar i σ H Q := ⟨v, e, h⟩
theorem rd_c (h : Q v H) : tC v σ H Q := h
theorem rd_nil (h : QA [] H) : tNil σ H QA := h
theorem rd_cons (h : te σ H fun x H1 => t σ H1 fun xs H2 => QA (x :: xs) H2) : tCons te t σ H QA := h
theorem rd_op {r : R2} (h : ta σ H fun x H1 => tb σ H1 fun y H2 => r x y H2 Q) : tOp r ta tb σ H Q := h
theorem rd_un {r : V → Hp → VK → Prop} (h : ta σ H fun x H1 => r x H1 Q) : tUn r ta σ H Q := h
theorem rd_cb {r : List V → Hp → VK → Prop} (h : t σ H fun vs H1 => r vs H1 Q) : tCB r t σ H Q := h
theorem rd_add {i j : Int} (h : Q (.int (i + j)) H) : rI0 (fun i j => .int (i + j)) (.int i) (.int j) H Q := ⟨i, j, rfl, rfl, h⟩
theorem rd_sub {i j : Int} (h : Q (.int (i - j)) H) : rI0 (fun i j => .int (i - j)) (.int i) (.int j) H Q := ⟨i, j, rfl, rfl, h⟩
theorem rd_lt {i j : Int} (h : Q (.bl (decide (i < j))) H) : rI0 (fun i j => .bl (decide (i < j))) (.int i) (.int j) H Q := ⟨i, j, rfl, rfl, h⟩
theorem rd_le {i j : Int} (h : Q (.bl (decide (i ≤ j))) H) : rI0 (fun i j => .bl (decide (i ≤ j))) (.int i) (.int j) H Q := ⟨i, j, rfl, rfl, h⟩
theorem rd_gt {i j : Int} (h : Q (.bl (decide (j < i))) H) : rI0 (fun i j => .bl (decide (j < i))) (.int i) (.int j) H Q := ⟨i, j, rfl, rfl, h⟩
theorem rd_ge {i j : Int} (h : Q (.bl (decide (j ≤ i))) H) : rI0 (fun i j => .bl (decide (j ≤ i))) (.int i) (.int j) H Q := ⟨i, j, rfl, rfl, h⟩
theorem rd_bool {k : Bool} {QB : Bool → Prop} (h : QB k) : ∃ k', V.bl k = V.bl k' ∧ QB k' := ⟨k, rfl, h⟩
theorem rd_test (h : te σ H fun x H' => ∃ k, x = .bl k ∧ QT k H') : tTest te σ H QT := h
theorem rd_tb (h : te σ H fun x H' => ∃ k, x = .bl k ∧ QT k H') : tB te σ H QT := h
theorem rd_asg {g : TG} (h : te σ H fun x H1 => g x σ H1 D.nx) : tAsg te g D σ H := h
theorem rd_gname {i : Nat} {N : L2.St → Hp → Prop} (h : N (σ.set i (some v)) H) : gName i v σ H N := h
theorem rd_ret (h : te σ H D.rt) : tRet te D σ H := h
theorem rd_retn (h : D.rt .non H) : tRetN D σ H := h
theorem rd_next (h : D.nx σ H) : tNext D σ H := h
theorem rd_drop (h : te σ H fun _ H1 => D.nx σ H1) : tDrop te D σ H := h
theorem rd_ifs (h : tt σ H fun b H1 => if b = true then tu D σ H1 else tw D σ H1) : tIfS tt tu tw D σ H := h
theorem rd_ife (h : tt σ H fun c H1 => if c = true then ta σ H1 Q else tb σ H1 Q) : tIf tt ta tb σ H Q := h
theorem rd_ift {tc ta tb : TT} (h : tc σ H fun c H1 => if c = true then ta σ H1 QT else tb σ H1 QT) : tIfT tc ta tb σ H QT := h
theorem rd_seq (h : tu { D with nx := tw D } σ H) : tSeq tu tw D σ H := h
theorem rd_call {sp : Sp} {E : XK} (h : t σ H fun vs H1 => sp vs H1 Q E) : tCall sp [] E t σ H Q := by
  have e : (fun vs H1 => sp (vs ++ []) H1 Q E) = fun vs H1 => sp vs H1 Q E := by
    funext vs H1
    rw [List.append_nil]
  show t σ H fun vs H1 => sp (vs ++ []) H1 Q E
  rw [e]
  exact h
theorem rd_and (h : tt σ H fun c H1 => if c = true then tt' σ H1 QT else QT false H1) : tAnd tt tt' σ H QT := h
theorem rd_or (h : tt σ H fun c H1 => if c = true then QT true H1 else tt' σ H1 QT) : tOr tt tt' σ H QT := h
theorem rd_not (h : tt σ H fun c H1 => QT (!c) H1) : tNot tt σ H QT := h
theorem rd_truei {A B : Prop} (h : A) : if true = true then A else B := iteT h
theorem rd_falsei {A B : Prop} (h : B) : if false = true then A else B := iteF h
theorem rd_ntrue {A B : Prop} (h : B) : if (!true) = true then A else B := iteF h
theorem rd_nfalse {A B : Prop} (h : A) : if (!false) = true then A else B := iteT h
theorem rd_int1 {i : Int} {QB : Int → Prop} {QC : Bool → Prop} (h : QB i) : (∃ i', [V.int i] = [V.int i'] ∧ QB i') ∨ ∃ k, [V.int i] = [V.bl k] ∧ QC k := .inl ⟨i, rfl, h⟩
theorem rd_isN {B : Prop} (h : B) : V.non = .non ∧ B := ⟨rfl, h⟩
/-- by a test's answer -/
theorem by_test {b : Bool} {A B : Prop} (h1 : b = true → A) (h2 : b = false → B) : if b = true then A else B := by
  cases b with
  | true => exact iteT (h1 rfl)
  | false => exact iteF (h2 rfl)
theorem rd_mod {i j : Int} (hj : 0 < j) (h : Q (.int (i % j)) H) : rI (fun _ j => 0 < j) (fun i j => .int (i % j)) (.int i) (.int j) H Q := ⟨i, j, rfl, rfl, hj, h⟩
theorem rd_fdiv {i j : Int} (hj : 0 < j) (hk : j < 1073741824) (h : Q (.int (i / j)) H) : rI CDiv (fun i j => .int (i / j)) (.int i) (.int j) H Q := ⟨i, j, rfl, rfl, ⟨hj, hk⟩, h⟩
theorem rd_mul {i j : Int} (hc : CMul i j) (h : Q (.int (i * j)) H) : rI CMul (fun i j => .int (i * j)) (.int i) (.int j) H Q := ⟨i, j, rfl, rfl, hc, h⟩
theorem rd_shl {i j : Int} (hc : CPow i j) (h : Q (.int (i * 2 ^ j.toNat)) H) : rI CPow (fun i j => .int (i * 2 ^ j.toNat)) (.int i) (.int j) H Q := ⟨i, j, rfl, rfl, hc, h⟩
theorem rd_eq {x y : V} (hs : scal x y = true) (h : Q (.bl (decide (x = y))) H) : rEq x y H Q := ⟨hs, h⟩
theorem rd_ne {x y : V} (hs : scal x y = true) (h : Q (.bl (!decide (x = y))) H) : rNe x y H Q := ⟨hs, h⟩
theorem rd_eqs {x y : Str} {b : Bool} (e : decide (V.str x = V.str y) = b) (h : Q (.bl b) H) : rEq (.str x) (.str y) H Q := ⟨rfl, by rw [e]; exact h⟩
theorem rd_nes {x y : Str} {b : Bool} (e : decide (V.str x = V.str y) = b) (h : Q (.bl (!b)) H) : rNe (.str x) (.str y) H Q := ⟨rfl, by rw [e]; exact h⟩
theorem rd_eqi {i j : Int} (h : Q (.bl (decide (i = j))) H) : rEq (.int i) (.int j) H Q := ⟨rfl, by
  have e : decide (V.int i = V.int j) = decide (i = j) := by
    by_cases q : i = j
    · rw [decide_eq_true q, q]
      exact decide_eq_true rfl
    · rw [decide_eq_false q]
      exact decide_eq_false fun z => q (V.int.inj z)
  rw [e]
  exact h⟩
theorem rd_tup (h : t σ H fun xs H1 => xs.length ≤ sizeLine ∧ ∀ p, H1 p = none → Q (.ref p) (upd H1 p (.tup xs))) : tTup t σ H Q := h
theorem rd_lst (h : t σ H fun xs H1 => xs.length ≤ sizeLine ∧ ∀ p, H1 p = none → Q (.ref p) (upd H1 p (.lst xs))) : tLst t σ H Q := h
end
/-! ### an item of a list or a tuple -/
/-- a list or a tuple of xs stands at a -/
def Sq (H : Hp) (a : Addr) (xs : List V) : Prop := H a = some (.lst xs) ∨ H a = some (.tup xs)
def rIxS2 (K : PySem.W.Frag) : R2 := fun x y H Q => rIxL K x y H Q ∨ rIxT K x y H Q
theorem rd_in {K : PySem.W.Frag} {H : Hp} {Q : VK} {p : Addr} {xs : List V} {x : V} (b : Bool) (hs : Sq H p xs) (f : flatV x = true) (fs : xs.all flatV = true) (e : inV x xs = b) (h : Q (.bl b) H) : rIn K false x (.ref p) H Q := by
  refine ⟨p, xs, rfl, hs.imp SqL.of SqT.of, f, fs, ?_⟩
  rw [e]
  exact h
theorem rd_nin {K : PySem.W.Frag} {H : Hp} {Q : VK} {p : Addr} {xs : List V} {x : V} (b : Bool) (hs : Sq H p xs) (f : flatV x = true) (fs : xs.all flatV = true) (e : inV x xs = b) (h : Q (.bl (!b)) H) : rIn K true x (.ref p) H Q := by
  refine ⟨p, xs, rfl, hs.imp SqL.of SqT.of, f, fs, ?_⟩
  rw [e]
  exact h
/-- a name's text in (not in) a written list or tuple of texts -/
theorem strs_flat (ys : List Str) : (ys.map V.str).all flatV = true := by
  rw [List.all_map]
  exact List.all_eq_true.mpr fun _ _ => rfl
section
variable {K : PySem.W.Frag} {σ : L2.St} {H : Hp} {Q : VK} {x : Str} {t : TA}
theorem rd_inlst (ys : List Str) {b : Bool} (ht : ∀ QA : List V → Hp → Prop, QA (ys.map V.str) H → t σ H QA) (hl : (ys.map V.str).length ≤ sizeLine) (hb : inV (.str x) (ys.map V.str) = b)
    (q : ∀ p, H p = none → Q (.bl b) (upd H p (.lst (ys.map V.str)))) : tLst t σ H fun y H2 => rIn K false (.str x) y H2 Q := ht _ ⟨hl, fun p hp => rd_in b (.inl upd_same) rfl (strs_flat ys) hb (q p hp)⟩
theorem rd_ninlst (ys : List Str) {b : Bool} (ht : ∀ QA : List V → Hp → Prop, QA (ys.map V.str) H → t σ H QA) (hl : (ys.map V.str).length ≤ sizeLine) (hb : inV (.str x) (ys.map V.str) = b)
    (q : ∀ p, H p = none → Q (.bl (!b)) (upd H p (.lst (ys.map V.str)))) : tLst t σ H fun y H2 => rIn K true (.str x) y H2 Q := ht _ ⟨hl, fun p hp => rd_nin b (.inl upd_same) rfl (strs_flat ys) hb (q p hp)⟩
theorem rd_intup (ys : List Str) {b : Bool} (ht : ∀ QA : List V → Hp → Prop, QA (ys.map V.str) H → t σ H QA) (hl : (ys.map V.str).length ≤ sizeLine) (hb : inV (.str x) (ys.map V.str) = b)
    (q : ∀ p, H p = none → Q (.bl b) (upd H p (.tup (ys.map V.str)))) : tTup t σ H fun y H2 => rIn K false (.str x) y H2 Q := ht _ ⟨hl, fun p hp => rd_in b (.inr upd_same) rfl (strs_flat ys) hb (q p hp)⟩
end
theorem rd_par {i j : Nat} {t : TA} {D : Ends} {σ : L2.St} {H : Hp} (h : t σ H fun vs H1 => ∃ v w, vs = [v, w] ∧ D.nx ((σ.set i (some v)).set j (some w)) H1) : tPar i j t D σ H := h
theorem rd_two {x y : V} {R : V → V → Prop} (h : R x y) : ∃ v w, [x, y] = [v, w] ∧ R v w := ⟨x, y, rfl, h⟩
section
variable {X : Cx}
theorem ix_lt : IxR X (rIxS2 X.K) := ix_list.or ix_tup
theorem rd_ix {K : PySem.W.Frag} {H : Hp} {Q : VK} {a : Addr} {xs : List V} {j : Nat} {v : V} {i : Int} (hs : Sq H a xs) (hj : xs[j]? = some v) (hi : i = (j : Int)) (h : Q v H) : rIxS2 K (.ref a) (.int i) H Q := by
  subst hi
  rcases hs with hs | hs
  · exact .inl ⟨a, xs, _, v, rfl, rfl, SqL.of hs, atI_nat hj, h⟩
  · exact .inr ⟨a, xs, _, v, rfl, rfl, SqT.of hs, atI_nat hj, h⟩
end
/-! ### items at written and reckoned places -/
section
variable {K : PySem.W.Frag} {σ : L2.St} {H : Hp} {Q : VK} {a p l C dx : Addr} {xs ys : List V} {v y z : V} {B : Prop} {to ti te tv : TE} {t : TA} {D : Ends} {N : L2.St → Hp → Prop} {f : Str} {fs : List (Str × V)} {g : TG} {gs : TGs}
theorem rd_ix0 (hs : Sq H a xs) (hj : xs[0]? = some v) (h : Q v H) : rIxS2 K (.ref a) (.int 0) H Q := rd_ix hs hj rfl h
theorem rd_ix1 (hs : Sq H a xs) (hj : xs[1]? = some v) (h : Q v H) : rIxS2 K (.ref a) (.int 1) H Q := rd_ix hs hj rfl h
theorem rd_ix2 (hs : Sq H a xs) (hj : xs[2]? = some v) (h : Q v H) : rIxS2 K (.ref a) (.int 2) H Q := rd_ix hs hj rfl h
theorem rd_ix3 (hs : Sq H a xs) (hj : xs[3]? = some v) (h : Q v H) : rIxS2 K (.ref a) (.int 3) H Q := rd_ix hs hj rfl h
theorem rd_ix4 (hs : Sq H a xs) (hj : xs[4]? = some v) (h : Q v H) : rIxS2 K (.ref a) (.int 4) H Q := rd_ix hs hj rfl h
theorem rd_ixn {j : Nat} (hs : Sq H a xs) (hj : xs[j]? = some v) (h : Q v H) : rIxS2 K (.ref a) (.int (j : Nat)) H Q := rd_ix hs hj rfl h
theorem rd_fld {K : PySem.W.Frag} (h : te σ H fun x H1 => ∃ a C dx fs v, x = .ref a ∧ H1 a = some (.ins C dx fs) ∧ Cls K C ∧ NoAttr K C f ∧ fs.lookup f = some v ∧ Q v H1) : tFld K te f σ H Q := h
theorem rd_fldx {R : V → Prop} (hp : H p = some (.ins C dx fs)) (c : Cls K C) (n : NoAttr K C f) (e : fs.lookup f = some v) (h : R v) : ∃ a C dx fs v, V.ref p = .ref a ∧ H a = some (.ins C dx fs) ∧ Cls K C ∧ NoAttr K C f ∧ fs.lookup f = some v ∧ R v :=
  ⟨p, C, dx, fs, v, rfl, hp, c, n, e, h⟩
theorem rd_sfld (h : tv σ H fun y H1 => te σ H1 fun x H2 => ∃ a C dx fs, x = .ref a ∧ H2 a = some (.ins C dx fs) ∧ Cls K C ∧ NoAttr K C f ∧ fs.length < 1000 ∧ D.nx σ (upd H2 a (.ins C dx (putF f y fs)))) : sFld K te tv f D σ H := h
theorem rd_sfldx {R : Hp → Prop} (hp : H p = some (.ins C dx fs)) (c : Cls K C) (n : NoAttr K C f) (e : fs.length < 1000) (h : R (upd H p (.ins C dx (putF f y fs)))) :
    ∃ a C dx fs, V.ref p = .ref a ∧ H a = some (.ins C dx fs) ∧ Cls K C ∧ NoAttr K C f ∧ fs.length < 1000 ∧ R (upd H a (.ins C dx (putF f y fs))) := ⟨p, C, dx, fs, rfl, hp, c, n, e, h⟩
theorem rd_bm {T : String} {r : V → List V → Hp → VK → Prop} (h : to σ H fun x H1 => tyV K T x H1 ∧ t σ H1 fun xs H2 => r x xs H2 Q) : tBM K T r to t σ H Q := h
theorem rd_bm0 {T : String} {r : V → List V → Hp → VK → Prop} (h : to σ H fun x H1 => tyV K T x H1 ∧ r x [] H1 Q) : tBM0 K T r to σ H Q := h
theorem rd_tyl (h : H l = some (.lst xs)) (q : B) : tyV K "list" (.ref l) H ∧ B := ⟨.inl ⟨rfl, _, SqL.of h⟩, q⟩
theorem rd_append (h : H l = some (.lst xs)) (hz : xs.length < sizeLine) (q : Q .non (upd H l (.lst (xs ++ [y])))) : rAppend (.ref l) [y] H Q := ⟨l, xs, y, rfl, rfl, h, hz, q⟩
theorem rd_extend (h : H l = some (.lst xs)) (h2 : H a = some (.lst ys)) (hz : xs.length + ys.length ≤ sizeLine) (q : Q .non (upd H l (.lst (xs ++ ys)))) : rExtend (.ref l) [.ref a] H Q := ⟨l, a, xs, ys, rfl, rfl, h, h2, hz, q⟩
theorem rd_gsub {ts : TSet} (h : to σ H fun o H1 => ti σ H1 fun i H2 => ts o i v H2 fun H3 => N σ H3) : gSub to ti ts v σ H N := h
theorem ixN_nat {n j : Nat} (h : j < n) : ixN n (j : Int) = some j := by
  unfold ixN
  rw [if_pos (Int.natCast_nonneg j), if_pos (by omega), Int.toNat_natCast]
theorem rd_set {j : Nat} {R : Hp → Prop} (h : H p = some (.lst xs)) (hj : j < xs.length) (q : R (upd H p (.lst (xs.set j v)))) : rSetL (.ref p) (.int (j : Nat)) v H R := ⟨p, xs, _, j, rfl, rfl, h, ixN_nat hj, q⟩
theorem rd_set0 {R : Hp → Prop} (h : H p = some (.lst xs)) (hj : 0 < xs.length) (q : R (upd H p (.lst (xs.set 0 v)))) : rSetL (.ref p) (.int 0) v H R := rd_set (j := 0) h hj q
theorem rd_set1 {R : Hp → Prop} (h : H p = some (.lst xs)) (hj : 1 < xs.length) (q : R (upd H p (.lst (xs.set 1 v)))) : rSetL (.ref p) (.int 1) v H R := rd_set (j := 1) h hj q
theorem rd_gtup {n : Nat} (h : H a = some (.tup xs)) (e : xs.length = n) (q : gs xs σ H N) : gTup K n gs (.ref a) σ H N := ⟨a, xs, rfl, SqT.of h, e, q⟩
theorem rd_gcons (q : g v σ H fun σ' H' => gs ys σ' H' N) : gCons g gs (v :: ys) σ H N := ⟨v, ys, rfl, q⟩
theorem rd_gnil (q : N σ H) : gNil [] σ H N := ⟨rfl, q⟩
theorem rd_len {R : List V → Prop} (h : Sq H a xs) (q : R xs) : ∃ p ys, [V.ref a] = [.ref p] ∧ (SqL K H p ys ∨ SqT K H p ys) ∧ R ys := ⟨a, xs, rfl, h.imp SqL.of SqT.of, q⟩
theorem rd_mth {Cl : Addr} {m : Str} {sp : Sp} {E : XK} (h : te σ H fun x H1 => ∃ a dx fs, x = .ref a ∧ H1 a = some (.ins Cl dx fs) ∧ fs.lookup m = none ∧ t σ H1 fun vs H2 => sp (x :: vs) H2 Q E) : tMeth Cl m sp [] E te t σ H Q := by
  have e : (fun x H1 => ∃ a dx fs, x = V.ref a ∧ H1 a = some (.ins Cl dx fs) ∧ fs.lookup m = none ∧ t σ H1 fun vs H2 => sp (x :: vs) H2 Q E) =
      fun x H1 => ∃ a dx fs, x = V.ref a ∧ H1 a = some (.ins Cl dx fs) ∧ fs.lookup m = none ∧ t σ H1 fun vs H2 => sp (x :: (vs ++ [])) H2 Q E := by
    funext x H1
    simp
  rw [e] at h
  exact h
theorem rd_mthx {m : Str} (hp : H p = some (.ins C dx fs)) (e : fs.lookup m = none) (h : B) : ∃ a dx fs, V.ref p = .ref a ∧ H a = some (.ins C dx fs) ∧ fs.lookup m = none ∧ B := ⟨p, dx, fs, rfl, hp, e, h⟩
end
/-! ### the same rules, the written part named: within a comprehension's block -/
section
variable {X : Cx} {K : PySem.W.Frag}
theorem ix_ltK (h : X.K = K) : IxR X (rIxS2 K) := by
  subst h
  exact ix_lt
theorem call_lenK (h : X.K = K) : CallR X (.builtin "len") (fun xs H Q => ∃ p ys, xs = [.ref p] ∧ (SqL K H p ys ∨ SqT K H p ys) ∧ Q (.int ys.length) H) := by
  subst h
  exact call_len_seq
theorem call_listK (h : X.K = K) : CallR X (.type "list") (fun xs H Q => ∃ p ys, xs = [.ref p] ∧ (SqL K H p ys ∨ SqT K H p ys) ∧ ∀ l, H l = none → Q (.ref l) (upd H l (.lst ys))) := by
  subst h
  exact call_list_of
theorem call_tupleK (h : X.K = K) : CallR X (.type "tuple") (fun xs H Q => ∃ p ys, xs = [.ref p] ∧ ((SqL K H p ys ∧ ∀ l, H l = none → Q (.ref l) (upd H l (.tup ys))) ∨ (SqT K H p ys ∧ Q (.ref p) H))) := by
  subst h
  exact call_tuple_of
theorem pe_revLK {e : Expr} {te : TE} {k : Nat} {p1 p2 p3 pos : Pos} (h : X.K = K) (he : PE X e te) : PE X (.Subscript e (.Slice none none (some (.UnaryOp .USub (.Constant (.int 1) k p1) p2)) p3) pos) (tRevL K te) := by
  subst h
  exact pe_revL he
theorem op_inK (h : X.K = K) : OpR X (compareOp .In) (rIn K false) := by
  subst h
  exact op_in_seq
theorem op_ninK (h : X.K = K) : OpR X (compareOp .NotIn) (rIn K true) := by
  subst h
  exact op_notIn_seq
theorem pg_tupK {es : List Expr} {k : Nat} {t : TGs} {n : Nat} {pos : Pos} (h : X.K = K) (hc : X.calm = true) (ht : PGs X es t) (hn : (assignEach es X.env).length = n := by rfl)
    (hst : (assignEach es X.env).findIdx? (·.1) = none := by rfl) : PG X (.Tuple es k pos) (gTup K n t) := by
  subst h
  exact pg_tup hc ht hn hst
theorem pi_listK {tg l : Expr} {tl : TE} (h : X.K = K) (hl : PE X l tl) : PI X tg l (iList K tl) := by
  subst h
  exact pi_list hl
theorem pi_tupK {tg l : Expr} {tl : TE} (h : X.K = K) (hl : PE X l tl) : PI X tg l (iTup K tl) := by
  subst h
  exact pi_tup hl
end
end Lk
/-! The text by places; what is called by its name. -/
namespace Lk
open PySem PySem.Spec PyProof.Rows L2
def topS (i : Nat) : Stmt := PySem.Challenge.pw_lookalike_k39_whole_slots_and_whole_runs.main.body.getD i (.Pass ⟨0, 0, 0, 0⟩)
abbrev S_start_state : Stmt := topS 1
abbrev S_is_over : Stmt := topS 2
abbrev S_by_sums : Stmt := topS 5
abbrev S_by_bits : Stmt := topS 6
abbrev S_word_op : Stmt := topS 7
abbrev S_init : Stmt := inClass (topS 9) 0
abbrev S_state : Stmt := inClass (topS 9) 1
abbrev S_one_tick : Stmt := inClass (topS 9) 2
abbrev S_own : Stmt := inClass (topS 9) 3
abbrev S_shared : Stmt := inClass (topS 9) 4
abbrev S_plain : Stmt := inClass (topS 9) 5
abbrev S_taken : Stmt := topS 10
abbrev S_advance : Stmt := topS 11
abbrev S_run_image : Stmt := topS 12
abbrev S_whole_run : Stmt := topS 13
abbrev S_thread_deeds : Stmt := topS 14
abbrev S_l_draw : Stmt := topS 16
abbrev S_l_any : Stmt := topS 17
abbrev S_l_of : Stmt := topS 18
abbrev S_l_mixed : Stmt := topS 19
abbrev S_l_closed : Stmt := topS 20
abbrev S_l_order : Stmt := topS 21
abbrev S_l_lot : Stmt := topS 22
abbrev S_l_instruction : Stmt := topS 23
abbrev S_l_image : Stmt := topS 24
abbrev S_l_inputs : Stmt := topS 25
abbrev S_l_word_op : Stmt := topS 26
abbrev S_l_pop : Stmt := topS 27
abbrev S_l_begin : Stmt := topS 28
abbrev S_l_hold : Stmt := topS 29
abbrev S_l_tick : Stmt := topS 30
abbrev S_l_run : Stmt := topS 31
abbrev S_l_alone : Stmt := topS 32
abbrev S_law : Stmt := topS 33
/-- the built-in names stand as they were -/
structure Tx (mg : Str → Option Value) : Prop where
  len : mg "len" = none
  range : mg "range" = none
  list : mg "list" = none
  tuple : mg "tuple" = none
  int : mg "int" = none
  abs : mg "abs" = none
  min : mg "min" = none
  max : mg "max" = none
  sorted : mg "sorted" = none
  repr : mg "repr" = none
  all : mg "all" = none
/-- a def of the module, to be called by its name x -/
def Cl (P : Program) (w : World) (K : PySem.W.Frag) (mg : Str → Option Value) (base : Heap) (k : Nat) (x : Str) (ps : List Str) (sp : Sp) : Prop :=
  ∃ (f : Addr) (fd : FuncData), FnOk P w K mg base CX0 k f fd ps sp ∧ mg x = some (.ref f) ∧ PySem.W.keepIn K (.ref f) = true ∧ Binds K fd ps []
/-- a method m of the class at C -/
def Mt (P : Program) (w : World) (K : PySem.W.Frag) (mg : Str → Option Value) (base : Heap) (k : Nat) (C : Addr) (m : Str) (ps : List Str) (sp : Sp) : Prop :=
  ∃ (f : Addr) (fd : FuncData), Cls K C ∧ Meth K C m f ∧ FnOk P w K mg base CX0 k f fd ps sp ∧ Binds K fd ps []
section
variable {X : Cx} {k j : Nat} {C : Addr} {x m : Str} {ps : List Str} {sp : Sp} {p pos apos : Pos} {e o : Expr} {es : List Expr} {ta : TE} {t : TA}
theorem pe_cl (c : Cl X.prog X.w X.K X.mg X.base k x ps sp) (hr : Room j X.A) (hk : k ≤ j) (hg : Gl X x) (ha : PA X (e :: es) t)
    (hdb : (x == ("__debug__" : Str)) = false := by decide)
    (he : starEach (e :: es) X.env = (false, eval e X.env) :: starEach es X.env := by rfl)
    (hpl : (backTo pos (starEach es X.env)).any (·.1) = false := by rfl) : PE X (.Call (.Name x p) (e :: es) [] pos) (tCall sp [] E0 t) := by
  obtain ⟨f, fd, F, hm, kp, b⟩ := c
  exact pe_call F (hr.mono hk) hg hm kp b .nil pass0 ha hdb he hpl
theorem pe_mt {pl : Sem Bool} (c : Mt X.prog X.w X.K X.mg X.base k C m ps sp) (hr : Room j X.A) (hk : k ≤ j) (he : PE X o ta) (ha : PA X (e :: es) t)
    (hst : starEach (e :: es) X.env = (false, eval e X.env) :: starEach es X.env := by rfl)
    (hpl : (backTo pos (starEach es X.env)).any (·.1) = false := by rfl)
    (ht : eval (.Call (.Attribute o m apos) (e :: es) [] pos) X.env = (do
      let ov ← eval o X.env
      standAt apos.atName
      let (f, first) ← holding [ov] (getMethod ov m pl)
      callWith pos f first (backTo pos (starEach (e :: es) X.env)) (backToKw pos (keywordEach [] X.env))) := by rfl) : PE X (.Call (.Attribute o m apos) (e :: es) [] pos) (tMeth C m sp [] E0 ta t) := by
  obtain ⟨f, fd, hc, hm, F, b⟩ := c
  exact pe_meth (pl := pl) he hc hm F (hr.mono hk) b .nil pass0 ha hst hpl ht
theorem pe_mt0 {pl : Sem Bool} (c : Mt X.prog X.w X.K X.mg X.base k C m ps sp) (hr : Room j X.A) (hk : k ≤ j) (he : PE X o ta)
    (ht : eval (.Call (.Attribute o m apos) [] [] pos) X.env = (do
      let ov ← eval o X.env
      standAt apos.atName
      let (f, first) ← holding [ov] (getMethod ov m pl)
      callWith pos f first (backTo pos (starEach [] X.env)) (backToKw pos (keywordEach [] X.env))) := by rfl) : PE X (.Call (.Attribute o m apos) [] [] pos) (tMeth C m sp [] E0 ta tNil) := by
  obtain ⟨f, fd, hc, hm, F, b⟩ := c
  exact pe_meth0 (pl := pl) he hc hm F (hr.mono hk) b .nil pass0 ht
end
end Lk
local macro_rules | `(tactic| walk_at "lk") => `(tactic| repeat (first
  | ((with_reducible apply Lk.rd_var); (with_unfolding_all rfl))
  | with_reducible (first
    | refine Lk.rd_seq ?_ | refine Lk.rd_c ?_ | refine Lk.rd_cons ?_ | refine Lk.rd_nil ?_ | refine Lk.rd_op ?_ | refine Lk.rd_cb ?_
    | refine Lk.rd_add ?_ | refine Lk.rd_sub ?_ | refine Lk.rd_bool ?_ | refine Lk.rd_test ?_ | refine Lk.rd_tb ?_
    | refine Lk.rd_asg ?_ | refine Lk.rd_gname ?_ | refine Lk.rd_ret ?_ | refine Lk.rd_drop ?_ | refine Lk.rd_ifs ?_ | refine Lk.rd_ife ?_ | refine Lk.rd_un ?_ | refine Lk.rd_call ?_
    | refine Lk.rd_next ?_ | refine Lk.rd_retn ?_ | refine Lk.rd_and ?_ | refine Lk.rd_or ?_ | refine Lk.rd_not ?_ | refine Lk.rd_truei ?_ | refine Lk.rd_ntrue ?_ | refine Lk.rd_nfalse ?_ | refine Lk.rd_falsei ?_
    | refine Lk.rd_int1 ?_ | refine Lk.rd_isN ?_ | refine Lk.rd_lt ?_ | refine Lk.rd_le ?_ | refine Lk.rd_gt ?_ | refine Lk.rd_ge ?_ | refine Lk.rd_eqi ?_ | refine Lk.rd_par ?_ | refine Lk.rd_ift ?_ | refine Lk.rd_two ?_ | refine Lk.rd_fld ?_ | refine Lk.rd_sfld ?_ | refine Lk.rd_bm ?_ | refine Lk.rd_bm0 ?_ | refine Lk.rd_gsub ?_ | refine Lk.rd_gcons ?_ | refine Lk.rd_gnil ?_ | refine Lk.rd_mth ?_)
  | ((with_reducible apply Lk.rd_ix0); (first | (refine Or.inr ?_; assumption) | (refine Or.inl ?_; assumption)); (with_unfolding_all rfl))
  | ((with_reducible apply Lk.rd_ix1); (first | (refine Or.inr ?_; assumption) | (refine Or.inl ?_; assumption)); (with_unfolding_all rfl))
  | ((with_reducible apply Lk.rd_ix2); (first | (refine Or.inr ?_; assumption) | (refine Or.inl ?_; assumption)); (with_unfolding_all rfl))
  | ((with_reducible apply Lk.rd_ix3); (first | (refine Or.inr ?_; assumption) | (refine Or.inl ?_; assumption)); (with_unfolding_all rfl))
  | ((with_reducible apply Lk.rd_ix4); (first | (refine Or.inr ?_; assumption) | (refine Or.inl ?_; assumption)); (with_unfolding_all rfl))
  | ((with_reducible apply Lk.rd_ixn); (first | (refine Or.inr ?_; assumption) | (refine Or.inl ?_; assumption)); assumption)
  | ((with_reducible apply Lk.rd_fldx); assumption; assumption; assumption; (with_unfolding_all rfl))
  | ((with_reducible apply Lk.rd_mthx); assumption; (with_unfolding_all rfl))
  | ((with_reducible apply Lk.rd_tyl); assumption)
  | ((with_reducible apply Lk.rd_gtup); assumption; rfl)
  | ((with_reducible apply Lk.rd_len); (first | (refine Or.inr ?_; assumption) | (refine Or.inl ?_; assumption)))
  | ((with_reducible refine Lk.rd_eqs (b := true) ?_ ?_); decide) | ((with_reducible refine Lk.rd_eqs (b := false) ?_ ?_); decide)
  | ((with_reducible refine Lk.rd_nes (b := true) ?_ ?_); decide) | ((with_reducible refine Lk.rd_nes (b := false) ?_ ?_); decide)))
/-! The last word of some words: taken, _law_pop. -/
namespace Lk
open PySem PySem.Spec PyProof.Rows L2
abbrev il (xs : List Int) : HO := .lst (xs.map V.int)
def spPop : Sp := fun vs H Q _ => ∃ (a : Addr) (xs : List Int), vs = [.ref a] ∧ H a = some (il xs) ∧ ∀ H' : Hp, H' a = some (il xs.dropLast) → Kp (· = a) H H' → Q (.int (top xs)) H'
theorem last_at {xs : List Int} (h : xs ≠ []) : (xs.map V.int)[(xs.map V.int).length - 1]? = some (.int (top xs)) := by
  rw [List.length_map, List.getElem?_map, ← List.getLast?_eq_getElem?]
  unfold top
  cases e : xs.getLast? with
  | none => exact absurd (List.getLast?_eq_none_iff.mp e) h
  | some y => rfl
section
variable {P : Program} {w : World} {K : PySem.W.Frag} {mg : Str → Option Value} {base : Heap}
theorem sc_taken : FnScope ["words"] ["words"] (defScope S_taken) := ⟨rfl, rfl, rfl, by decide +kernel, rfl, by decide +kernel, by decide +kernel⟩
theorem ok_taken {f : Addr} {fd : FuncData} (F : Fun K "taken" "taken" S_taken f fd) (T : Tx mg) : FnOk P w K mg base CX0 1 f fd ["words"] spPop := by
  refine F.ok sc_taken (fun vs H Q E h => ?_) (fun cdv A outer s H vs Q E hr h => ?_)
  · obtain ⟨a, xs, rfl, _⟩ := h
    rfl
  · obtain ⟨a, xs, rfl, h1, k⟩ := h
    refine ⟨_, pss_one (ps_ret (pe_ifExp (pt_cmpR op_gt (pe_callB call_len_seq (by rfl) T.len PySem.boot_len (pa_cons (pv 0) pa_nil)) pe_int (nomark _)) (pe_bm0 PySem.F.plainAttrs_list PySem.F.slot_list_pop PySem.F.type_list_pop  mt_pop (pv 0)) pe_int)), ?_⟩
    walk_at "lk"
    refine by_test (fun hb => ?_) (fun hb => ?_)
    · have hne : xs ≠ [] := by
        intro e
        subst e
        exact absurd hb (by decide)
      refine ⟨_, rfl, .inl ⟨rfl, _, SqL.of h1⟩, a, _, _, rfl, rfl, h1, last_at hne, ?_⟩
      refine k _ ?_ (kp_upd rfl)
      rw [upd_same, ← List.map_dropLast]
    · have e : xs = [] := by
        cases xs with
        | nil => rfl
        | cons x r =>
          rw [List.length_map] at hb
          exact absurd (of_decide_eq_false hb) (by simp)
      subst e
      exact k _ h1 (Kp.refl H)
theorem sc_l_pop : FnScope ["_law_words"] ["_law_words"] (defScope S_l_pop) := ⟨rfl, rfl, rfl, by decide +kernel, rfl, by decide +kernel, by decide +kernel⟩
theorem ok_l_pop {f : Addr} {fd : FuncData} (F : Fun K "_law_pop" "_law_pop" S_l_pop f fd) : FnOk P w K mg base CX0 1 f fd ["_law_words"] spPop := by
  refine F.ok sc_l_pop (fun vs H Q E h => ?_) (fun cdv A outer s H vs Q E hr h => ?_)
  · obtain ⟨a, xs, rfl, _⟩ := h
    rfl
  · obtain ⟨a, xs, rfl, h1, k⟩ := h
    refine ⟨_, pss_one (ps_ret (pe_ifExp (pt_cmpR (op_neE hr.units0) (pv 0) (pe_lst pa_nil) (nomark _)) (pe_bm0 PySem.F.plainAttrs_list PySem.F.slot_list_pop PySem.F.type_list_pop  mt_pop (pv 0)) pe_int)), ?_⟩
    walk_at "lk"
    refine ⟨Nat.zero_le _, fun p hp => ?_⟩
    have np : a ≠ p := ne_of_none h1 hp
    have h2 : upd H p (.lst []) a = some (il xs) := by rw [upd_ne np]; exact h1
    refine ⟨a, p, _, rfl, rfl, SqL.of h2, SqL.of upd_same, ?_⟩
    walk_at "lk"
    refine by_test (fun hb => ?_) (fun hb => ?_)
    · have hne : xs ≠ [] := by
        intro e
        subst e
        exact absurd hb (by decide)
      refine ⟨_, rfl, .inl ⟨rfl, _, SqL.of h2⟩, a, _, _, rfl, rfl, h2, last_at hne, ?_⟩
      refine k _ ?_ (same_then (same_new hp) (kp_upd rfl))
      rw [upd_same, ← List.map_dropLast]
    · have e : xs = [] := by
        cases xs with
        | nil => rfl
        | cons x r => exact absurd hb (by simp)
      subst e
      exact k _ h2 (Kp.same (same_new hp))
end
end Lk
/-! Ops on words: by_sums, by_bits, word_op; _law_word_op. -/
namespace Lk
open PySem PySem.Spec PyProof.Rows L2
def opns : List Str := ["add", "sub", "mul", "div", "rem", "and", "or", "xor", "shl", "shr", "eq", "lt"]
def opn (o : Nat) : Str := opns.getD o ""
def raw (o w : Nat) (a b : Int) : Int :=
  if o = 0 then a + b else if o = 1 then a - b else if o = 2 then a * b
  else if o = 3 then (if b = 0 then 0 else a / b) else if o = 4 then (if b = 0 then a else a % b)
  else if o = 5 then Builtin.bitAnd a b else if o = 6 then Builtin.bitOr a b else if o = 7 then Builtin.bitXor a b
  else if o = 8 then a * 2 ^ (b % w).toNat else a / 2 ^ (b % w).toNat
theorem pow8 {w : Nat} (h : w ≤ 8) : (0 : Int) < 2 ^ w ∧ (2 : Int) ^ w ≤ 256 := by
  have : w = 0 ∨ w = 1 ∨ w = 2 ∨ w = 3 ∨ w = 4 ∨ w = 5 ∨ w = 6 ∨ w = 7 ∨ w = 8 := by omega
  rcases this with rfl | rfl | rfl | rfl | rfl | rfl | rfl | rfl | rfl <;> decide
theorem bits_lt {w : Nat} {a b : Int} (ha : 0 ≤ a) (ha' : a < 2 ^ w) (hb : 0 ≤ b) (hb' : b < 2 ^ w) :
    (0 ≤ Builtin.bitAnd a b ∧ Builtin.bitAnd a b < 2 ^ w) ∧ (0 ≤ Builtin.bitOr a b ∧ Builtin.bitOr a b < 2 ^ w) ∧ (0 ≤ Builtin.bitXor a b ∧ Builtin.bitXor a b < 2 ^ w) := by
  have e2 : ((2 ^ w : Nat) : Int) = 2 ^ w := by simp
  have na : a.toNat < 2 ^ w := by omega
  have nb : b.toNat < 2 ^ w := by omega
  have o := Nat.or_lt_two_pow na nb
  have an := Nat.and_lt_two_pow a.toNat nb
  have s := nat_or_add_and a.toNat b.toNat
  have le : (a.toNat &&& b.toNat) ≤ (a.toNat ||| b.toNat) := Nat.le_trans Nat.and_le_left Nat.left_le_or
  have h1 := bitAnd_pp ha hb
  have h2 := L2.bitOr_nn ha hb
  have h3 : Builtin.bitXor a b = Builtin.bitOr a b - Builtin.bitAnd a b := rfl
  rw [h3, h1, h2]
  omega
theorem div_le_self {a b : Int} (ha : 0 ≤ a) (hb : 0 < b) : 0 ≤ a / b ∧ a / b ≤ a := ⟨Int.ediv_nonneg ha (Int.le_of_lt hb), Int.ediv_le_self b ha⟩
theorem two_pos (n : Nat) : (0 : Int) < 2 ^ n := by
  induction n with
  | zero => decide
  | succ n ih =>
    rw [Int.pow_succ]
    omega
theorem raw_wop {o w : Nat} {a b : Int} (ho : o < 10) (hw : w ≤ 8) (ha : 0 ≤ a) (ha' : a < 2 ^ w) (hb : 0 ≤ b) (hb' : b < 2 ^ w) : raw o w a b % 2 ^ w = wop o w a b := by
  obtain ⟨b1, b2, b3⟩ := bits_lt ha ha' hb hb'
  have : o = 0 ∨ o = 1 ∨ o = 2 ∨ o = 3 ∨ o = 4 ∨ o = 5 ∨ o = 6 ∨ o = 7 ∨ o = 8 ∨ o = 9 := by omega
  rcases this with rfl | rfl | rfl | rfl | rfl | rfl | rfl | rfl | rfl | rfl
  · rfl
  · rfl
  · rfl
  · show (if b = 0 then (0 : Int) else a / b) % 2 ^ w = (if b = 0 then (0 : Int) else a / b)
    by_cases h : b = 0
    · rw [if_pos h]; exact Int.zero_emod _
    · rw [if_neg h]
      have := div_le_self ha (show 0 < b by omega)
      exact Int.emod_eq_of_lt this.1 (by omega)
  · show (if b = 0 then a else a % b) % 2 ^ w = (if b = 0 then a else a % b)
    by_cases h : b = 0
    · rw [if_pos h]; exact Int.emod_eq_of_lt ha ha'
    · rw [if_neg h]
      have h1 := Int.emod_nonneg a h
      have h2 := Int.emod_lt_of_pos a (show 0 < b by omega)
      exact Int.emod_eq_of_lt h1 (by omega)
  · exact Int.emod_eq_of_lt b1.1 b1.2
  · exact Int.emod_eq_of_lt b2.1 b2.2
  · exact Int.emod_eq_of_lt b3.1 b3.2
  · rfl
  · show (a / 2 ^ (b % w).toNat) % 2 ^ w = a / 2 ^ (b % w).toNat
    have := div_le_self ha (two_pos (b % w).toNat)
    exact Int.emod_eq_of_lt this.1 (by omega)
theorem wop_ok {o w : Nat} {a b : Int} (hw0 : 1 ≤ w) (hw : w ≤ 8) (ha : 0 ≤ a) (ha' : a < 2 ^ w) (hb : 0 ≤ b) (hb' : b < 2 ^ w) : 0 ≤ wop o w a b ∧ wop o w a b < 256 := by
  obtain ⟨p1, p2⟩ := pow8 hw
  by_cases ho : o < 10
  · rw [← raw_wop ho hw ha ha' hb hb']
    have h1 := Int.emod_nonneg (raw o w a b) (show (2 : Int) ^ w ≠ 0 by omega)
    have h2 := Int.emod_lt_of_pos (raw o w a b) p1
    omega
  · have e : wop o w a b = if o = 10 then (if a = b then 1 else 0) else (if a < b then 1 else 0) := by
      unfold wop
      rw [if_neg (by omega), if_neg (by omega), if_neg (by omega), if_neg (by omega), if_neg (by omega), if_neg (by omega), if_neg (by omega), if_neg (by omega), if_neg (by omega), if_neg (by omega)]
    rw [e]
    split <;> split <;> decide
theorem small_mul {a b : Int} (ha : 0 ≤ a) (h : a < 257) : CMul a b := .inl ⟨by omega, by omega⟩
theorem kshift {w : Nat} {b : Int} (hw0 : 1 ≤ w) (hw : w ≤ 8) : 0 ≤ b % (w : Int) ∧ b % (w : Int) < 8 := by
  have h1 := Int.emod_nonneg b (show (w : Int) ≠ 0 by omega)
  have h2 := Int.emod_lt_of_pos b (show 0 < (w : Int) by omega)
  omega
def spSums : Sp := fun vs H Q _ => ∃ (o : Nat) (a b : Int), vs = [.str (opn o), .int a, .int b] ∧ o < 5 ∧ 0 ≤ a ∧ a < 256 ∧ 0 ≤ b ∧ b < 256 ∧ Q (.int (raw o 0 a b)) H
def spBits : Sp := fun vs H Q _ => ∃ (o w : Nat) (a b : Int), vs = [.str (opn o), .int w, .int a, .int b] ∧ 5 ≤ o ∧ o < 10 ∧ 1 ≤ w ∧ w ≤ 8 ∧ 0 ≤ a ∧ a < 256 ∧ 0 ≤ b ∧ b < 256 ∧ Q (.int (raw o w a b)) H
def spWop : Sp := fun vs H Q _ => ∃ (o w : Nat) (a b : Int), vs = [.str (opn o), .int w, .int a, .int b] ∧ o < 12 ∧ 1 ≤ w ∧ w ≤ 8 ∧ 0 ≤ a ∧ a < 2 ^ w ∧ 0 ≤ b ∧ b < 2 ^ w ∧ ∀ H', Same H H' → Q (.int (wop o w a b)) H'
section
variable {P : Program} {w : World} {K : PySem.W.Frag} {mg : Str → Option Value} {base : Heap}
theorem sc_by_sums : FnScope ["op", "one", "other"] ["op", "one", "other"] (defScope S_by_sums) := ⟨rfl, rfl, rfl, by decide +kernel, rfl, by decide +kernel, by decide +kernel⟩
theorem ok_by_sums {f : Addr} {fd : FuncData} (F : Fun K "by_sums" "by_sums" S_by_sums f fd) : FnOk P w K mg base CX0 1 f fd ["op", "one", "other"] spSums := by
  refine F.ok sc_by_sums (fun vs H Q E h => ?_) (fun cdv A outer s H vs Q E hr h => ?_)
  · obtain ⟨o, a, b, rfl, _⟩ := h
    rfl
  · obtain ⟨o, a, b, rfl, ho, ha, ha', hb, hb', k⟩ := h
    refine ⟨_, pss_cons (ps_if (pt_cmpR op_eq (pv 0) pe_str (nomark _)) (pss_one (ps_ret (pe_op op_add (pv 1) (pv 2)))) pss_nil) (
      pss_cons (ps_if (pt_cmpR op_eq (pv 0) pe_str (nomark _)) (pss_one (ps_ret (pe_op op_sub (pv 1) (pv 2)))) pss_nil) (
      pss_cons (ps_if (pt_cmpR op_eq (pv 0) pe_str (nomark _)) (pss_one (ps_ret (pe_op op_mul (pv 1) (pv 2)))) pss_nil) (
      pss_cons (ps_if (pt_cmpR op_eq (pv 0) pe_str (nomark _)) (pss_one (ps_ret (pe_ifExp (pt_cmpR op_eq (pv 2) pe_int (nomark _)) pe_int (pe_op op_fdiv (pv 1) (pv 2))))) pss_nil) (
      pss_one (ps_ret (pe_ifExp (pt_cmpR op_eq (pv 2) pe_int (nomark _)) (pv 1) (pe_op op_mod (pv 1) (pv 2)))))))), ?_⟩
    have : o = 0 ∨ o = 1 ∨ o = 2 ∨ o = 3 ∨ o = 4 := by omega
    rcases this with rfl | rfl | rfl | rfl | rfl
    · walk_at "lk"
      exact k
    · walk_at "lk"
      exact k
    · walk_at "lk"
      refine rd_mul (small_mul ha (by omega)) ?_
      exact k
    · walk_at "lk"
      refine by_test (fun hb => ?_) (fun hb => ?_)
      · have e := of_decide_eq_true hb
        subst e
        walk_at "lk"
        exact k
      · have e := of_decide_eq_false hb
        walk_at "lk"
        refine rd_fdiv (by omega) (by omega) ?_
        have r : raw 3 0 a b = a / b := if_neg e
        rw [r] at k
        exact k
    · walk_at "lk"
      refine by_test (fun hb => ?_) (fun hb => ?_)
      · have e := of_decide_eq_true hb
        subst e
        walk_at "lk"
        exact k
      · have e := of_decide_eq_false hb
        walk_at "lk"
        refine rd_mod (by omega) ?_
        have r : raw 4 0 a b = a % b := if_neg e
        rw [r] at k
        exact k
theorem sc_by_bits : FnScope ["op", "width", "one", "other"] ["op", "width", "one", "other"] (defScope S_by_bits) := ⟨rfl, rfl, rfl, by decide +kernel, rfl, by decide +kernel, by decide +kernel⟩
theorem ok_by_bits {f : Addr} {fd : FuncData} (F : Fun K "by_bits" "by_bits" S_by_bits f fd) : FnOk P w K mg base CX0 1 f fd ["op", "width", "one", "other"] spBits := by
  refine F.ok sc_by_bits (fun vs H Q E h => ?_) (fun cdv A outer s H vs Q E hr h => ?_)
  · obtain ⟨o, w, a, b, rfl, _⟩ := h
    rfl
  · obtain ⟨o, w, a, b, rfl, ho5, ho, hw0, hw, ha, ha', hb, hb', k⟩ := h
    have hk := kshift (b := b) hw0 hw
    refine ⟨_, pss_cons (ps_if (pt_cmpR op_eq (pv 0) pe_str (nomark _)) (pss_one (ps_ret (pe_op op_and (pv 2) (pv 3)))) pss_nil) (
      pss_cons (ps_if (pt_cmpR op_eq (pv 0) pe_str (nomark _)) (pss_one (ps_ret (pe_op op_or (pv 2) (pv 3)))) pss_nil) (
      pss_cons (ps_if (pt_cmpR op_eq (pv 0) pe_str (nomark _)) (pss_one (ps_ret (pe_op op_xor (pv 2) (pv 3)))) pss_nil) (
      pss_one (ps_ret (pe_ifExp (pt_cmpR op_eq (pv 0) pe_str (nomark _)) (pe_op op_shl (pv 2) (pe_op op_mod (pv 3) (pv 1))) (pe_op op_shr (pv 2) (pe_op op_mod (pv 3) (pv 1)))))))), ?_⟩
    have : o = 5 ∨ o = 6 ∨ o = 7 ∨ o = 8 ∨ o = 9 := by omega
    rcases this with rfl | rfl | rfl | rfl | rfl
    · walk_at "lk"
      exact ⟨_, _, rfl, rfl, k⟩
    · walk_at "lk"
      exact ⟨_, _, rfl, rfl, k⟩
    · walk_at "lk"
      exact ⟨_, _, rfl, rfl, k⟩
    · walk_at "lk"
      refine rd_mod (by omega) ?_
      refine rd_shl ⟨hk.1, by omega, by omega⟩ ?_
      exact k
    · walk_at "lk"
      refine rd_mod (by omega) ?_
      exact ⟨_, _, rfl, rfl, hk.1, k⟩
end
end Lk
namespace Lk
open PySem PySem.Spec PyProof.Rows L2
/-- the module's tuple of ops stands at a -/
def OpsAt (K : PySem.W.Frag) (mg : Str → Option Value) (a : Addr) : Prop := mg "OPS" = some (.ref a) ∧
  ∃ (o : Obj) (its : Array Value) (n : Nat), K.lookup a = some o ∧ o.cls = .type "tuple" ∧ o.dict = none ∧ o.data = .seq its n ∧ its.size ≤ sizeLine ∧ Vals (opns.map V.str) its.toList
theorem opn_at {o : Nat} (h : o < 12) : opns[o]? = some (opn o) := by
  unfold opn
  rw [List.getD_eq_getElem?_getD]
  have : o < opns.length := h
  rw [List.getElem?_eq_getElem this]
  rfl
theorem opn_first {o : Nat} (h : o < 12) : ∀ m, m < o → opns[m]? ≠ some (opn o) := by
  have : ∀ o : _root_.Fin 12, ∀ m : _root_.Fin 12, m.1 < o.1 → opns[m.1]? ≠ some (opn o.1) := by decide
  intro m hm
  exact this ⟨o, h⟩ ⟨m, by omega⟩ hm
section
variable {P : Program} {w : World} {K : PySem.W.Frag} {mg : Str → Option Value} {base : Heap}
theorem sc_word_op : FnScope ["op", "width", "one", "other", "found"] ["op", "width", "one", "other"] (defScope S_word_op) := ⟨rfl, rfl, rfl, by decide +kernel, rfl, by decide +kernel, by decide +kernel⟩
theorem ok_word_op {f pO : Addr} {fd : FuncData} (F : Fun K "word_op" "word_op" S_word_op f fd) (O : OpsAt K mg pO) (c_by_sums : Cl P w K mg base 1 "by_sums" ["op", "one", "other"] spSums) (c_by_bits : Cl P w K mg base 1 "by_bits" ["op", "width", "one", "other"] spBits) :
    FnOk P w K mg base CX0 2 f fd ["op", "width", "one", "other"] spWop := by
  refine F.ok sc_word_op (fun vs H Q E h => ?_) (fun cdv A outer s H vs Q E hr h => ?_)
  · obtain ⟨o, w, a, b, rfl, _⟩ := h
    rfl
  · obtain ⟨o, w, a, b, rfl, ho, hw0, hw, ha, ha', hb, hb', k⟩ := h
    have hps := pow8 hw
    obtain ⟨gO, oo, its, on, t1, t2, t3, t4, t5, t6⟩ := O
    refine ⟨_, pss_cons (ps_if (pt_cmpR op_eq (pv 0) pe_str (nomark _)) (pss_one (ps_ret (pe_ifExp (pt_cmpR op_eq (pv 2) (pv 3) (nomark _)) pe_int pe_int))) pss_nil) (
      pss_cons (ps_if (pt_cmpR op_eq (pv 0) pe_str (nomark _)) (pss_one (ps_ret (pe_ifExp (pt_cmpR op_lt (pv 2) (pv 3) (nomark _)) pe_int pe_int))) pss_nil) (
      pss_cons (ps_set (i := 4) sc_word_op.nd rfl (Or.inl rfl) (pe_ifExp (pt_cmpR op_lt (pe_bm PySem.F.plainAttrs_tuple PySem.F.slot_tuple_index PySem.F.type_tuple_index mt_tup_index (pe_glob (v := .ref pO) (by rfl) gO rfl) (pa_cons (pv 0) pa_nil)) pe_int (nomark _)) (pe_cl c_by_sums hr (by decide) (by rfl) (pa_cons (pv 0) (pa_cons (pv 2) (pa_cons (pv 3) pa_nil)))) (pe_cl c_by_bits hr (by decide) (by rfl) (pa_cons (pv 0) (pa_cons (pv 1) (pa_cons (pv 2) (pa_cons (pv 3) pa_nil))))))) (
      pss_one (ps_ret (pe_op op_mod (pv 4) (pe_op op_shl pe_int (pv 1))))))), ?_⟩
    by_cases h10 : o = 10
    · subst h10
      walk_at "lk"
      refine by_test (fun hb => ?_) (fun hb => ?_)
      · walk_at "lk"
        have r : wop 10 w a b = 1 := if_pos (of_decide_eq_true hb)
        rw [r] at k
        exact k H (Same.refl H)
      · walk_at "lk"
        have r : wop 10 w a b = 0 := if_neg (of_decide_eq_false hb)
        rw [r] at k
        exact k H (Same.refl H)
    · by_cases h11 : o = 11
      · subst h11
        walk_at "lk"
        refine by_test (fun hb => ?_) (fun hb => ?_)
        · walk_at "lk"
          have r : wop 11 w a b = 1 := if_pos (of_decide_eq_true hb)
          rw [r] at k
          exact k H (Same.refl H)
        · walk_at "lk"
          have r : wop 11 w a b = 0 := if_neg (of_decide_eq_false hb)
          rw [r] at k
          exact k H (Same.refl H)
      · have ho' : o < 10 := by omega
        have n1 : decide (V.str (opn o) = V.str "eq") = false := by
          have : ∀ o : _root_.Fin 10, decide (V.str (opn o.1) = V.str "eq") = false := by decide
          exact this ⟨o, ho'⟩
        have n2 : decide (V.str (opn o) = V.str "lt") = false := by
          have : ∀ o : _root_.Fin 10, decide (V.str (opn o.1) = V.str "lt") = false := by decide
          exact this ⟨o, ho'⟩
        have hT : ∀ H : Hp, SqT K H pO (opns.map V.str) := fun H => .inr ⟨oo, its, on, t1, t2, t4, t5, t6⟩
        have rw1 := raw_wop ho' hw ha ha' hb hb'
        walk_at "lk"
        refine rd_eqs n1 ?_
        walk_at "lk"
        refine rd_eqs n2 ?_
        walk_at "lk"
        refine ⟨.inr (.inl ⟨rfl, oo, t1, t2, t3⟩), ?_⟩
        walk_at "lk"
        refine ⟨pO, opns, _, o, rfl, rfl, hT H, opn_at ho, opn_first ho, ?_⟩
        walk_at "lk"
        refine by_test (fun h5 => ?_) (fun h5 => ?_)
        · have h5 := of_decide_eq_true h5
          walk_at "lk"
          refine ⟨o, a, b, rfl, by omega, ha, by omega, hb, by omega, ?_⟩
          walk_at "lk"
          refine rd_shl ⟨by omega, by omega, by decide⟩ ?_
          walk_at "lk"
          have e : raw o 0 a b = raw o w a b := by
            have : o = 0 ∨ o = 1 ∨ o = 2 ∨ o = 3 ∨ o = 4 := by omega
            rcases this with rfl | rfl | rfl | rfl | rfl <;> rfl
          rw [Int.one_mul, Int.toNat_natCast]
          refine rd_mod hps.1 ?_
          rw [e, rw1]
          exact k H (Same.refl H)
        · have h5 := of_decide_eq_false h5
          walk_at "lk"
          refine ⟨o, w, a, b, rfl, by omega, ho', hw0, hw, ha, by omega, hb, by omega, ?_⟩
          walk_at "lk"
          refine rd_shl ⟨by omega, by omega, by decide⟩ ?_
          walk_at "lk"
          rw [Int.one_mul, Int.toNat_natCast]
          refine rd_mod hps.1 ?_
          rw [rw1]
          exact k H (Same.refl H)
end
end Lk
/-! The law's own ops. -/
namespace Lk
open PySem PySem.Spec PyProof.Rows L2
section
variable {P : Program} {w : World} {K : PySem.W.Frag} {mg : Str → Option Value} {base : Heap}
theorem sc_l_word_op : FnScope ["_law_op", "_law_w", "_law_a", "_law_b", "_law_top", "_law_k"] ["_law_op", "_law_w", "_law_a", "_law_b"] (defScope S_l_word_op) := ⟨rfl, rfl, rfl, by decide +kernel, rfl, by decide +kernel, by decide +kernel⟩
theorem rem_alt {a b : Int} : a - a / b * b = a % b := by
  have h := Int.emod_add_mul_ediv a b
  rw [Int.mul_comm (a / b) b]
  omega
theorem ok_l_word_op {f : Addr} {fd : FuncData} (F : Fun K "_law_word_op" "_law_word_op" S_l_word_op f fd) (T : Tx mg) :
    FnOk P w K mg base CX0 1 f fd ["_law_op", "_law_w", "_law_a", "_law_b"] spWop := by
  refine F.ok sc_l_word_op (fun vs H Q E h => ?_) (fun cdv A outer s H vs Q E hr h => ?_)
  · obtain ⟨o, w, a, b, rfl, _⟩ := h
    rfl
  · obtain ⟨o, w, a, b, rfl, ho, hw0, hw, ha, ha', hb, hb', k⟩ := h
    have hps := pow8 hw
    have hk := kshift (b := b) hw0 hw
    have hpw : (0 : Int) < 2 ^ (b % (w : Int)).toNat ∧ (2 : Int) ^ (b % (w : Int)).toNat ≤ 256 := pow8 (by omega)
    refine ⟨_, pss_cons (ps_par (i := 4) (j := 5) rfl sc_l_word_op.nd rfl rfl (by decide) rfl rfl (pa_cons (pe_op op_shl pe_int (pv 1)) (pa_cons (pe_op op_mod (pe_callTy call_int1 (by rfl) T.int (by decide +kernel) (pa_cons (pv 3) pa_nil)) (pv 1)) pa_nil)) (by rfl)) (
      pss_cons (ps_if (pt_cmpR op_in_seq (pv 0) (pe_lst (pa_cons pe_str (pa_cons pe_str (pa_cons pe_str pa_nil)))) rfl) (pss_one (ps_ret (pe_op op_mod (pe_callTy call_int1 (by rfl) T.int (by decide +kernel) (pa_cons (pe_ifExp (pt_cmpR op_eq (pv 0) pe_str (nomark _)) (pe_op op_add (pv 2) (pv 3)) (pe_ifExp (pt_cmpR op_eq (pv 0) pe_str (nomark _)) (pe_op op_sub (pv 2) (pv 3)) (pe_op op_mul (pv 2) (pv 3)))) pa_nil)) (pv 4)))) pss_nil) (
      pss_cons (ps_if (pt_cmpR op_in_seq (pv 0) (pe_lst (pa_cons pe_str (pa_cons pe_str pa_nil))) rfl) (pss_one (ps_ret (pe_ifExp (pt_cmpR op_eq (pv 3) pe_int (nomark _)) (pe_ifExp (pt_cmpR op_eq (pv 0) pe_str (nomark _)) pe_int (pv 2)) (pe_ifExp (pt_cmpR op_eq (pv 0) pe_str (nomark _)) (pe_op op_fdiv (pv 2) (pv 3)) (pe_op op_sub (pv 2) (pe_op op_mul (pe_op op_fdiv (pv 2) (pv 3)) (pv 3))))))) pss_nil) (
      pss_cons (ps_if (pt_cmpR op_in_seq (pv 0) (pe_lst (pa_cons pe_str (pa_cons pe_str (pa_cons pe_str pa_nil)))) rfl) (pss_one (ps_ret (pe_ifExp (pt_cmpR op_eq (pv 0) pe_str (nomark _)) (pe_op op_and (pv 2) (pv 3)) (pe_ifExp (pt_cmpR op_eq (pv 0) pe_str (nomark _)) (pe_op op_or (pv 2) (pv 3)) (pe_op op_xor (pv 2) (pv 3)))))) pss_nil) (
      pss_cons (ps_if (pt_cmpR op_in_seq (pv 0) (pe_lst (pa_cons pe_str (pa_cons pe_str pa_nil))) rfl) (pss_one (ps_ret (pe_ifExp (pt_cmpR op_eq (pv 0) pe_str (nomark _)) (pe_op op_mod (pe_callTy call_int1 (by rfl) T.int (by decide +kernel) (pa_cons (pe_op op_mul (pv 2) (pe_op op_shl pe_int (pv 5))) pa_nil)) (pv 4)) (pe_op op_fdiv (pv 2) (pe_op op_shl pe_int (pv 5)))))) pss_nil) (
      pss_one (ps_ret (pe_ifExp (pt_ifE (pt_cmpR op_eq (pv 0) pe_str (nomark _)) (pt_cmpR op_eq (pv 2) (pv 3) (nomark _)) (pt_cmpR op_lt (pv 2) (pv 3) (nomark _))) pe_int pe_int))))))), ?_⟩
    walk_at "lk"
    refine rd_shl ⟨by omega, by omega, by decide⟩ ?_
    rw [Int.one_mul, Int.toNat_natCast]
    walk_at "lk"
    refine rd_mod (by omega) ?_
    walk_at "lk"
    have cs : o = 0 ∨ o = 1 ∨ o = 2 ∨ o = 3 ∨ o = 4 ∨ o = 5 ∨ o = 6 ∨ o = 7 ∨ o = 8 ∨ o = 9 ∨ o = 10 ∨ o = 11 := by omega
    rcases cs with rfl | rfl | rfl | rfl | rfl | rfl | rfl | rfl | rfl | rfl | rfl | rfl
    · refine rd_inlst ["add", "sub", "mul"] (b := true) (fun _ q => q) (by decide) (by decide) fun p hp => ?_
      walk_at "lk"
      refine rd_mod hps.1 ?_
      exact k _ (same_new hp)
    · refine rd_inlst ["add", "sub", "mul"] (b := true) (fun _ q => q) (by decide) (by decide) fun p hp => ?_
      walk_at "lk"
      refine rd_mod hps.1 ?_
      exact k _ (same_new hp)
    · refine rd_inlst ["add", "sub", "mul"] (b := true) (fun _ q => q) (by decide) (by decide) fun p hp => ?_
      walk_at "lk"
      refine rd_mul (small_mul ha (by omega)) ?_
      walk_at "lk"
      refine rd_mod hps.1 ?_
      exact k _ (same_new hp)
    · refine rd_inlst ["add", "sub", "mul"] (b := false) (fun _ q => q) (by decide) (by decide) fun p hp => ?_
      walk_at "lk"
      refine rd_inlst ["div", "rem"] (b := true) (fun _ q => q) (by decide) (by decide) fun p2 hp2 => ?_
      walk_at "lk"
      refine by_test (fun h0 => ?_) (fun h0 => ?_)
      · have e := of_decide_eq_true h0
        subst e
        walk_at "lk"
        exact k _ ((same_new hp).trans (same_new hp2))
      · have e := of_decide_eq_false h0
        walk_at "lk"
        refine rd_fdiv (by omega) (by omega) ?_
        have r : wop 3 w a b = a / b := if_neg e
        rw [r] at k
        exact k _ ((same_new hp).trans (same_new hp2))
    · refine rd_inlst ["add", "sub", "mul"] (b := false) (fun _ q => q) (by decide) (by decide) fun p hp => ?_
      walk_at "lk"
      refine rd_inlst ["div", "rem"] (b := true) (fun _ q => q) (by decide) (by decide) fun p2 hp2 => ?_
      walk_at "lk"
      refine by_test (fun h0 => ?_) (fun h0 => ?_)
      · have e := of_decide_eq_true h0
        subst e
        walk_at "lk"
        exact k _ ((same_new hp).trans (same_new hp2))
      · have e := of_decide_eq_false h0
        walk_at "lk"
        refine rd_fdiv (by omega) (by omega) ?_
        have d1 := div_le_self (b := b) ha (by omega)
        walk_at "lk"
        refine rd_mul (small_mul d1.1 (by omega)) ?_
        walk_at "lk"
        have r : wop 4 w a b = a % b := if_neg e
        rw [rem_alt]
        rw [r] at k
        exact k _ ((same_new hp).trans (same_new hp2))
    · refine rd_inlst ["add", "sub", "mul"] (b := false) (fun _ q => q) (by decide) (by decide) fun p hp => ?_
      walk_at "lk"
      refine rd_inlst ["div", "rem"] (b := false) (fun _ q => q) (by decide) (by decide) fun p2 hp2 => ?_
      walk_at "lk"
      refine rd_inlst ["and", "or", "xor"] (b := true) (fun _ q => q) (by decide) (by decide) fun p3 hp3 => ?_
      walk_at "lk"
      exact ⟨_, _, rfl, rfl, k _ (((same_new hp).trans (same_new hp2)).trans (same_new hp3))⟩
    · refine rd_inlst ["add", "sub", "mul"] (b := false) (fun _ q => q) (by decide) (by decide) fun p hp => ?_
      walk_at "lk"
      refine rd_inlst ["div", "rem"] (b := false) (fun _ q => q) (by decide) (by decide) fun p2 hp2 => ?_
      walk_at "lk"
      refine rd_inlst ["and", "or", "xor"] (b := true) (fun _ q => q) (by decide) (by decide) fun p3 hp3 => ?_
      walk_at "lk"
      exact ⟨_, _, rfl, rfl, k _ (((same_new hp).trans (same_new hp2)).trans (same_new hp3))⟩
    · refine rd_inlst ["add", "sub", "mul"] (b := false) (fun _ q => q) (by decide) (by decide) fun p hp => ?_
      walk_at "lk"
      refine rd_inlst ["div", "rem"] (b := false) (fun _ q => q) (by decide) (by decide) fun p2 hp2 => ?_
      walk_at "lk"
      refine rd_inlst ["and", "or", "xor"] (b := true) (fun _ q => q) (by decide) (by decide) fun p3 hp3 => ?_
      walk_at "lk"
      exact ⟨_, _, rfl, rfl, k _ (((same_new hp).trans (same_new hp2)).trans (same_new hp3))⟩
    all_goals
      refine rd_inlst ["add", "sub", "mul"] (b := false) (fun _ q => q) (by decide) (by decide) fun p hp => ?_
      walk_at "lk"
      refine rd_inlst ["div", "rem"] (b := false) (fun _ q => q) (by decide) (by decide) fun p2 hp2 => ?_
      walk_at "lk"
      refine rd_inlst ["and", "or", "xor"] (b := false) (fun _ q => q) (by decide) (by decide) fun p3 hp3 => ?_
      walk_at "lk"
    · refine rd_inlst ["shl", "shr"] (b := true) (fun _ q => q) (by decide) (by decide) fun p4 hp4 => ?_
      walk_at "lk"
      refine rd_shl ⟨by omega, by omega, by decide⟩ ?_
      rw [Int.one_mul]
      refine rd_mul (small_mul ha (by omega)) ?_
      walk_at "lk"
      refine rd_mod hps.1 ?_
      exact k _ ((((same_new hp).trans (same_new hp2)).trans (same_new hp3)).trans (same_new hp4))
    · refine rd_inlst ["shl", "shr"] (b := true) (fun _ q => q) (by decide) (by decide) fun p4 hp4 => ?_
      walk_at "lk"
      refine rd_shl ⟨by omega, by omega, by decide⟩ ?_
      rw [Int.one_mul]
      refine rd_fdiv (by omega) (by omega) ?_
      exact k _ ((((same_new hp).trans (same_new hp2)).trans (same_new hp3)).trans (same_new hp4))
    · refine rd_inlst ["shl", "shr"] (b := false) (fun _ q => q) (by decide) (by decide) fun p4 hp4 => ?_
      walk_at "lk"
      refine by_test (fun h0 => ?_) (fun h0 => ?_)
      · walk_at "lk"
        have r : wop 10 w a b = 1 := if_pos (of_decide_eq_true h0)
        rw [r] at k
        exact k _ ((((same_new hp).trans (same_new hp2)).trans (same_new hp3)).trans (same_new hp4))
      · walk_at "lk"
        have r : wop 10 w a b = 0 := if_neg (of_decide_eq_false h0)
        rw [r] at k
        exact k _ ((((same_new hp).trans (same_new hp2)).trans (same_new hp3)).trans (same_new hp4))
    · refine rd_inlst ["shl", "shr"] (b := false) (fun _ q => q) (by decide) (by decide) fun p4 hp4 => ?_
      walk_at "lk"
      refine by_test (fun h0 => ?_) (fun h0 => ?_)
      · walk_at "lk"
        have r : wop 11 w a b = 1 := if_pos (of_decide_eq_true h0)
        rw [r] at k
        exact k _ ((((same_new hp).trans (same_new hp2)).trans (same_new hp3)).trans (same_new hp4))
      · walk_at "lk"
        have r : wop 11 w a b = 0 := if_neg (of_decide_eq_false h0)
        rw [r] at k
        exact k _ ((((same_new hp).trans (same_new hp2)).trans (same_new hp3)).trans (same_new hp4))
end
end Lk
/-! What an instruction does behind its row; what holds of images and states. -/
namespace Lk
def eff (I : Img) (T : Thr) (i : Nat) (t : Th) (s : MSt) : Ins → MSt
  | .push _ n => putT s i ⟨t.row, t.stk ++ [n], t.loc⟩
  | .op o w => putT s i ⟨t.row, t.stk.dropLast.dropLast ++ [wop o w (top t.stk.dropLast % 2 ^ w) (top t.stk % 2 ^ w)], t.loc⟩
  | .take l w => putT { s with ins := s.ins.set l (s.ins.getD l []).dropLast } i ⟨t.row, t.stk ++ [top (s.ins.getD l []) % 2 ^ w], t.loc⟩
  | .loc k => putT s i ⟨t.row, t.stk ++ [t.loc.getD k 0], t.loc⟩
  | .keep k => putT s i ⟨t.row, t.stk.dropLast, t.loc.set k (top t.stk % 2 ^ (T.ws.getD k 0))⟩
  | .box k => putT s i ⟨t.row, t.stk ++ [s.boxes.getD k 0], t.loc⟩
  | .fill k => putT { s with boxes := s.boxes.set k (top t.stk % 2 ^ ((I.boxes.getD k (0, 0)).1)) } i ⟨t.row, t.stk.dropLast, t.loc⟩
  | .cell k => putT s i ⟨t.row, t.stk.dropLast ++ [(s.rows.getD k []).getD (top t.stk % ((s.rows.getD k []).length : Nat)).toNat 0], t.loc⟩
  | .cells k => putT { s with rows := s.rows.set k ((s.rows.getD k []).set (top t.stk.dropLast % ((s.rows.getD k []).length : Nat)).toNat (top t.stk % 2 ^ ((I.rows.getD k (0, 0)).1))) } i
      ⟨t.row, t.stk.dropLast.dropLast, t.loc⟩
  | _ => s
def Ins.silent : Ins → Bool
  | .fin | .out _ | .jump _ | .els _ => false
  | _ => true
theorem exec_eff (I : Img) (T : Thr) (i : Nat) (t : Th) (s : MSt) (c : Ins) (h : c.silent = true) :
    exec I T i t s c = (eff I T i ⟨t.row + 1, t.stk, t.loc⟩ (putT s i ⟨t.row + 1, t.stk, t.loc⟩) c, none) := by
  cases c <;> first
    | exact absurd (show false = true from h) Bool.noConfusion
    | simp [exec, eff, putT, List.set_set]
/-! ### right images -/
def InsArg (I : Img) (T : Thr) : Ins → Prop
  | .push _ n => 0 ≤ n ∧ n < 256
  | .op o w => o < 12 ∧ 1 ≤ w ∧ w ≤ 8
  | .out l => l < 4
  | .take l w => l < I.lv ∧ w ≤ 8
  | .loc i | .keep i => i < T.ws.length
  | .box i | .fill i => i < I.boxes.length
  | .cell i | .cells i => i < I.rows.length
  | .els r | .jump r => r < T.code.length
  | _ => True
/-- the next row is there, if it may come -/
def InsNext (n j : Nat) : Ins → Prop
  | .jump _ | .fin => True
  | _ => j + 1 < n
structure ThrOk (I : Img) (T : Thr) : Prop where
  ws : ∀ (k : Nat) w, T.ws[k]? = some w → w ≤ 8
  wl : T.ws.length ≤ 100
  ne : 0 < T.code.length
  arg : ∀ (j : Nat) c, T.code[j]? = some c → InsArg I T c ∧ InsNext T.code.length j c
structure ImgOk (I : Img) : Prop where
  lv : 1 ≤ I.lv ∧ I.lv ≤ 4
  box : ∀ (k : Nat) w n, I.boxes[k]? = some (w, n) → w ≤ 8 ∧ 0 ≤ n ∧ n < 256
  row : ∀ (k : Nat) w n, I.rows[k]? = some (w, n) → w ≤ 8 ∧ 1 ≤ n ∧ n ≤ 64
  ne : 1 ≤ I.ths.length ∧ I.ths.length ≤ 8
  thr : ∀ (k : Nat) T, I.ths[k]? = some T → ThrOk I T
def Wok (x : Int) : Prop := 0 ≤ x ∧ x < 256
def Woks (xs : List Int) : Prop := ∀ x, x ∈ xs → Wok x
structure ThOk (T : Thr) (t : Th) : Prop where
  row : t.row < T.code.length
  stk : Woks t.stk
  ll : t.loc.length = T.ws.length
  loc : Woks t.loc
structure StOk (I : Img) (s : MSt) : Prop where
  bl : s.boxes.length = I.boxes.length
  bw : Woks s.boxes
  rl : s.rows.length = I.rows.length
  rz : ∀ (k : Nat) cs w n, s.rows[k]? = some cs → I.rows[k]? = some (w, n) → cs.length = n
  rw_ : ∀ (k : Nat) cs, s.rows[k]? = some cs → Woks cs
  il : s.ins.length = I.lv
  iw : ∀ (k : Nat) cs, s.ins[k]? = some cs → Woks cs
  tl : s.ths.length = I.ths.length
  th : ∀ (i : Nat) t T, s.ths[i]? = some (some t) → I.ths[i]? = some T → ThOk T t
  sz : ∀ (i : Nat) t, s.ths[i]? = some (some t) → t.stk.length ≤ s.tick
theorem Woks.app {xs : List Int} {x : Int} (h : Woks xs) (hx : Wok x) : Woks (xs ++ [x]) := fun y hy => by
  rcases List.mem_append.mp hy with q | q
  · exact h y q
  · rw [List.mem_singleton.mp q]
    exact hx
theorem Woks.drop {xs : List Int} (h : Woks xs) : Woks xs.dropLast := fun y hy => h y (List.dropLast_subset xs hy)
theorem Woks.set {xs : List Int} {x : Int} (h : Woks xs) (hx : Wok x) (k : Nat) : Woks (xs.set k x) := fun y hy => by
  rcases List.mem_or_eq_of_mem_set hy with q | q
  · exact h y q
  · rw [q]
    exact hx
theorem Woks.top {xs : List Int} (h : Woks xs) : Wok (top xs) := by
  unfold Lk.top
  cases e : xs.getLast? with
  | none => exact ⟨Int.le_refl 0, by decide⟩
  | some x => exact h x (List.mem_of_getLast? e)
theorem Woks.getD {xs : List Int} (h : Woks xs) (k : Nat) : Wok (xs.getD k 0) := by
  rw [List.getD_eq_getElem?_getD]
  cases e : xs[k]? with
  | none => exact ⟨Int.le_refl 0, by decide⟩
  | some x => exact h x (List.mem_of_getElem? e)
theorem Wok.wrap {x : Int} {w : Nat} (hw : w ≤ 8) : Wok (x % 2 ^ w) := by
  obtain ⟨p, q⟩ := pow8 hw
  have h1 := Int.emod_nonneg x (show (2 : Int) ^ w ≠ 0 by omega)
  have h2 := Int.emod_lt_of_pos x p
  exact ⟨h1, by omega⟩
theorem emod_pow {x : Int} {w : Nat} (hw : w ≤ 8) : 0 ≤ x % 2 ^ w ∧ x % 2 ^ w < 2 ^ w := by
  obtain ⟨p, q⟩ := pow8 hw
  exact ⟨Int.emod_nonneg x (show (2 : Int) ^ w ≠ 0 by omega), Int.emod_lt_of_pos x p⟩
section
variable {I : Img} {s : MSt} {i : Nat} {t t' : Th} {T : Thr}
/-- a thread is put, of more ticks -/
theorem StOk.put (S : StOk I s) (hI : I.ths[i]? = some T) (h : ThOk T t') (n : Nat) (hn : s.tick ≤ n) (hz : t'.stk.length ≤ n) : StOk I (putT { s with tick := n } i t') := by
  refine ⟨S.bl, S.bw, S.rl, S.rz, S.rw_, S.il, S.iw, ?_, fun j u U hu hU => ?_, fun j u hu => ?_⟩
  · show (s.ths.set i (some t')).length = _
    rw [List.length_set]
    exact S.tl
  · have hu' : (s.ths.set i (some t'))[j]? = some (some u) := hu
    by_cases q : i = j
    · subst q
      by_cases hl : i < s.ths.length
      · rw [List.getElem?_set_self hl] at hu'
        cases hu'
        rw [hI] at hU
        cases hU
        exact h
      · rw [List.getElem?_eq_none (by rw [List.length_set]; omega)] at hu'
        cases hu'
    · rw [List.getElem?_set_ne q] at hu'
      exact S.th j u U hu' hU
  · have hu' : (s.ths.set i (some t'))[j]? = some (some u) := hu
    show u.stk.length ≤ n
    by_cases q : i = j
    · subst q
      by_cases hl : i < s.ths.length
      · rw [List.getElem?_set_self hl] at hu'
        cases hu'
        exact hz
      · rw [List.getElem?_eq_none (by rw [List.length_set]; omega)] at hu'
        cases hu'
    · rw [List.getElem?_set_ne q] at hu'
      exact Nat.le_trans (S.sz j u hu') hn
theorem StOk.fin (S : StOk I s) (n : Nat) (hn : s.tick ≤ n) : StOk I { s with tick := n, ths := s.ths.set i none } := by
  refine ⟨S.bl, S.bw, S.rl, S.rz, S.rw_, S.il, S.iw, ?_, fun j u U hu hU => ?_, fun j u hu => ?_⟩
  · show (s.ths.set i none).length = _
    rw [List.length_set]
    exact S.tl
  · have hu' : (s.ths.set i none)[j]? = some (some u) := hu
    by_cases q : i = j
    · subst q
      by_cases hl : i < s.ths.length
      · rw [List.getElem?_set_self hl] at hu'
        cases hu'
      · rw [List.getElem?_eq_none (by rw [List.length_set]; omega)] at hu'
        cases hu'
    · rw [List.getElem?_set_ne q] at hu'
      exact S.th j u U hu' hU
  · have hu' : (s.ths.set i none)[j]? = some (some u) := hu
    by_cases q : i = j
    · subst q
      by_cases hl : i < s.ths.length
      · rw [List.getElem?_set_self hl] at hu'
        cases hu'
      · rw [List.getElem?_eq_none (by rw [List.length_set]; omega)] at hu'
        cases hu'
    · rw [List.getElem?_set_ne q] at hu'
      exact Nat.le_trans (S.sz j u hu') hn
theorem StOk.setBox (S : StOk I s) {x : Int} (hx : Wok x) (k : Nat) : StOk I { s with boxes := s.boxes.set k x } :=
  ⟨by show (s.boxes.set k x).length = _; rw [List.length_set]; exact S.bl, S.bw.set hx k, S.rl, S.rz, S.rw_, S.il, S.iw, S.tl, S.th, S.sz⟩
theorem StOk.setRow (S : StOk I s) {cs cs' : List Int} {k : Nat} (hk : s.rows[k]? = some cs) (hl : cs'.length = cs.length) (hx : Woks cs') : StOk I { s with rows := s.rows.set k cs' } := by
  have hk' := (List.getElem?_eq_some_iff.mp hk).1
  refine ⟨S.bl, S.bw, ?_, fun j u w n hu hU => ?_, fun j u hu => ?_, S.il, S.iw, S.tl, S.th, S.sz⟩
  · show (s.rows.set k cs').length = _
    rw [List.length_set]
    exact S.rl
  · have hu' : (s.rows.set k cs')[j]? = some u := hu
    by_cases q : k = j
    · subst q
      rw [List.getElem?_set_self hk'] at hu'
      cases hu'
      rw [hl]
      exact S.rz k cs w n hk hU
    · rw [List.getElem?_set_ne q] at hu'
      exact S.rz j u w n hu' hU
  · have hu' : (s.rows.set k cs')[j]? = some u := hu
    by_cases q : k = j
    · subst q
      rw [List.getElem?_set_self hk'] at hu'
      cases hu'
      exact hx
    · rw [List.getElem?_set_ne q] at hu'
      exact S.rw_ j u hu'
theorem StOk.setIns (S : StOk I s) {cs' : List Int} (k : Nat) (hx : Woks cs') : StOk I { s with ins := s.ins.set k cs' } := by
  refine ⟨S.bl, S.bw, S.rl, S.rz, S.rw_, ?_, fun j u hu => ?_, S.tl, S.th, S.sz⟩
  · show (s.ins.set k cs').length = _
    rw [List.length_set]
    exact S.il
  · have hu' : (s.ins.set k cs')[j]? = some u := hu
    by_cases q : k = j
    · subst q
      by_cases hl : k < s.ins.length
      · rw [List.getElem?_set_self hl] at hu'
        cases hu'
        exact hx
      · rw [List.getElem?_eq_none (by rw [List.length_set]; omega)] at hu'
        cases hu'
    · rw [List.getElem?_set_ne q] at hu'
      exact S.iw j u hu'
theorem getD_at {α : Type} {xs : List α} {k : Nat} {x d : α} (h : xs[k]? = some x) : xs.getD k d = x := by
  rw [List.getD_eq_getElem?_getD, h]
  rfl
theorem ins_woks (S : StOk I s) (l : Nat) : Woks (s.ins.getD l []) := by
  rw [List.getD_eq_getElem?_getD]
  cases e : s.ins[l]? with
  | none => exact fun x h => absurd h List.not_mem_nil
  | some cs => exact S.iw l cs e
theorem row_woks (S : StOk I s) (l : Nat) : Woks (s.rows.getD l []) := by
  rw [List.getD_eq_getElem?_getD]
  cases e : s.rows[l]? with
  | none => exact fun x h => absurd h List.not_mem_nil
  | some cs => exact S.rw_ l cs e
theorem StOk.tick (S : StOk I s) (n : Nat) (hn : s.tick ≤ n) : StOk I { s with tick := n } :=
  ⟨S.bl, S.bw, S.rl, S.rz, S.rw_, S.il, S.iw, S.tl, S.th, fun j u hu => Nat.le_trans (S.sz j u hu) hn⟩
theorem StOk.put3 (S : StOk I s) (hI : I.ths[i]? = some T) (r : Nat) (xs ys : List Int) (h1 : r < T.code.length) (h2 : Woks xs) (h3 : ys.length = T.ws.length) (h4 : Woks ys) (hz : xs.length ≤ s.tick + 1) : StOk I (putT s.next i ⟨r, xs, ys⟩) :=
  S.put hI ⟨h1, h2, h3, h4⟩ (s.tick + 1) (Nat.le_succ _) hz
/-- an instruction keeps what holds -/
theorem StOk.exec (O : ImgOk I) (S : StOk I s) (ht : s.ths[i]? = some (some t)) (hT : I.ths[i]? = some T) {c : Ins} (hc : T.code[t.row]? = some c) : StOk I (Lk.exec I T i t s.next c).1 := by
  have to := S.th i t T ht hT
  have tz := S.sz i t ht
  have TO := O.thr i T hT
  obtain ⟨ha, hn⟩ := TO.arg _ _ hc
  have d1 : t.stk.dropLast.length ≤ t.stk.length := by rw [List.length_dropLast]; omega
  have d2 : t.stk.dropLast.dropLast.length ≤ t.stk.length := by rw [List.length_dropLast, List.length_dropLast]; omega
  have a1 : ∀ x : Int, (t.stk ++ [x]).length ≤ s.tick + 1 := fun x => by rw [List.length_append, List.length_singleton]; omega
  have a2 : ∀ x : Int, (t.stk.dropLast ++ [x]).length ≤ s.tick + 1 := fun x => by rw [List.length_append, List.length_singleton]; omega
  have a3 : ∀ x : Int, (t.stk.dropLast.dropLast ++ [x]).length ≤ s.tick + 1 := fun x => by rw [List.length_append, List.length_singleton]; omega
  cases c with
  | push w n => exact S.put3 hT (t.row + 1) (t.stk ++ [n]) t.loc hn (to.stk.app ha) to.ll to.loc (a1 _)
  | rest => exact S.put3 hT (t.row + 1) t.stk t.loc hn to.stk to.ll to.loc (by omega)
  | op o w =>
    obtain ⟨h1, h2, h3⟩ := ha
    obtain ⟨p1, p2⟩ := emod_pow (x := top t.stk.dropLast) h3
    obtain ⟨q1, q2⟩ := emod_pow (x := top t.stk) h3
    exact S.put3 hT (t.row + 1) (t.stk.dropLast.dropLast ++ [wop o w (top t.stk.dropLast % 2 ^ w) (top t.stk % 2 ^ w)]) t.loc hn (to.stk.drop.drop.app (wop_ok h2 h3 p1 p2 q1 q2)) to.ll to.loc (a3 _)
  | out l => exact S.put3 hT (t.row + 1) t.stk.dropLast t.loc hn to.stk.drop to.ll to.loc (by omega)
  | take l w => exact (S.setIns l (ins_woks S l).drop).put3 hT (t.row + 1) (t.stk ++ [top (s.ins.getD l []) % 2 ^ w]) t.loc hn (to.stk.app (Wok.wrap ha.2)) to.ll to.loc (a1 _)
  | loc k => exact S.put3 hT (t.row + 1) (t.stk ++ [t.loc.getD k 0]) t.loc hn (to.stk.app (to.loc.getD k)) to.ll to.loc (a1 _)
  | keep k =>
    have hk : k < T.ws.length := ha
    have hw : T.ws.getD k 0 ≤ 8 := by
      rw [getD_at (List.getElem?_eq_getElem hk)]
      exact TO.ws k _ (List.getElem?_eq_getElem hk)
    exact S.put3 hT (t.row + 1) t.stk.dropLast (t.loc.set k (top t.stk % 2 ^ (T.ws.getD k 0))) hn to.stk.drop (by rw [List.length_set]; exact to.ll) (to.loc.set (Wok.wrap hw) k) (by omega)
  | box k => exact S.put3 hT (t.row + 1) (t.stk ++ [s.boxes.getD k 0]) t.loc hn (to.stk.app (S.bw.getD k)) to.ll to.loc (a1 _)
  | fill k =>
    have hk : k < I.boxes.length := ha
    have hw : (I.boxes.getD k (0, 0)).1 ≤ 8 := by
      rw [getD_at (List.getElem?_eq_getElem hk)]
      exact (O.box k _ _ (List.getElem?_eq_getElem hk)).1
    exact (S.setBox (Wok.wrap hw) k).put3 hT (t.row + 1) t.stk.dropLast t.loc hn to.stk.drop to.ll to.loc (by show t.stk.dropLast.length ≤ s.tick + 1; omega)
  | cell k => exact S.put3 hT (t.row + 1) (t.stk.dropLast ++ [(s.rows.getD k []).getD (top t.stk % ((s.rows.getD k []).length : Nat)).toNat 0]) t.loc hn (to.stk.drop.app ((row_woks S k).getD _)) to.ll to.loc (a2 _)
  | cells k =>
    have hk : k < I.rows.length := ha
    have hw : (I.rows.getD k (0, 0)).1 ≤ 8 := by
      rw [getD_at (List.getElem?_eq_getElem hk)]
      exact (O.row k _ _ (List.getElem?_eq_getElem hk)).1
    have hk' : k < s.rows.length := by rw [S.rl]; exact hk
    have e := List.getElem?_eq_getElem hk'
    have eD : s.rows.getD k [] = s.rows[k] := getD_at e
    exact (S.setRow e (cs' := (s.rows.getD k []).set (top t.stk.dropLast % ((s.rows.getD k []).length : Nat)).toNat (top t.stk % 2 ^ ((I.rows.getD k (0, 0)).1))) (by rw [List.length_set, eD]) ((row_woks S k).set (Wok.wrap hw) _)).put3 hT
      (t.row + 1) t.stk.dropLast.dropLast t.loc hn to.stk.drop.drop to.ll to.loc (by show t.stk.dropLast.dropLast.length ≤ s.tick + 1; omega)
  | els r =>
    refine S.put3 hT (if top t.stk = 0 then r else t.row + 1) t.stk.dropLast t.loc ?_ to.stk.drop to.ll to.loc (by omega)
    split
    · exact ha
    · exact hn
  | jump r => exact S.put3 hT r t.stk t.loc ha to.stk to.ll to.loc (by omega)
  | fin => exact S.fin (s.tick + 1) (Nat.le_succ _)
theorem StOk.step (O : ImgOk I) (S : StOk I s) : StOk I (Lk.step I s).1 := by
  unfold Lk.step
  split
  · rename_i t T h1 h2
    split
    · rename_i c hc
      exact S.exec O h1 h2 hc
    · exact S.tick (s.tick + 1) (Nat.le_succ _)
  · exact S.tick (s.tick + 1) (Nat.le_succ _)
theorem StOk.stt (O : ImgOk I) (S : StOk I s) : ∀ n, StOk I (Lk.stt I s n)
  | 0 => S
  | n + 1 => (StOk.stt O S n).step O
end
end Lk
/-! How a world lies in the heap. -/
namespace Lk
open PySem PySem.Spec PyProof.Rows L2
/-- the parts of a world -/
inductive Sl where
  | bx | rw | sm | th | row (i : Nat) | str (i : Nat) | thr (i : Nat) | stk (i : Nat) | loc (i : Nat)
abbrev Lay := Sl → Addr
def tht (s : MSt) (i : Nat) : Option Th := s.ths.getD i none
def thv (A : Lay) (s : MSt) : List V := (List.range s.ths.length).map fun i => if (tht s i).isSome then V.ref (A (.thr i)) else V.non
def rwv (A : Lay) (n : Nat) : List V := (List.range n).map fun i => V.ref (A (.row i))
def smv (A : Lay) (n : Nat) : List V := (List.range n).map fun i => V.ref (A (.str i))
def cont (A : Lay) (s : MSt) : Sl → Option HO
  | .bx => some (il s.boxes)
  | .rw => some (.lst (rwv A s.rows.length))
  | .sm => some (.lst (smv A s.ins.length))
  | .th => some (.lst (thv A s))
  | .row i => s.rows[i]?.map il
  | .str i => s.ins[i]?.map il
  | .thr i => (tht s i).map fun t => .lst [.int (t.row : Nat), .ref (A (.stk i)), .ref (A (.loc i))]
  | .stk i => (tht s i).map fun t => il t.stk
  | .loc i => (tht s i).map fun t => il t.loc
structure Wd (H : Hp) (A : Lay) (s : MSt) : Prop where
  at_ : ∀ x o, cont A s x = some o → H (A x) = some o
  inj : ∀ x y ox oy, cont A s x = some ox → cont A s y = some oy → A x = A y → x = y
/-- the addresses of a world's parts -/
def Fp (A : Lay) (s : MSt) (a : Addr) : Prop := ∃ x o, cont A s x = some o ∧ A x = a
theorem Wd.put {H H' : Hp} {A : Lay} {s s' : MSt} (W : Wd H A s) (y : Sl) {oy : HO} (hy : cont A s y = some oy) (e : ∀ o, cont A s' y = some o → H' (A y) = some o) (k : Kp (· = A y) H H')
    (same : ∀ x, x ≠ y → ∀ o, cont A s' x = some o → cont A s x = some o) : Wd H' A s' := by
  have dom : ∀ x o, cont A s' x = some o → ∃ o', cont A s x = some o' := fun x o h => by
    by_cases q : x = y
    · exact ⟨oy, q ▸ hy⟩
    · exact ⟨o, same x q o h⟩
  refine ⟨fun x o h => ?_, fun x z ox oz hx hz he => ?_⟩
  · by_cases q : x = y
    · subst q
      exact e o h
    · have h1 := same x q o h
      exact k _ o (W.at_ x o h1) fun z => q (W.inj x y _ _ h1 hy z)
  · obtain ⟨o1, h1⟩ := dom x ox hx
    obtain ⟨o2, h2⟩ := dom z oz hz
    exact W.inj x z _ _ h1 h2 he
theorem Wd.kept {H H' : Hp} {A : Lay} {s : MSt} {S : Addr → Prop} (W : Wd H A s) (k : Kp S H H') (d : ∀ a, Fp A s a → ¬ S a) : Wd H' A s :=
  ⟨fun x o h => k _ o (W.at_ x o h) (d _ ⟨x, o, h, rfl⟩), W.inj⟩
theorem Wd.same {H H' : Hp} {A : Lay} {s : MSt} (W : Wd H A s) (k : Same H H') : Wd H' A s := ⟨fun x o h => k _ o (W.at_ x o h), W.inj⟩
theorem Wd.tick {H : Hp} {A : Lay} {s : MSt} (W : Wd H A s) (n : Nat) : Wd H A { s with tick := n } :=
  ⟨fun x o h => W.at_ x o (by cases x <;> exact h), fun x y ox oy h1 h2 => W.inj x y ox oy (by cases x <;> exact h1) (by cases y <;> exact h2)⟩
section
variable {H H' : Hp} {A : Lay} {s : MSt} {i k : Nat} {t t' : Th}
theorem tht_of (h : s.ths[i]? = some (some t)) : tht s i = some t := by
  unfold tht
  rw [List.getD_eq_getElem?_getD, h]
  rfl
theorem tht_put (hi : i < s.ths.length) (j : Nat) : tht (putT s i t') j = if j = i then some t' else tht s j := by
  unfold tht putT
  rw [List.getD_eq_getElem?_getD, List.getD_eq_getElem?_getD]
  by_cases h : j = i
  · subst h
    rw [if_pos rfl, List.getElem?_set_self hi]
    rfl
  · rw [if_neg h, List.getElem?_set_ne (Ne.symm h)]
theorem tht_lt (h : tht s i = some t) : i < s.ths.length := by
  unfold tht at h
  rw [List.getD_eq_getElem?_getD] at h
  by_cases q : i < s.ths.length
  · exact q
  · rw [List.getElem?_eq_none (by omega)] at h
    cases h
theorem thv_put (h : tht s i = some t) : thv A (putT s i t') = thv A s := by
  have hi := tht_lt h
  have e : (putT s i t').ths.length = s.ths.length := by simp [putT]
  unfold thv
  rw [e]
  refine List.map_congr_left fun j _ => ?_
  rw [tht_put hi j]
  by_cases q : j = i
  · rw [if_pos q, q, h]
    rfl
  · rw [if_neg q]
theorem Wd.thr (W : Wd H A s) (h : tht s i = some t) : H (A (.thr i)) = some (.lst [.int (t.row : Nat), .ref (A (.stk i)), .ref (A (.loc i))]) := W.at_ (.thr i) _ (by show (tht s i).map _ = _; rw [h]; rfl)
theorem Wd.stk (W : Wd H A s) (h : tht s i = some t) : H (A (.stk i)) = some (il t.stk) := W.at_ (.stk i) _ (by show (tht s i).map _ = _; rw [h]; rfl)
theorem Wd.loc (W : Wd H A s) (h : tht s i = some t) : H (A (.loc i)) = some (il t.loc) := W.at_ (.loc i) _ (by show (tht s i).map _ = _; rw [h]; rfl)
theorem Wd.bx (W : Wd H A s) : H (A .bx) = some (il s.boxes) := W.at_ .bx _ rfl
theorem Wd.rw_ (W : Wd H A s) : H (A .rw) = some (.lst (rwv A s.rows.length)) := W.at_ .rw _ rfl
theorem Wd.sm (W : Wd H A s) : H (A .sm) = some (.lst (smv A s.ins.length)) := W.at_ .sm _ rfl
theorem Wd.th (W : Wd H A s) : H (A .th) = some (.lst (thv A s)) := W.at_ .th _ rfl
theorem Wd.row (W : Wd H A s) {cs : List Int} (h : s.rows[k]? = some cs) : H (A (.row k)) = some (il cs) := W.at_ (.row k) _ (by show s.rows[k]?.map il = _; rw [h]; rfl)
theorem Wd.str (W : Wd H A s) {cs : List Int} (h : s.ins[k]? = some cs) : H (A (.str k)) = some (il cs) := W.at_ (.str k) _ (by show s.ins[k]?.map il = _; rw [h]; rfl)
theorem rwv_at {n : Nat} (h : k < n) : (rwv A n)[k]? = some (.ref (A (.row k))) := by
  unfold rwv
  rw [List.getElem?_map, List.getElem?_range h]
  rfl
theorem smv_at {n : Nat} (h : k < n) : (smv A n)[k]? = some (.ref (A (.str k))) := by
  unfold smv
  rw [List.getElem?_map, List.getElem?_range h]
  rfl
theorem thv_at (h : i < s.ths.length) : (thv A s)[i]? = some (if (tht s i).isSome then V.ref (A (.thr i)) else V.non) := by
  unfold thv
  rw [List.getElem?_map, List.getElem?_range h]
  rfl
theorem thv_len : (thv A s).length = s.ths.length := by simp [thv]
/-- the thread at i becomes t', as told -/
theorem Wd.put_th (W : Wd H A s) (h : tht s i = some t) (y : Sl) (hy : y = .thr i ∨ y = .stk i ∨ y = .loc i)
    (e : ∀ o, cont A (putT s i t') y = some o → H' (A y) = some o) (k : Kp (· = A y) H H')
    (e1 : y = .thr i ∨ t'.row = t.row) (e2 : y = .stk i ∨ t'.stk = t.stk) (e3 : y = .loc i ∨ t'.loc = t.loc) : Wd H' A (putT s i t') := by
  have hi := tht_lt h
  have hc : ∃ oy, cont A s y = some oy := by
    rcases hy with rfl | rfl | rfl
    · exact ⟨_, by show (tht s i).map _ = _; rw [h]; rfl⟩
    · exact ⟨_, by show (tht s i).map _ = _; rw [h]; rfl⟩
    · exact ⟨_, by show (tht s i).map _ = _; rw [h]; rfl⟩
  obtain ⟨oy, hc⟩ := hc
  refine W.put y hc e k fun x hx o ho => ?_
  cases x with
  | bx => exact ho
  | rw => exact ho
  | sm => exact ho
  | th =>
    have ho' : some (HO.lst (thv A (putT s i t'))) = some o := ho
    rw [thv_put h] at ho'
    exact ho'
  | row j => exact ho
  | str j => exact ho
  | thr j =>
    have ho' : (tht (putT s i t') j).map (fun t => HO.lst [.int (t.row : Nat), .ref (A (.stk j)), .ref (A (.loc j))]) = some o := ho
    show (tht s j).map (fun t => HO.lst [.int (t.row : Nat), .ref (A (.stk j)), .ref (A (.loc j))]) = some o
    rw [tht_put hi j] at ho'
    by_cases q : j = i
    · subst q
      rw [if_pos rfl] at ho'
      rw [h, ← ho']
      rcases e1 with z | z
      · exact absurd z.symm hx
      · rw [Option.map_some, Option.map_some, z]
    · rw [if_neg q] at ho'
      exact ho'
  | stk j =>
    have ho' : (tht (putT s i t') j).map (fun t => il t.stk) = some o := ho
    show (tht s j).map (fun t => il t.stk) = some o
    rw [tht_put hi j] at ho'
    by_cases q : j = i
    · subst q
      rw [if_pos rfl] at ho'
      rw [h, ← ho']
      rcases e2 with z | z
      · exact absurd z.symm hx
      · rw [Option.map_some, Option.map_some, z]
    · rw [if_neg q] at ho'
      exact ho'
  | loc j =>
    have ho' : (tht (putT s i t') j).map (fun t => il t.loc) = some o := ho
    show (tht s j).map (fun t => il t.loc) = some o
    rw [tht_put hi j] at ho'
    by_cases q : j = i
    · subst q
      rw [if_pos rfl] at ho'
      rw [h, ← ho']
      rcases e3 with z | z
      · exact absurd z.symm hx
      · rw [Option.map_some, Option.map_some, z]
    · rw [if_neg q] at ho'
      exact ho'
theorem Wd.set_stk (W : Wd H A s) (h : tht s i = some t) {xs : List Int} (e : H' (A (.stk i)) = some (il xs)) (k : Kp (· = A (.stk i)) H H') : Wd H' A (putT s i ⟨t.row, xs, t.loc⟩) :=
  W.put_th h (.stk i) (.inr (.inl rfl)) (fun o ho => by
    have ho' : (tht (putT s i ⟨t.row, xs, t.loc⟩) i).map (fun t => il t.stk) = some o := ho
    rw [tht_put (tht_lt h), if_pos rfl] at ho'
    rw [e]
    exact ho') k (.inr rfl) (.inl rfl) (.inr rfl)
theorem Wd.set_loc (W : Wd H A s) (h : tht s i = some t) {xs : List Int} (e : H' (A (.loc i)) = some (il xs)) (k : Kp (· = A (.loc i)) H H') : Wd H' A (putT s i ⟨t.row, t.stk, xs⟩) :=
  W.put_th h (.loc i) (.inr (.inr rfl)) (fun o ho => by
    have ho' : (tht (putT s i ⟨t.row, t.stk, xs⟩) i).map (fun t => il t.loc) = some o := ho
    rw [tht_put (tht_lt h), if_pos rfl] at ho'
    rw [e]
    exact ho') k (.inr rfl) (.inr rfl) (.inl rfl)
theorem Wd.set_row (W : Wd H A s) (h : tht s i = some t) {r : Nat} (e : H' (A (.thr i)) = some (.lst [.int (r : Nat), .ref (A (.stk i)), .ref (A (.loc i))])) (k : Kp (· = A (.thr i)) H H') : Wd H' A (putT s i ⟨r, t.stk, t.loc⟩) :=
  W.put_th h (.thr i) (.inl rfl) (fun o ho => by
    have ho' : (tht (putT s i ⟨r, t.stk, t.loc⟩) i).map (fun t => HO.lst [.int (t.row : Nat), .ref (A (.stk i)), .ref (A (.loc i))]) = some o := ho
    rw [tht_put (tht_lt h), if_pos rfl] at ho'
    rw [e]
    exact ho') k (.inl rfl) (.inr rfl) (.inr rfl)
theorem Wd.set_bx (W : Wd H A s) {xs : List Int} (e : H' (A .bx) = some (il xs)) (k : Kp (· = A .bx) H H') : Wd H' A { s with boxes := xs } :=
  W.put .bx rfl (fun o ho => by rw [e]; exact ho) k fun x hx o ho => by
    cases x <;> first | exact absurd rfl hx | exact ho
theorem Wd.set_cells (W : Wd H A s) {cs xs : List Int} (hk : s.rows[i]? = some cs) (e : H' (A (.row i)) = some (il xs)) (k : Kp (· = A (.row i)) H H') : Wd H' A { s with rows := s.rows.set i xs } := by
  have hl := (List.getElem?_eq_some_iff.mp hk).1
  refine W.put (.row i) (oy := il cs) (by show s.rows[i]?.map il = _; rw [hk]; rfl) (fun o ho => ?_) k fun x hx o ho => ?_
  · have ho' : (s.rows.set i xs)[i]?.map il = some o := ho
    rw [List.getElem?_set_self hl] at ho'
    rw [e]
    exact ho'
  · cases x with
    | rw =>
      have ho' : some (HO.lst (rwv A (s.rows.set i xs).length)) = some o := ho
      rw [List.length_set] at ho'
      exact ho'
    | row j =>
      have ho' : (s.rows.set i xs)[j]?.map il = some o := ho
      have ne : i ≠ j := fun z => hx (by rw [z])
      rw [List.getElem?_set_ne ne] at ho'
      exact ho'
    | _ => exact ho
theorem Wd.set_str (W : Wd H A s) {cs xs : List Int} (hk : s.ins[i]? = some cs) (e : H' (A (.str i)) = some (il xs)) (k : Kp (· = A (.str i)) H H') : Wd H' A { s with ins := s.ins.set i xs } := by
  have hl := (List.getElem?_eq_some_iff.mp hk).1
  refine W.put (.str i) (oy := il cs) (by show s.ins[i]?.map il = _; rw [hk]; rfl) (fun o ho => ?_) k fun x hx o ho => ?_
  · have ho' : (s.ins.set i xs)[i]?.map il = some o := ho
    rw [List.getElem?_set_self hl] at ho'
    rw [e]
    exact ho'
  · cases x with
    | sm =>
      have ho' : some (HO.lst (smv A (s.ins.set i xs).length)) = some o := ho
      rw [List.length_set] at ho'
      exact ho'
    | str j =>
      have ho' : (s.ins.set i xs)[j]?.map il = some o := ho
      have ne : i ≠ j := fun z => hx (by rw [z])
      rw [List.getElem?_set_ne ne] at ho'
      exact ho'
    | _ => exact ho
theorem tht_none (hi : i < s.ths.length) (j : Nat) : tht { s with ths := s.ths.set i none } j = if j = i then none else tht s j := by
  unfold tht
  rw [List.getD_eq_getElem?_getD, List.getD_eq_getElem?_getD]
  by_cases h : j = i
  · subst h
    rw [if_pos rfl]
    show ((s.ths.set j none)[j]?).getD none = none
    rw [List.getElem?_set_self hi]
    rfl
  · rw [if_neg h]
    show ((s.ths.set i none)[j]?).getD none = _
    rw [List.getElem?_set_ne (Ne.symm h)]
theorem thv_none (hi : i < s.ths.length) : thv A { s with ths := s.ths.set i none } = (thv A s).set i .non := by
  refine List.ext_getElem? fun j => ?_
  by_cases hj : j < s.ths.length
  · have e : (thv A { s with ths := s.ths.set i none })[j]? = some (if (tht { s with ths := s.ths.set i none } j).isSome then V.ref (A (.thr j)) else V.non) := thv_at (by simpa using hj)
    rw [e, tht_none hi j]
    by_cases q : j = i
    · subst q
      rw [if_pos rfl, List.getElem?_set_self (by rw [thv_len]; exact hj)]
      rfl
    · rw [if_neg q, List.getElem?_set_ne (Ne.symm q), thv_at hj]
  · rw [List.getElem?_eq_none (by rw [thv_len]; simpa using hj), List.getElem?_eq_none (by rw [List.length_set, thv_len]; omega)]
theorem Wd.set_fin (W : Wd H A s) (hi : i < s.ths.length) (e : H' (A .th) = some (.lst ((thv A s).set i .non))) (k : Kp (· = A .th) H H') : Wd H' A { s with ths := s.ths.set i none } := by
  refine W.put .th rfl (fun o ho => ?_) k fun x hx o ho => ?_
  · have ho' : some (HO.lst (thv A { s with ths := s.ths.set i none })) = some o := ho
    rw [thv_none hi] at ho'
    rw [e]
    exact ho'
  · cases x with
    | th => exact absurd rfl hx
    | thr j =>
      have ho' : (tht { s with ths := s.ths.set i none } j).map (fun t => HO.lst [.int (t.row : Nat), .ref (A (.stk j)), .ref (A (.loc j))]) = some o := ho
      rw [tht_none hi j] at ho'
      by_cases q : j = i
      · rw [if_pos q] at ho'
        cases ho'
      · rw [if_neg q] at ho'
        exact ho'
    | stk j =>
      have ho' : (tht { s with ths := s.ths.set i none } j).map (fun t => il t.stk) = some o := ho
      rw [tht_none hi j] at ho'
      by_cases q : j = i
      · rw [if_pos q] at ho'
        cases ho'
      · rw [if_neg q] at ho'
        exact ho'
    | loc j =>
      have ho' : (tht { s with ths := s.ths.set i none } j).map (fun t => il t.loc) = some o := ho
      rw [tht_none hi j] at ho'
      by_cases q : j = i
      · rw [if_pos q] at ho'
        cases ho'
      · rw [if_neg q] at ho'
        exact ho'
    | _ => exact ho
end
/-! ### what never changes: images, inputs -/
def Ins.vs : Ins → List V
  | .push w n => [.str "push", .int (w : Nat), .int n]
  | .rest => [.str "rest"]
  | .op o w => [.str "op", .str (opn o), .int (w : Nat)]
  | .out l => [.str "out", .int (l : Nat)]
  | .take l w => [.str "take", .int (l : Nat), .int (w : Nat)]
  | .loc i => [.str "local", .int (i : Nat)]
  | .keep i => [.str "keep", .int (i : Nat)]
  | .box i => [.str "box", .int (i : Nat)]
  | .fill i => [.str "fill", .int (i : Nat)]
  | .cell i => [.str "cell", .int (i : Nat)]
  | .cells i => [.str "cells", .int (i : Nat)]
  | .els r => [.str "else", .int (r : Nat)]
  | .jump r => [.str "jump", .int (r : Nat)]
  | .fin => [.str "end"]
def InsAt (H : Hp) (v : V) (c : Ins) : Prop := ∃ a, v = .ref a ∧ H a = some (.tup c.vs)
def CodeAt (H : Hp) (a : Addr) (cs : List Ins) : Prop := ∃ vs, H a = some (.tup vs) ∧ F2 (InsAt H) vs cs
def ThrAt (H : Hp) (v : V) (T : Thr) : Prop := ∃ a wa ca, v = .ref a ∧ H a = some (.tup [.ref wa, .ref ca]) ∧ H wa = some (.tup (T.ws.map fun w => V.int (w : Nat))) ∧ CodeAt H ca T.code
def BoxAt (H : Hp) (v : V) (b : Nat × Int) : Prop := ∃ a l, v = .ref a ∧ H a = some (.tup [l, .int (b.1 : Nat), .int b.2])
def RowAt (H : Hp) (v : V) (b : Nat × Nat) : Prop := ∃ a l, v = .ref a ∧ H a = some (.tup [l, .int (b.1 : Nat), .int (b.2 : Nat)])
/-- a tuple of things -/
def TupOf {α : Type} (P : Hp → V → α → Prop) (H : Hp) (a : Addr) (xs : List α) : Prop := ∃ vs, H a = some (.tup vs) ∧ F2 (P H) vs xs
structure ImgAt (H : Hp) (a : Addr) (I : Img) : Prop where
  ex : ∃ o b r t os, H a = some (.tup [.ref o, .ref b, .ref r, .ref t]) ∧ H o = some (.tup os) ∧ os.length = I.lv ∧ TupOf BoxAt H b I.boxes ∧ TupOf RowAt H r I.rows ∧ TupOf ThrAt H t I.ths
def IntsAt (H : Hp) (v : V) (xs : List Int) : Prop := ∃ a, v = .ref a ∧ H a = some (.tup (xs.map V.int))
def InpAt (H : Hp) (a : Addr) (inp : List (List Int)) : Prop := TupOf IntsAt H a inp
section
variable {H H' : Hp} (t : Ts H H')
include t
theorem InsAt.ts {v : V} {c : Ins} (h : InsAt H v c) : InsAt H' v c := let ⟨a, e, h⟩ := h; ⟨a, e, t _ _ h⟩
theorem CodeAt.ts {a : Addr} {c : List Ins} (h : CodeAt H a c) : CodeAt H' a c := let ⟨vs, e, h⟩ := h; ⟨vs, t _ _ e, h.imp fun _ _ z => InsAt.ts t z⟩
theorem ThrAt.ts {v : V} {c : Thr} (h : ThrAt H v c) : ThrAt H' v c := let ⟨a, b, c, e, h, h2, h3⟩ := h; ⟨a, b, c, e, t _ _ h, t _ _ h2, CodeAt.ts t h3⟩
theorem BoxAt.ts {v : V} {c : Nat × Int} (h : BoxAt H v c) : BoxAt H' v c := let ⟨a, l, e, h⟩ := h; ⟨a, l, e, t _ _ h⟩
theorem RowAt.ts {v : V} {c : Nat × Nat} (h : RowAt H v c) : RowAt H' v c := let ⟨a, l, e, h⟩ := h; ⟨a, l, e, t _ _ h⟩
theorem IntsAt.ts {v : V} {c : List Int} (h : IntsAt H v c) : IntsAt H' v c := let ⟨a, e, h⟩ := h; ⟨a, e, t _ _ h⟩
theorem TupOf.ts {α : Type} {P : Hp → V → α → Prop} (f : ∀ v x, P H v x → P H' v x) {a : Addr} {xs : List α} (h : TupOf P H a xs) : TupOf P H' a xs := let ⟨vs, e, h⟩ := h; ⟨vs, t _ _ e, h.imp f⟩
theorem ImgAt.ts {a : Addr} {I : Img} (h : ImgAt H a I) : ImgAt H' a I := by
  obtain ⟨o, b, r, th, os, h1, h2, h3, h4, h5, h6⟩ := h.ex
  exact ⟨o, b, r, th, os, t _ _ h1, t _ _ h2, h3, TupOf.ts t (fun _ _ => BoxAt.ts t) h4, TupOf.ts t (fun _ _ => RowAt.ts t) h5, TupOf.ts t (fun _ _ => ThrAt.ts t) h6⟩
theorem InpAt.ts {a : Addr} {inp : List (List Int)} (h : InpAt H a inp) : InpAt H' a inp := TupOf.ts t (fun _ _ => IntsAt.ts t) h
end
end Lk
/-! The program's own, shared, plain. -/
namespace Lk
open PySem PySem.Spec PyProof.Rows L2
theorem Kp.ts1 {H H' : Hp} {a : Addr} {xs : List V} (k : Kp (· = a) H H') (h : H a = some (.lst xs)) : Ts H H' := k.ts fun x e ys q => by
  have e' : x = a := e
  rw [e', h] at q
  cases q
theorem fp_stk {A : Lay} {s : MSt} {i : Nat} {t : Th} (h : tht s i = some t) : Fp A s (A (.stk i)) := ⟨.stk i, _, by show (tht s i).map _ = _; rw [h]; rfl, rfl⟩
theorem fp_loc {A : Lay} {s : MSt} {i : Nat} {t : Th} (h : tht s i = some t) : Fp A s (A (.loc i)) := ⟨.loc i, _, by show (tht s i).map _ = _; rw [h]; rfl, rfl⟩
theorem fp_thr {A : Lay} {s : MSt} {i : Nat} {t : Th} (h : tht s i = some t) : Fp A s (A (.thr i)) := ⟨.thr i, _, by show (tht s i).map _ = _; rw [h]; rfl, rfl⟩
theorem fp_bx {A : Lay} {s : MSt} : Fp A s (A .bx) := ⟨.bx, _, rfl, rfl⟩
theorem fp_th {A : Lay} {s : MSt} : Fp A s (A .th) := ⟨.th, _, rfl, rfl⟩
theorem fp_row {A : Lay} {s : MSt} {k : Nat} {cs : List Int} (h : s.rows[k]? = some cs) : Fp A s (A (.row k)) := ⟨.row k, _, by show s.rows[k]?.map il = _; rw [h]; rfl, rfl⟩
theorem fp_str {A : Lay} {s : MSt} {k : Nat} {cs : List Int} (h : s.ins[k]? = some cs) : Fp A s (A (.str k)) := ⟨.str k, _, by show s.ins[k]?.map il = _; rw [h]; rfl, rfl⟩
theorem Kp.at1 {S : Addr → Prop} {H H' : Hp} {a : Addr} (k : Kp (· = a) H H') (h : S a) : Kp S H H' := k.mono fun x e => by
  have e' : x = a := e
  rw [e']
  exact h
theorem tht_putT {s : MSt} {i : Nat} {t t' : Th} (h : tht s i = some t) : tht (putT s i t') i = some t' := by
  rw [tht_put (tht_lt h), if_pos rfl]
theorem putT_putT (s : MSt) (i : Nat) (t t' : Th) : putT (putT s i t) i t' = putT s i t' := by simp [putT, List.set_set]
theorem map_int_at {xs : List Int} {k : Nat} (h : k < xs.length) : (xs.map V.int)[k]? = some (.int (xs.getD k 0)) := by
  rw [List.getElem?_map, List.getD_eq_getElem?_getD, List.getElem?_eq_getElem h]
  rfl
theorem map_nat_at {xs : List Nat} {k : Nat} (h : k < xs.length) : (xs.map fun w => V.int (w : Nat))[k]? = some (.int (xs.getD k 0 : Nat)) := by
  rw [List.getElem?_map, List.getD_eq_getElem?_getD, List.getElem?_eq_getElem h]
  rfl
theorem map_set_int {xs : List Int} {k : Nat} {x : Int} : (xs.map V.int).set k (.int x) = (xs.set k x).map V.int := by rw [List.map_set]
theorem map_app_int {xs : List Int} {x : Int} : xs.map V.int ++ [V.int x] = (xs ++ [x]).map V.int := by rw [List.map_append]; rfl
theorem line100 {n : Nat} (h : n ≤ 100000) : n < sizeLine := Nat.lt_of_le_of_lt h (by decide)
/-- what an own use of a local asks -/
def spOwn : Sp := fun vs H Q _ => ∃ (p : V) (A : Lay) (I : Img) (s : MSt) (T : Thr) (i : Nat) (t : Th) (c : Ins) (ca wa : Addr) (k : Nat), vs = [p, .ref (A (.thr i)), .ref ca, .ref wa] ∧ Wd H A s ∧ tht s i = some t ∧ H ca = some (.tup c.vs) ∧
  H wa = some (.tup (T.ws.map fun w => V.int (w : Nat))) ∧ (c = .loc k ∨ c = .keep k) ∧ k < T.ws.length ∧ T.ws.getD k 0 ≤ 8 ∧ t.loc.length = T.ws.length ∧ t.stk.length ≤ 100000 ∧
  ∀ H', Wd H' A (eff I T i t s c) → Kp (Fp A s) H H' → Q .non H'
section
variable {P : Program} {w : World} {K : PySem.W.Frag} {mg : Str → Option Value} {base : Heap}
theorem sc_own : FnScope ["self", "thread", "one", "widths"] ["self", "thread", "one", "widths"] (defScope S_own) := ⟨rfl, rfl, rfl, by decide +kernel, rfl, by decide +kernel, by decide +kernel⟩
theorem ok_own {f : Addr} {fd : FuncData} (F : Fun K "own" "World.own" S_own f fd) (c_taken : Cl P w K mg base 1 "taken" ["words"] spPop) :
    FnOk P w K mg base CX0 2 f fd ["self", "thread", "one", "widths"] spOwn := by
  refine F.ok sc_own (fun vs H Q E h => ?_) (fun cdv A outer s H vs Q E hr h => ?_)
  · obtain ⟨_, _, _, _, _, _, _, _, _, _, _, rfl, _⟩ := h
    rfl
  · obtain ⟨p, A, I, s, T, i, t, c, ca, wa, k, rfl, W, ht, hone, hws, hc, hk, hw8, hll, hz, q⟩ := h
    refine ⟨_, pss_one (ps_if (pt_cmpR op_eq (pe_ix ix_lt (pv 2) pe_int (fun _ _ => rfl)) pe_str (nomark _)) (pss_one (ps_expr (pe_bm PySem.F.plainAttrs_list PySem.F.slot_list_append PySem.F.type_list_append  mt_append (pe_ix ix_lt (pv 1) pe_int (fun _ _ => rfl)) (pa_cons (pe_ix ix_lt (pe_ix ix_lt (pv 1) pe_int (fun _ _ => rfl)) (pe_ix ix_lt (pv 2) pe_int (fun _ _ => rfl)) (fun _ _ => rfl)) pa_nil)))) (pss_one (ps_asg (pe_op op_mod (pe_cl c_taken hr (by decide) (by rfl) (pa_cons (pe_ix ix_lt (pv 1) pe_int (fun _ _ => rfl)) pa_nil)) (pe_op op_shl pe_int (pe_ix ix_lt (pv 3) (pe_ix ix_lt (pv 2) pe_int (fun _ _ => rfl)) (fun _ _ => rfl)))) (pg_sub (pe_ix ix_lt (pv 1) pe_int (fun _ _ => rfl)) (pe_ix ix_lt (pv 2) pe_int (fun _ _ => rfl)) set_list)))), ?_⟩
    have hth := W.thr ht
    have hstk := W.stk ht
    have hloc := W.loc ht
    have hlk := map_int_at (xs := t.loc) (k := k) (by omega)
    have hwk := map_nat_at hk
    have hp8 := pow8 hw8
    rcases hc with rfl | rfl
    · walk_at "lk"
      refine rd_append hstk (by rw [List.length_map]; exact line100 hz) ?_
      walk_at "lk"
      rw [map_app_int]
      exact q _ (W.set_stk ht upd_same (kp_upd rfl)) (kp_upd (fp_stk ht))
    · walk_at "lk"
      refine ⟨_, _, rfl, hstk, fun H1 e1 k1 => ?_⟩
      have ts1 := k1.ts1 hstk
      have W1 := W.set_stk ht e1 k1
      have ht1 := tht_putT (t' := ⟨t.row, t.stk.dropLast, t.loc⟩) ht
      have hth1 := W1.thr ht1
      have hloc1 := W1.loc ht1
      have hone1 := ts1 _ _ hone
      have hws1 := ts1 _ _ hws
      walk_at "lk"
      refine rd_shl ⟨by omega, by omega, by decide⟩ ?_
      rw [Int.one_mul, Int.toNat_natCast]
      refine rd_mod hp8.1 ?_
      walk_at "lk"
      refine rd_set hloc1 (by rw [List.length_map]; show k < t.loc.length; omega) ?_
      walk_at "lk"
      rw [map_set_int]
      have W2 := W1.set_loc ht1 (xs := t.loc.set k (top t.stk % 2 ^ T.ws.getD k 0)) (H' := upd H1 (A (.loc i)) _) upd_same (kp_upd rfl)
      rw [putT_putT] at W2
      exact q _ W2 ((k1.at1 (fp_stk ht)).tr (kp_upd (fp_loc ht)))
end
end Lk
/-! The program's shared and plain. -/
namespace Lk
open PySem PySem.Spec PyProof.Rows L2
/-- a world's attributes -/
def wf (iv : V) (n : Int) (b r m t : Addr) : List (Str × V) := [("image", iv), ("tick", .int n), ("boxes", .ref b), ("rows", .ref r), ("streams", .ref m), ("threads", .ref t)]
structure Wc (K : PySem.W.Frag) (mg : Str → Option Value) (C : Addr) : Prop where
  cl : Cls K C
  nI : NoAttr K C "image"
  nT : NoAttr K C "tick"
  nB : NoAttr K C "boxes"
  nR : NoAttr K C "rows"
  nS : NoAttr K C "streams"
  nH : NoAttr K C "threads"
  mgC : mg "World" = some (.ref C)
/-- a World with the image at ia stands at p -/
def WAt (C : Addr) (H : Hp) (p ia : Addr) (A : Lay) (s : MSt) : Prop := ∃ dx, H p = some (.ins C dx (wf (.ref ia) (s.tick : Nat) (A .bx) (A .rw) (A .sm) (A .th))) ∧ Wd H A s
/-- p and the world's parts -/
def Wp (p : Addr) (A : Lay) (s : MSt) (a : Addr) : Prop := a = p ∨ Fp A s a
theorem fp_lst {H : Hp} {A : Lay} {s : MSt} (W : Wd H A s) {a : Addr} (h : Fp A s a) : ∃ xs, H a = some (.lst xs) := by
  obtain ⟨x, o, hx, rfl⟩ := h
  have e := W.at_ x o hx
  have : ∃ xs, o = HO.lst xs := by
    cases x with
    | bx => exact ⟨_, (Option.some.inj hx).symm⟩
    | rw => exact ⟨_, (Option.some.inj hx).symm⟩
    | sm => exact ⟨_, (Option.some.inj hx).symm⟩
    | th => exact ⟨_, (Option.some.inj hx).symm⟩
    | row i =>
      obtain ⟨cs, _, h⟩ := Option.map_eq_some_iff.mp (show s.rows[i]?.map il = some o from hx)
      exact ⟨_, h.symm⟩
    | str i =>
      obtain ⟨cs, _, h⟩ := Option.map_eq_some_iff.mp (show s.ins[i]?.map il = some o from hx)
      exact ⟨_, h.symm⟩
    | thr i =>
      obtain ⟨cs, _, h⟩ := Option.map_eq_some_iff.mp (show (tht s i).map _ = some o from hx)
      exact ⟨_, h.symm⟩
    | stk i =>
      obtain ⟨cs, _, h⟩ := Option.map_eq_some_iff.mp (show (tht s i).map _ = some o from hx)
      exact ⟨_, h.symm⟩
    | loc i =>
      obtain ⟨cs, _, h⟩ := Option.map_eq_some_iff.mp (show (tht s i).map _ = some o from hx)
      exact ⟨_, h.symm⟩
  obtain ⟨xs, rfl⟩ := this
  exact ⟨xs, e⟩
theorem Kp.tsF {H H' : Hp} {A : Lay} {s : MSt} (k : Kp (Fp A s) H H') (W : Wd H A s) : Ts H H' := k.ts fun x e ys q => by
  obtain ⟨xs, h⟩ := fp_lst W e
  rw [h] at q
  cases q
/-- an object that is no list stands when a list changes -/
theorem Kp.stay {S : Addr → Prop} {H H' : Hp} (k : Kp S H H') {p : Addr} {o : HO} (h : H p = some o) (n : ¬ S p) : H' p = some o := k p o h n
theorem ins_ne {H : Hp} {p a C dx : Addr} {fs : List (Str × V)} {xs : List V} (h : H p = some (.ins C dx fs)) (h' : H a = some (.lst xs)) : p ≠ a := ne_of h h' (by intro q; cases q)
/-- places of the image -/
theorem ImgAt.box {H : Hp} {ia : Addr} {I : Img} (M : ImgAt H ia I) {k : Nat} {w : Nat} {n : Int} (h : I.boxes[k]? = some (w, n)) :
    ∃ vs ab bs v l, H ia = some (.tup vs) ∧ vs[1]? = some (.ref ab) ∧ H ab = some (.tup bs) ∧ bs[k]? = some (.ref v) ∧ H v = some (.tup [l, .int (w : Nat), .int n]) := by
  obtain ⟨o, b, r, t, os, h1, h2, h3, ⟨bs, e1, e2⟩, h5, h6⟩ := M.ex
  obtain ⟨v, q1, a, l, rfl, q2⟩ := e2.at h
  exact ⟨_, b, bs, a, l, h1, rfl, e1, q1, q2⟩
theorem ImgAt.row {H : Hp} {ia : Addr} {I : Img} (M : ImgAt H ia I) {k : Nat} {w n : Nat} (h : I.rows[k]? = some (w, n)) :
    ∃ vs ab bs v l, H ia = some (.tup vs) ∧ vs[2]? = some (.ref ab) ∧ H ab = some (.tup bs) ∧ bs[k]? = some (.ref v) ∧ H v = some (.tup [l, .int (w : Nat), .int (n : Nat)]) := by
  obtain ⟨o, b, r, t, os, h1, h2, h3, h4, ⟨bs, e1, e2⟩, h6⟩ := M.ex
  obtain ⟨v, q1, a, l, rfl, q2⟩ := e2.at h
  exact ⟨_, r, bs, a, l, h1, rfl, e1, q1, q2⟩
theorem ImgAt.thr {H : Hp} {ia : Addr} {I : Img} (M : ImgAt H ia I) {k : Nat} {T : Thr} (h : I.ths[k]? = some T) :
    ∃ vs ab bs v wa ca, H ia = some (.tup vs) ∧ vs[3]? = some (.ref ab) ∧ H ab = some (.tup bs) ∧ bs[k]? = some (.ref v) ∧ H v = some (.tup [.ref wa, .ref ca]) ∧ H wa = some (.tup (T.ws.map fun w => V.int (w : Nat))) ∧ CodeAt H ca T.code := by
  obtain ⟨o, b, r, t, os, h1, h2, h3, h4, h5, ⟨bs, e1, e2⟩⟩ := M.ex
  obtain ⟨v, q1, a, wa, ca, rfl, q2, q3, q4⟩ := e2.at h
  exact ⟨_, t, bs, a, wa, ca, h1, rfl, e1, q1, q2, q3, q4⟩
def spShared (C : Addr) : Sp := fun vs H Q _ => ∃ (p ia : Addr) (A : Lay) (I : Img) (s : MSt) (T : Thr) (i : Nat) (t : Th) (c : Ins) (ca : Addr) (k : Nat), vs = [.ref p, .ref (A (.stk i)), .ref ca] ∧ WAt C H p ia A s ∧ ImgAt H ia I ∧ ImgOk I ∧ StOk I s ∧ tht s i = some t ∧
  H ca = some (.tup c.vs) ∧ (((c = .box k ∨ c = .fill k) ∧ k < I.boxes.length) ∨ ((c = .cell k ∨ c = .cells k) ∧ k < I.rows.length)) ∧ t.stk.length ≤ 100000 ∧
  ∀ H', WAt C H' p ia A (eff I T i t s c) → Kp (Fp A s) H H' → Q .non H'
theorem idx_ok {x : Int} {n : Nat} (h : 1 ≤ n) : x % (n : Int) = ((x % (n : Int)).toNat : Nat) ∧ (x % (n : Int)).toNat < n := by
  have h1 := Int.emod_nonneg x (show (n : Int) ≠ 0 by omega)
  have h2 := Int.emod_lt_of_pos x (show 0 < (n : Int) by omega)
  omega
section
variable {P : Program} {w : World} {K : PySem.W.Frag} {mg : Str → Option Value} {base : Heap}
theorem sc_shared : FnScope ["self", "stack", "one", "cells", "width", "word", "index"] ["self", "stack", "one"] (defScope S_shared) := ⟨rfl, rfl, rfl, by decide +kernel, rfl, by decide +kernel, by decide +kernel⟩
theorem ok_shared {f C : Addr} {fd : FuncData} (F : Fun K "shared" "World.shared" S_shared f fd) (T : Tx mg) (wc : Wc K mg C) (c_taken : Cl P w K mg base 1 "taken" ["words"] spPop) :
    FnOk P w K mg base CX0 2 f fd ["self", "stack", "one"] (spShared C) := by
  refine F.ok sc_shared (fun vs H Q E h => ?_) (fun cdv A outer s H vs Q E hr h => ?_)
  · obtain ⟨_, _, _, _, _, _, _, _, _, _, _, rfl, _⟩ := h
    rfl
  · obtain ⟨p, ia, A, I, s, T', i, t, c, ca, k, rfl, ⟨dx, hp, W⟩, M, O, S, ht, hone, hc, hz, q⟩ := h
    refine ⟨_, pss_one (ps_if (pt_cmpR op_eq (pe_ix ix_lt (pv 2) pe_int (fun _ _ => rfl)) pe_str (nomark _)) (pss_one (ps_expr (pe_bm PySem.F.plainAttrs_list PySem.F.slot_list_append PySem.F.type_list_append  mt_append (pv 1) (pa_cons (pe_ix ix_lt (pe_fld (pv 0) rfl) (pe_ix ix_lt (pv 2) pe_int (fun _ _ => rfl)) (fun _ _ => rfl)) pa_nil)))) (pss_one (ps_if (pt_cmpR op_eq (pe_ix ix_lt (pv 2) pe_int (fun _ _ => rfl)) pe_str (nomark _)) (pss_one (ps_asg (pe_op op_mod (pe_cl c_taken hr (by decide) (by rfl) (pa_cons (pv 1) pa_nil)) (pe_op op_shl pe_int (pe_ix ix_lt (pe_ix ix_lt (pe_ix ix_lt (pe_fld (pv 0) rfl) pe_int (fun _ _ => rfl)) (pe_ix ix_lt (pv 2) pe_int (fun _ _ => rfl)) (fun _ _ => rfl)) pe_int (fun _ _ => rfl)))) (pg_sub (pe_fld (pv 0) rfl) (pe_ix ix_lt (pv 2) pe_int (fun _ _ => rfl)) set_list))) (pss_cons (ps_par (i := 3) (j := 4) rfl sc_shared.nd rfl rfl (by decide) rfl rfl (pa_cons (pe_ix ix_lt (pe_fld (pv 0) rfl) (pe_ix ix_lt (pv 2) pe_int (fun _ _ => rfl)) (fun _ _ => rfl)) (pa_cons (pe_ix ix_lt (pe_ix ix_lt (pe_ix ix_lt (pe_fld (pv 0) rfl) pe_int (fun _ _ => rfl)) (pe_ix ix_lt (pv 2) pe_int (fun _ _ => rfl)) (fun _ _ => rfl)) pe_int (fun _ _ => rfl)) pa_nil)) (by rfl)) (pss_cons (ps_set (i := 5) sc_shared.nd rfl (Or.inl rfl) (pe_ifExp (pt_cmpR op_eq (pe_ix ix_lt (pv 2) pe_int (fun _ _ => rfl)) pe_str (nomark _)) (pe_cl c_taken hr (by decide) (by rfl) (pa_cons (pv 1) pa_nil)) pe_int)) (pss_cons (ps_set (i := 6) sc_shared.nd rfl (Or.inl rfl) (pe_op op_mod (pe_cl c_taken hr (by decide) (by rfl) (pa_cons (pv 1) pa_nil)) (pe_callB call_len_seq (by rfl) T.len PySem.boot_len (pa_cons (pv 3) pa_nil)))) (pss_one (ps_if (pt_cmpR op_eq (pe_ix ix_lt (pv 2) pe_int (fun _ _ => rfl)) pe_str (nomark _)) (pss_one (ps_expr (pe_bm PySem.F.plainAttrs_list PySem.F.slot_list_append PySem.F.type_list_append  mt_append (pv 1) (pa_cons (pe_ix ix_lt (pv 3) (pv 6) (fun _ _ => rfl)) pa_nil)))) (pss_one (ps_asg (pe_op op_mod (pv 5) (pe_op op_shl pe_int (pv 4))) (pg_sub (pv 3) (pv 6) set_list))))))))))), ?_⟩
    have hC := wc.cl
    have nI := wc.nI
    have nB := wc.nB
    have nR := wc.nR
    have hstk := W.stk ht
    have hbx := W.bx
    have hrw := W.rw_
    have stkz : (t.stk.map V.int).length < sizeLine := by rw [List.length_map]; exact line100 hz
    rcases hc with ⟨hc, hk⟩ | ⟨hc, hk⟩
    · have hb : I.boxes[k]? = some (I.boxes[k].1, I.boxes[k].2) := List.getElem?_eq_getElem hk
      have hbD : I.boxes.getD k (0, 0) = I.boxes[k] := getD_at (List.getElem?_eq_getElem hk)
      have hw8 := (O.box k _ _ hb).1
      have hp8 := pow8 hw8
      have hkb : k < s.boxes.length := by rw [S.bl]; exact hk
      have hbk := map_int_at (xs := s.boxes) (k := k) hkb
      rcases hc with rfl | rfl
      · walk_at "lk"
        refine rd_append hstk stkz ?_
        walk_at "lk"
        rw [map_app_int]
        refine q _ ⟨dx, ?_, W.set_stk ht upd_same (kp_upd rfl)⟩ (kp_upd (fp_stk ht))
        rw [upd_ne (ins_ne hp hstk)]
        exact hp
      · walk_at "lk"
        refine ⟨_, _, rfl, hstk, fun H1 e1 k1 => ?_⟩
        have ts1 := k1.ts1 hstk
        have W1 := W.set_stk ht e1 k1
        have hp1 := k1 p _ hp (ins_ne hp hstk)
        have hone1 := ts1 _ _ hone
        obtain ⟨vs, ab, bs, v, l, m1, m2, m3, m4, m5⟩ := (M.ts ts1).box hb
        have hbx1 := W1.bx
        walk_at "lk"
        refine rd_ix1 (.inr m1) m2 ?_
        walk_at "lk"
        refine rd_shl ⟨by omega, by omega, by decide⟩ ?_
        rw [Int.one_mul, Int.toNat_natCast]
        refine rd_mod hp8.1 ?_
        walk_at "lk"
        refine rd_set hbx1 (by rw [List.length_map]; exact hkb) ?_
        walk_at "lk"
        rw [map_set_int]
        have W2 := W1.set_bx (xs := s.boxes.set k (top t.stk % 2 ^ I.boxes[k].1)) (H' := upd H1 (A .bx) _) upd_same (kp_upd rfl)
        refine q _ ⟨dx, ?_, ?_⟩ ((k1.at1 (fp_stk ht)).tr (kp_upd fp_bx))
        · rw [upd_ne (ins_ne hp1 hbx1)]
          exact hp1
        · show Wd _ A (putT { s with boxes := s.boxes.set k (top t.stk % 2 ^ ((I.boxes.getD k (0, 0)).1)) } i ⟨t.row, t.stk.dropLast, t.loc⟩)
          rw [hbD]
          exact W2
    · have hb : I.rows[k]? = some (I.rows[k].1, I.rows[k].2) := List.getElem?_eq_getElem hk
      have hbD : I.rows.getD k (0, 0) = I.rows[k] := getD_at (List.getElem?_eq_getElem hk)
      obtain ⟨hw8, hn1, hn2⟩ := O.row k _ _ hb
      have hp8 := pow8 hw8
      have hkr : k < s.rows.length := by rw [S.rl]; exact hk
      have ecs : s.rows[k]? = some s.rows[k] := List.getElem?_eq_getElem hkr
      have eD : s.rows.getD k [] = s.rows[k] := getD_at ecs
      generalize hcs : s.rows[k] = cs at ecs eD
      have hlen : 1 ≤ cs.length := by rw [S.rz k cs _ _ ecs hb]; exact hn1
      have hrk := rwv_at (A := A) hkr
      have hcell := W.row ecs
      rcases hc with rfl | rfl
      · obtain ⟨vs, ab, bs, v, l, m1, m2, m3, m4, m5⟩ := M.row hb
        walk_at "lk"
        refine rd_ix2 (.inr m1) m2 ?_
        walk_at "lk"
        refine ⟨_, _, rfl, hstk, fun H1 e1 k1 => ?_⟩
        have W1 := W.set_stk ht e1 k1
        have ht1 := tht_putT (t' := ⟨t.row, t.stk.dropLast, t.loc⟩) ht
        have hp1 := k1 p _ hp (ins_ne hp hstk)
        have ts1 := k1.ts1 hstk
        have hone1 := ts1 _ _ hone
        have hcell1 := W1.row (k := k) ecs
        have hstk1 := W1.stk ht1
        walk_at "lk"
        rw [List.length_map]
        refine rd_mod (by omega) ?_
        walk_at "lk"
        obtain ⟨i1, i2⟩ := idx_ok (x := top t.stk) hlen
        refine rd_ix (.inl hcell1) (map_int_at i2) i1 ?_
        walk_at "lk"
        refine rd_append hstk1 (by rw [List.length_map, List.length_dropLast]; exact line100 (by omega)) ?_
        walk_at "lk"
        rw [map_app_int]
        have W2 := W1.set_stk ht1 (xs := t.stk.dropLast ++ [cs.getD (top t.stk % (cs.length : Nat)).toNat 0]) (H' := upd H1 (A (.stk i)) _) upd_same (kp_upd rfl)
        rw [putT_putT] at W2
        refine q _ ⟨dx, ?_, ?_⟩ ((k1.at1 (fp_stk ht)).tr (kp_upd (fp_stk ht)))
        · rw [upd_ne (ins_ne hp1 hstk1)]
          exact hp1
        · show Wd _ A (putT s i ⟨t.row, t.stk.dropLast ++ [(s.rows.getD k []).getD (top t.stk % ((s.rows.getD k []).length : Nat)).toNat 0], t.loc⟩)
          rw [eD]
          exact W2
      · obtain ⟨vs, ab, bs, v, l, m1, m2, m3, m4, m5⟩ := M.row hb
        walk_at "lk"
        refine rd_ix2 (.inr m1) m2 ?_
        walk_at "lk"
        refine ⟨_, _, rfl, hstk, fun H1 e1 k1 => ?_⟩
        have W1 := W.set_stk ht e1 k1
        have ht1 := tht_putT (t' := ⟨t.row, t.stk.dropLast, t.loc⟩) ht
        have hp1 := k1 p _ hp (ins_ne hp hstk)
        have ts1 := k1.ts1 hstk
        have hone1 := ts1 _ _ hone
        have hstk1 := W1.stk ht1
        walk_at "lk"
        refine ⟨_, _, rfl, hstk1, fun H2 e2 k2 => ?_⟩
        have W2 := W1.set_stk ht1 e2 k2
        have ht2 := tht_putT (t' := ⟨t.row, t.stk.dropLast.dropLast, t.loc⟩) ht1
        have hp2 := k2 p _ hp1 (ins_ne hp1 hstk1)
        have ts2 := k2.ts1 hstk1
        have hone2 := ts2 _ _ hone1
        have hcell2 := W2.row (k := k) ecs
        walk_at "lk"
        rw [List.length_map]
        refine rd_mod (by omega) ?_
        walk_at "lk"
        refine rd_shl ⟨by omega, by omega, by decide⟩ ?_
        rw [Int.one_mul, Int.toNat_natCast]
        refine rd_mod hp8.1 ?_
        walk_at "lk"
        obtain ⟨i1, i2⟩ := idx_ok (x := top t.stk.dropLast) hlen
        rw [i1]
        refine rd_set hcell2 (by rw [List.length_map]; exact i2) ?_
        walk_at "lk"
        rw [map_set_int]
        have W3 := W2.set_cells (i := k) ecs (xs := cs.set (top t.stk.dropLast % (cs.length : Nat)).toNat (top t.stk % 2 ^ I.rows[k].1)) (H' := upd H2 (A (.row k)) _) upd_same (kp_upd rfl)
        rw [putT_putT] at W3
        refine q _ ⟨dx, ?_, ?_⟩ (((k1.at1 (fp_stk ht)).tr (k2.at1 (fp_stk ht))).tr (kp_upd (fp_row ecs)))
        · rw [upd_ne (ins_ne hp2 hcell2)]
          exact hp2
        · show Wd _ A (putT { s with rows := s.rows.set k ((s.rows.getD k []).set (top t.stk.dropLast % ((s.rows.getD k []).length : Nat)).toNat (top t.stk % 2 ^ ((I.rows.getD k (0, 0)).1))) } i ⟨t.row, t.stk.dropLast.dropLast, t.loc⟩)
          rw [eD, hbD]
          exact W3
end
end Lk
/-! The program's plain. -/
namespace Lk
open PySem PySem.Spec PyProof.Rows L2
def Ins.isPlain : Ins → Bool
  | .push _ _ | .op _ _ | .take _ _ => true
  | _ => false
def spPlain (C : Addr) : Sp := fun vs H Q _ => ∃ (p ia : Addr) (A : Lay) (I : Img) (s : MSt) (T : Thr) (i : Nat) (t : Th) (c : Ins) (ca : Addr), vs = [.ref p, .ref (A (.stk i)), .ref ca] ∧ WAt C H p ia A s ∧ StOk I s ∧ tht s i = some t ∧
  H ca = some (.tup c.vs) ∧ c.isPlain = true ∧ InsArg I T c ∧ t.stk.length ≤ 100000 ∧
  ∀ H', WAt C H' p ia A (eff I T i t s c) → Kp (Fp A s) H H' → Q .non H'
section
variable {P : Program} {w : World} {K : PySem.W.Frag} {mg : Str → Option Value} {base : Heap}
theorem sc_plain : FnScope ["self", "stack", "one", "second", "first"] ["self", "stack", "one"] (defScope S_plain) := ⟨rfl, rfl, rfl, by decide +kernel, rfl, by decide +kernel, by decide +kernel⟩
theorem ok_plain {f C : Addr} {fd : FuncData} (F : Fun K "plain" "World.plain" S_plain f fd) (wc : Wc K mg C) (c_taken : Cl P w K mg base 1 "taken" ["words"] spPop)
    (c_word_op : Cl P w K mg base 2 "word_op" ["op", "width", "one", "other"] spWop) : FnOk P w K mg base CX0 3 f fd ["self", "stack", "one"] (spPlain C) := by
  refine F.ok sc_plain (fun vs H Q E h => ?_) (fun cdv A outer s H vs Q E hr h => ?_)
  · obtain ⟨_, _, _, _, _, _, _, _, _, _, rfl, _⟩ := h
    rfl
  · obtain ⟨p, ia, A, I, s, T', i, t, c, ca, rfl, ⟨dx, hp, W⟩, S, ht, hone, hc, ha, hz, q⟩ := h
    refine ⟨_, pss_one (ps_if (pt_cmpR op_eq (pe_ix ix_lt (pv 2) pe_int (fun _ _ => rfl)) pe_str (nomark _)) (pss_one (ps_expr (pe_bm PySem.F.plainAttrs_list PySem.F.slot_list_append PySem.F.type_list_append  mt_append (pv 1) (pa_cons (pe_ix ix_lt (pv 2) pe_int (fun _ _ => rfl)) pa_nil)))) (pss_one (ps_if (pt_cmpR op_eq (pe_ix ix_lt (pv 2) pe_int (fun _ _ => rfl)) pe_str (nomark _)) (pss_cons (ps_par (i := 3) (j := 4) rfl sc_plain.nd rfl rfl (by decide) rfl rfl (pa_cons (pe_cl c_taken hr (by decide) (by rfl) (pa_cons (pv 1) pa_nil)) (pa_cons (pe_cl c_taken hr (by decide) (by rfl) (pa_cons (pv 1) pa_nil)) pa_nil)) (by rfl)) (pss_one (ps_expr (pe_bm PySem.F.plainAttrs_list PySem.F.slot_list_append PySem.F.type_list_append  mt_append (pv 1) (pa_cons (pe_cl c_word_op hr (by decide) (by rfl) (pa_cons (pe_ix ix_lt (pv 2) pe_int (fun _ _ => rfl)) (pa_cons (pe_ix ix_lt (pv 2) pe_int (fun _ _ => rfl)) (pa_cons (pe_op op_mod (pv 4) (pe_op op_shl pe_int (pe_ix ix_lt (pv 2) pe_int (fun _ _ => rfl)))) (pa_cons (pe_op op_mod (pv 3) (pe_op op_shl pe_int (pe_ix ix_lt (pv 2) pe_int (fun _ _ => rfl)))) pa_nil))))) pa_nil))))) (pss_one (ps_expr (pe_bm PySem.F.plainAttrs_list PySem.F.slot_list_append PySem.F.type_list_append  mt_append (pv 1) (pa_cons (pe_op op_mod (pe_cl c_taken hr (by decide) (by rfl) (pa_cons (pe_ix ix_lt (pe_fld (pv 0) rfl) (pe_ix ix_lt (pv 2) pe_int (fun _ _ => rfl)) (fun _ _ => rfl)) pa_nil)) (pe_op op_shl pe_int (pe_ix ix_lt (pv 2) pe_int (fun _ _ => rfl)))) pa_nil))))))), ?_⟩
    have hC := wc.cl
    have nS := wc.nS
    have hstk := W.stk ht
    have hsm := W.sm
    have stkz : (t.stk.map V.int).length < sizeLine := by rw [List.length_map]; exact line100 hz
    cases c with
    | push w n =>
      walk_at "lk"
      refine rd_append hstk stkz ?_
      walk_at "lk"
      rw [map_app_int]
      refine q _ ⟨dx, ?_, W.set_stk ht upd_same (kp_upd rfl)⟩ (kp_upd (fp_stk ht))
      rw [upd_ne (ins_ne hp hstk)]
      exact hp
    | op o w =>
      obtain ⟨a1, a2, a3⟩ := ha
      have hp8 := pow8 a3
      walk_at "lk"
      refine ⟨_, _, rfl, hstk, fun H1 e1 k1 => ?_⟩
      have W1 := W.set_stk ht e1 k1
      have ht1 := tht_putT (t' := ⟨t.row, t.stk.dropLast, t.loc⟩) ht
      have hp1 := k1 p _ hp (ins_ne hp hstk)
      have hone1 := k1.ts1 hstk _ _ hone
      have hstk1 := W1.stk ht1
      walk_at "lk"
      refine ⟨_, _, rfl, hstk1, fun H2 e2 k2 => ?_⟩
      have W2 := W1.set_stk ht1 e2 k2
      have ht2 := tht_putT (t' := ⟨t.row, t.stk.dropLast.dropLast, t.loc⟩) ht1
      have hp2 := k2 p _ hp1 (ins_ne hp1 hstk1)
      have hone2 := k2.ts1 hstk1 _ _ hone1
      have hstk2 := W2.stk ht2
      walk_at "lk"
      refine rd_shl ⟨by omega, by omega, by decide⟩ ?_
      rw [Int.one_mul, Int.toNat_natCast]
      refine rd_mod hp8.1 ?_
      walk_at "lk"
      refine rd_shl ⟨by omega, by omega, by decide⟩ ?_
      rw [Int.one_mul, Int.toNat_natCast]
      refine rd_mod hp8.1 ?_
      walk_at "lk"
      obtain ⟨p1, p2⟩ := emod_pow (x := top t.stk.dropLast) a3
      obtain ⟨q1, q2⟩ := emod_pow (x := top t.stk) a3
      refine ⟨o, w, _, _, rfl, a1, a2, a3, p1, p2, q1, q2, fun H3 k3 => ?_⟩
      have W3 := W2.same k3
      have hp3 := k3 p _ hp2
      have hstk3 := W3.stk ht2
      walk_at "lk"
      refine rd_append hstk3 (by rw [List.length_map, List.length_dropLast, List.length_dropLast]; exact line100 (by omega)) ?_
      walk_at "lk"
      rw [map_app_int]
      have W4 := W3.set_stk ht2 (xs := t.stk.dropLast.dropLast ++ [wop o w (top t.stk.dropLast % 2 ^ w) (top t.stk % 2 ^ w)]) (H' := upd H3 (A (.stk i)) _) upd_same (kp_upd rfl)
      rw [putT_putT, putT_putT] at W4
      refine q _ ⟨dx, ?_, W4⟩ ((((k1.at1 (fp_stk ht)).tr (k2.at1 (fp_stk ht))).tr (Kp.same k3)).tr (kp_upd (fp_stk ht)))
      rw [upd_ne (ins_ne hp3 hstk3)]
      exact hp3
    | take l w =>
      obtain ⟨a1, a2⟩ := ha
      have hp8 := pow8 a2
      have hl : l < s.ins.length := by rw [S.il]; exact a1
      have hsl := smv_at (A := A) hl
      have ecs : s.ins[l]? = some s.ins[l] := List.getElem?_eq_getElem hl
      have eD : s.ins.getD l [] = s.ins[l] := getD_at ecs
      generalize hcs : s.ins[l] = cs at ecs eD
      have hstr := W.str ecs
      walk_at "lk"
      refine ⟨_, _, rfl, hstr, fun H1 e1 k1 => ?_⟩
      have W1 := W.set_str ecs e1 k1
      have ht1 : tht { s with ins := s.ins.set l cs.dropLast } i = some t := ht
      have hp1 := k1 p _ hp (ins_ne hp hstr)
      have hone1 := k1.ts1 hstr _ _ hone
      have hstk1 := W1.stk ht1
      walk_at "lk"
      refine rd_shl ⟨by omega, by omega, by decide⟩ ?_
      rw [Int.one_mul, Int.toNat_natCast]
      refine rd_mod hp8.1 ?_
      walk_at "lk"
      refine rd_append hstk1 stkz ?_
      walk_at "lk"
      rw [map_app_int]
      refine q _ ⟨dx, ?_, ?_⟩ ((k1.at1 (fp_str ecs)).tr (kp_upd (fp_stk ht)))
      · rw [upd_ne (ins_ne hp1 hstk1)]
        exact hp1
      · show Wd _ A (putT { s with ins := s.ins.set l (s.ins.getD l []).dropLast } i ⟨t.row, t.stk ++ [top (s.ins.getD l []) % 2 ^ w], t.loc⟩)
        rw [eD]
        exact W1.set_stk ht1 upd_same (kp_upd rfl)
    | _ => exact absurd (show false = true from hc) Bool.noConfusion
end
end Lk
/-! The program's one tick. -/
namespace Lk
open PySem PySem.Spec PyProof.Rows L2
def Deed.vs : Deed → List V
  | .out l n => [.str "out", .int (l : Nat), .int n]
  | .fin t => [.str "end", .int (t : Nat)]
def DeedAt (H : Hp) (v : V) (d : Deed) : Prop := ∃ a, v = .ref a ∧ H a = some (.tup d.vs)
/-- a tuple (a list) of the deeds of a tick -/
def DeedsT (H : Hp) (a : Addr) (o : Option Deed) : Prop := ∃ vs, H a = some (.tup vs) ∧ F2 (DeedAt H) vs o.toList
def DeedsL (H : Hp) (a : Addr) (o : Option Deed) : Prop := ∃ vs, H a = some (.lst vs) ∧ F2 (DeedAt H) vs o.toList
theorem wf_tick (iv : V) (n m : Int) (b r k t : Addr) : putF "tick" (.int m) (wf iv n b r k t) = wf iv m b r k t := by
  have h1 : ¬ (("image" : Str) = "tick") := by decide
  show (if ("image" : Str) = "tick" then _ else (("image" : Str), iv) :: (if ("tick" : Str) = "tick" then [(("tick" : Str), V.int m), ("boxes", .ref b), ("rows", .ref r), ("streams", .ref k), ("threads", .ref t)] else _)) = _
  rw [if_neg h1, if_pos rfl]
  rfl
def spTick (C : Addr) : Sp := fun vs H Q _ => ∃ (p ia : Addr) (A : Lay) (I : Img) (s : MSt), vs = [.ref p] ∧ WAt C H p ia A s ∧ ImgAt H ia I ∧ ImgOk I ∧ StOk I s ∧ s.tick ≤ 1000 ∧
  ∀ H' d, WAt C H' p ia A (step I s).1 → DeedsT H' d (step I s).2 → Kp (Wp p A s) H H' → Q (.ref d) H'
theorem wp_ts {C dx : Addr} {H H' : Hp} {p : Addr} {fs : List (Str × V)} {A : Lay} {s : MSt} (k : Kp (Wp p A s) H H') (hp : H p = some (.ins C dx fs)) (W : Wd H A s) : Ts H H' := k.ts fun x e ys q => by
  rcases e with e | e
  · rw [e, hp] at q
    cases q
  · obtain ⟨xs, h⟩ := fp_lst W e
    rw [h] at q
    cases q
theorem tht_some {s : MSt} {i : Nat} {t : Th} (h : tht s i = some t) : s.ths[i]? = some (some t) := by
  have hi := tht_lt h
  unfold tht at h
  rw [List.getD_eq_getElem?_getD, List.getElem?_eq_getElem hi] at h
  rw [List.getElem?_eq_getElem hi]
  exact congrArg some h
theorem tht_non {s : MSt} {i : Nat} (hi : i < s.ths.length) (h : tht s i = none) : s.ths[i]? = some none := by
  unfold tht at h
  rw [List.getD_eq_getElem?_getD, List.getElem?_eq_getElem hi] at h
  rw [List.getElem?_eq_getElem hi]
  exact congrArg some h
theorem step_none {I : Img} {s : MSt} {i : Nat} (e : s.tick % s.ths.length = i) (h : s.ths[i]? = some none) : step I s = (s.next, none) := by
  unfold step
  rw [e, h]
theorem step_some {I : Img} {s : MSt} {i : Nat} {t : Th} {T : Thr} {c : Ins} (e : s.tick % s.ths.length = i) (h : s.ths[i]? = some (some t)) (hT : I.ths[i]? = some T) (hc : T.code[t.row]? = some c) : step I s = exec I T i t s.next c := by
  unfold step
  rw [e, h, hT]
  show (match T.code[t.row]? with | some c => exec I T i t s.next c | none => (s.next, none)) = _
  rw [hc]
abbrev sJE : List Str := ["jump", "else"]
abbrev sLK : List Str := ["local", "keep"]
abbrev sBX : List Str := ["box", "fill", "cell", "cells"]
/-- the places are the same when a thread is put -/
theorem fp_same {A : Lay} {s : MSt} {i : Nat} {t t' : Th} {a : Addr} (h : tht s i = some t) (ha : Fp A (putT s.next i t') a) : Fp A s a := by
  have hi := tht_lt h
  have hi' : i < s.next.ths.length := hi
  obtain ⟨x, o, hx, e⟩ := ha
  have : ∃ o', cont A s x = some o' := by
    cases x with
    | thr j =>
      have hx' : (tht (putT s.next i t') j).map (fun t => HO.lst [.int (t.row : Nat), .ref (A (.stk j)), .ref (A (.loc j))]) = some o := hx
      rw [tht_put hi'] at hx'
      by_cases q : j = i
      · exact ⟨_, by show (tht s j).map _ = _; rw [q, h]; rfl⟩
      · rw [if_neg q] at hx'
        exact ⟨o, hx'⟩
    | stk j =>
      have hx' : (tht (putT s.next i t') j).map (fun t => il t.stk) = some o := hx
      rw [tht_put hi'] at hx'
      by_cases q : j = i
      · exact ⟨_, by show (tht s j).map _ = _; rw [q, h]; rfl⟩
      · rw [if_neg q] at hx'
        exact ⟨o, hx'⟩
    | loc j =>
      have hx' : (tht (putT s.next i t') j).map (fun t => il t.loc) = some o := hx
      rw [tht_put hi'] at hx'
      by_cases q : j = i
      · exact ⟨_, by show (tht s j).map _ = _; rw [q, h]; rfl⟩
      · rw [if_neg q] at hx'
        exact ⟨o, hx'⟩
    | th => exact ⟨_, rfl⟩
    | row j => exact ⟨o, hx⟩
    | str j => exact ⟨o, hx⟩
    | bx => exact ⟨_, rfl⟩
    | rw => exact ⟨_, rfl⟩
    | sm => exact ⟨_, rfl⟩
  obtain ⟨o', h'⟩ := this
  exact ⟨x, o', h', e⟩
section
variable {P : Program} {w : World} {K : PySem.W.Frag} {mg : Str → Option Value} {base : Heap}
theorem sc_one_tick : FnScope ["self", "at", "thread", "widths", "code", "one"] ["self"] (defScope S_one_tick) := ⟨rfl, rfl, rfl, by decide +kernel, rfl, by decide +kernel, by decide +kernel⟩
theorem ok_one_tick {f C : Addr} {fd : FuncData} (F : Fun K "one_tick" "World.one_tick" S_one_tick f fd) (T : Tx mg) (wc : Wc K mg C) (c_taken : Cl P w K mg base 1 "taken" ["words"] spPop)
    (c_own : Mt P w K mg base 2 C "own" ["self", "thread", "one", "widths"] spOwn) (c_shared : Mt P w K mg base 2 C "shared" ["self", "stack", "one"] (spShared C)) (c_plain : Mt P w K mg base 3 C "plain" ["self", "stack", "one"] (spPlain C)) :
    FnOk P w K mg base CX0 4 f fd ["self"] (spTick C) := by
  refine F.ok sc_one_tick (fun vs H Q E h => ?_) (fun cdv A outer s H vs Q E hr h => ?_)
  · obtain ⟨_, _, _, _, _, rfl, _⟩ := h
    rfl
  · obtain ⟨p, ia, A, I, s, rfl, ⟨dx, hp, W⟩, M, O, S, hz, q⟩ := h
    refine ⟨_, pss_cons (ps_set (i := 1) sc_one_tick.nd rfl (Or.inl rfl) (pe_op op_mod (pe_fld (pv 0) rfl) (pe_callB call_len_seq (by rfl) T.len PySem.boot_len (pa_cons (pe_fld (pv 0) rfl) pa_nil)))) (
      pss_cons (ps_fld (pv 0) (pe_op op_add (pe_fld (pv 0) rfl) pe_int) rfl) (
      pss_cons (ps_set (i := 2) sc_one_tick.nd rfl (Or.inl rfl) (pe_ix ix_lt (pe_fld (pv 0) rfl) (pv 1) (fun _ _ => rfl))) (
      pss_cons (ps_if (pt_cmpR op_isN (pv 2) pe_non (nomark _)) (pss_one (ps_ret (pe_tup pa_nil))) pss_nil) (
      pss_cons (ps_asg (pe_ix ix_lt (pe_ix ix_lt (pe_fld (pv 0) rfl) pe_int (fun _ _ => rfl)) (pv 1) (fun _ _ => rfl)) (pg_tup rfl (pgs_cons (pg_name (i := 3) sc_one_tick.nd rfl (Or.inl rfl)) (pgs_cons (pg_name (i := 4) sc_one_tick.nd rfl (Or.inl rfl)) pgs_nil)))) (
      pss_cons (ps_set (i := 5) sc_one_tick.nd rfl (Or.inl rfl) (pe_ix ix_lt (pv 4) (pe_ix ix_lt (pv 2) pe_int (fun _ _ => rfl)) (fun _ _ => rfl))) (
      pss_cons (ps_if (pt_cmpR op_eq (pe_ix ix_lt (pv 5) pe_int (fun _ _ => rfl)) pe_str (nomark _)) (pss_cons (ps_asg pe_non (pg_sub (pe_fld (pv 0) rfl) (pv 1) set_list)) (pss_one (ps_ret (pe_tup (pa_cons (pe_tup (pa_cons pe_str (pa_cons (pv 1) pa_nil))) pa_nil))))) pss_nil) (
      pss_cons (ps_asg (pe_op op_add (pe_ix ix_lt (pv 2) pe_int (fun _ _ => rfl)) pe_int) (pg_sub (pv 2) pe_int set_list)) (
      pss_cons (ps_if (pt_cmpR op_eq (pe_ix ix_lt (pv 5) pe_int (fun _ _ => rfl)) pe_str (nomark _)) (pss_one (ps_ret (pe_tup (pa_cons (pe_tup (pa_cons pe_str (pa_cons (pe_ix ix_lt (pv 5) pe_int (fun _ _ => rfl)) (pa_cons (pe_cl c_taken hr (by decide) (by rfl) (pa_cons (pe_ix ix_lt (pv 2) pe_int (fun _ _ => rfl)) pa_nil)) pa_nil)))) pa_nil)))) pss_nil) (
      pss_cons (ps_if (pt_cmpR op_in_seq (pe_ix ix_lt (pv 5) pe_int (fun _ _ => rfl)) (pe_tup (pa_cons pe_str (pa_cons pe_str pa_nil))) rfl) (pss_one (ps_if (PW.pt (pw_or (pt_cmpR op_eq (pe_ix ix_lt (pv 5) pe_int (fun _ _ => rfl)) pe_str (nomark _)) (pw_or1 (pt_cmpR op_eq (pe_cl c_taken hr (by decide) (by rfl) (pa_cons (pe_ix ix_lt (pv 2) pe_int (fun _ _ => rfl)) pa_nil)) pe_int (nomark _))))) (pss_one (ps_asg (pe_ix ix_lt (pv 5) pe_int (fun _ _ => rfl)) (pg_sub (pv 2) pe_int set_list))) pss_nil)) (pss_one (ps_if (pt_cmpR op_in_seq (pe_ix ix_lt (pv 5) pe_int (fun _ _ => rfl)) (pe_tup (pa_cons pe_str (pa_cons pe_str pa_nil))) rfl) (pss_one (ps_expr (pe_mt c_own hr (by decide) (pv 0) (pa_cons (pv 2) (pa_cons (pv 5) (pa_cons (pv 3) pa_nil)))))) (pss_one (ps_if (pt_cmpR op_in_seq (pe_ix ix_lt (pv 5) pe_int (fun _ _ => rfl)) (pe_tup (pa_cons pe_str (pa_cons pe_str (pa_cons pe_str (pa_cons pe_str pa_nil))))) rfl) (pss_one (ps_expr (pe_mt c_shared hr (by decide) (pv 0) (pa_cons (pe_ix ix_lt (pv 2) pe_int (fun _ _ => rfl)) (pa_cons (pv 5) pa_nil))))) (pss_one (ps_if (pt_cmpR op_ne (pe_ix ix_lt (pv 5) pe_int (fun _ _ => rfl)) pe_str (nomark _)) (pss_one (ps_expr (pe_mt c_plain hr (by decide) (pv 0) (pa_cons (pe_ix ix_lt (pv 2) pe_int (fun _ _ => rfl)) (pa_cons (pv 5) pa_nil))))) pss_nil))))))) (
      pss_one (ps_ret (pe_tup pa_nil)))))))))))), ?_⟩
    have hC := wc.cl
    have nI := wc.nI
    have nT := wc.nT
    have nH := wc.nH
    have hth := W.th
    have hm : 1 ≤ s.ths.length := by rw [S.tl]; exact O.ne.1
    walk_at "lk"
    rw [thv_len]
    refine rd_mod (by omega) ?_
    have hat : s.tick % s.ths.length < s.ths.length := Nat.mod_lt _ hm
    show gName 1 (V.int ((s.tick % s.ths.length : Nat) : Int)) _ _ _
    generalize hi : s.tick % s.ths.length = i at hat
    walk_at "lk"
    refine rd_sfldx hp hC nT (by show 6 < 1000; decide) ?_
    rw [wf_tick]
    have ts1 : Ts H (upd H p (.ins C dx (wf (.ref ia) ((s.tick : Nat) + 1) (A .bx) (A .rw) (A .sm) (A .th)))) := ts_upd fun xs e => by
      rw [hp] at e
      cases e
    have k1 : Kp (Wp p A s) H (upd H p (.ins C dx (wf (.ref ia) ((s.tick : Nat) + 1) (A .bx) (A .rw) (A .sm) (A .th)))) := kp_upd (.inl rfl)
    have hp1 : (upd H p (.ins C dx (wf (.ref ia) ((s.tick : Nat) + 1) (A .bx) (A .rw) (A .sm) (A .th)))) p = some (.ins C dx (wf (.ref ia) ((s.next.tick : Nat) : Int) (A .bx) (A .rw) (A .sm) (A .th))) := upd_same
    have W1 : Wd (upd H p (.ins C dx (wf (.ref ia) ((s.tick : Nat) + 1) (A .bx) (A .rw) (A .sm) (A .th)))) A s.next := (W.kept (S := (· = p)) (kp_upd rfl) fun a ha e => by
      obtain ⟨xs, h⟩ := fp_lst W ha
      have e' : a = p := e
      rw [e', hp] at h
      cases h).tick (s.tick + 1)
    generalize upd H p (.ins C dx (wf (.ref ia) ((s.tick : Nat) + 1) (A .bx) (A .rw) (A .sm) (A .th))) = H1 at ts1 k1 hp1 W1
    have M1 := M.ts ts1
    have hth1 := W1.th
    have hv := thv_at (A := A) (s := s) hat
    have hv' : (thv A s.next)[i]? = some (if (tht s i).isSome then V.ref (A (.thr i)) else V.non) := hv
    cases ht : tht s i with
    | none =>
      rw [step_none hi (tht_non hat ht)] at q
      have hv1 : (thv A s.next)[i]? = some V.non := by
        rw [hv', ht]
        rfl
      walk_at "lk"
      refine by_test (fun _ => ?_) (fun h => absurd h (by decide))
      walk_at "lk"
      refine rd_tup ?_
      walk_at "lk"
      refine ⟨Nat.zero_le _, fun d hd => ?_⟩
      exact q _ d ⟨dx, same_new hd _ _ hp1, W1.same (same_new hd)⟩ ⟨[], upd_same, F2.nil⟩ (k1.then_same (same_new hd))
    | some t =>
      have hs := tht_some ht
      have hiI : i < I.ths.length := by rw [← S.tl]; exact hat
      have hT : I.ths[i]? = some I.ths[i] := List.getElem?_eq_getElem hiI
      generalize I.ths[i] = T' at hT
      have to := S.th i t T' hs hT
      have TO := O.thr i T' hT
      obtain ⟨c, hc⟩ : ∃ c, T'.code[t.row]? = some c := ⟨_, List.getElem?_eq_getElem to.row⟩
      rw [step_some hi hs hT hc] at q
      obtain ⟨ha, hn⟩ := TO.arg _ _ hc
      have hsz : t.stk.length ≤ 100000 := Nat.le_trans (S.sz i t hs) (Nat.le_trans hz (by decide))
      have ht1 : tht s.next i = some t := ht
      have hthr1 := W1.thr ht1
      obtain ⟨vs, ab, bs, va, wa, ca, m1, m2, m3, m4, m5, m6, cvs, m7, m8⟩ := M1.thr hT
      obtain ⟨cv, m9, xa, rfl, hone1⟩ := m8.at hc
      have hv1 : (thv A s.next)[i]? = some (V.ref (A (.thr i))) := by
        rw [hv', ht]
        rfl
      clear hv hv'
      walk_at "lk"
      refine by_test (fun h => absurd (of_decide_eq_true h) nofun) (fun _ => ?_)
      walk_at "lk"
      refine rd_ix3 (.inr m1) m2 ?_
      walk_at "lk"
      have W2 := W1.set_row (r := t.row + 1) (H' := upd H1 (A (.thr i)) (.lst [.int ((t.row : Nat) + 1), .ref (A (.stk i)), .ref (A (.loc i))])) ht1 upd_same (kp_upd rfl)
      have k2 : Kp (Wp p A s) H (upd H1 (A (.thr i)) (.lst [.int ((t.row : Nat) + 1), .ref (A (.stk i)), .ref (A (.loc i))])) := k1.tr (kp_upd (.inr (fp_thr ht)))
      have hp2 : (upd H1 (A (.thr i)) (.lst [.int ((t.row : Nat) + 1), .ref (A (.stk i)), .ref (A (.loc i))])) p = some (.ins C dx (wf (.ref ia) ((s.next.tick : Nat) : Int) (A .bx) (A .rw) (A .sm) (A .th))) := by
        rw [upd_ne (ins_ne hp1 hthr1)]
        exact hp1
      have ht2 := tht_putT (t' := ⟨t.row + 1, t.stk, t.loc⟩) ht1
      have hone2 : (upd H1 (A (.thr i)) (.lst [.int ((t.row : Nat) + 1), .ref (A (.stk i)), .ref (A (.loc i))])) xa = some (.tup c.vs) := (Kp.ts1 (kp_upd rfl) hthr1) _ _ hone1
      have m62 : (upd H1 (A (.thr i)) (.lst [.int ((t.row : Nat) + 1), .ref (A (.stk i)), .ref (A (.loc i))])) wa = some (.tup (T'.ws.map fun w => V.int (w : Nat))) := (Kp.ts1 (kp_upd rfl) hthr1) _ _ m6
      have M2 := M1.ts (Kp.ts1 (kp_upd (o := .lst [.int ((t.row : Nat) + 1), .ref (A (.stk i)), .ref (A (.loc i))]) rfl) hthr1)
      have S3 : ∀ r : Nat, r < T'.code.length → StOk I (putT s.next i ⟨r, t.stk, t.loc⟩) := fun r hr' => S.put3 hT r t.stk t.loc hr' to.stk to.ll to.loc (Nat.le_succ_of_le (S.sz i t hs))
      cases c with
      | fin =>
        walk_at "lk"
        refine rd_set hth1 (by rw [thv_len]; exact hat) ?_
        have W3 := W1.set_fin (i := i) (H' := upd H1 (A .th) _) hat upd_same (kp_upd rfl)
        have k3 : Kp (Wp p A s) H (upd H1 (A .th) (.lst ((thv A s.next).set i .non))) := k1.tr (kp_upd (.inr fp_th))
        have hp3 : (upd H1 (A .th) (.lst ((thv A s.next).set i .non))) p = some (.ins C dx (wf (.ref ia) ((s.next.tick : Nat) : Int) (A .bx) (A .rw) (A .sm) (A .th))) := by
          rw [upd_ne (ins_ne hp1 hth1)]
          exact hp1
        generalize upd H1 (A .th) (.lst ((thv A s.next).set i .non)) = H3 at W3 k3 hp3
        walk_at "lk"
        refine rd_tup ?_
        walk_at "lk"
        refine rd_tup ?_
        walk_at "lk"
        walk_at "lk"
        refine ⟨(by show 2 ≤ sizeLine; decide), fun x hx => ?_⟩
        walk_at "lk"
        refine ⟨(by show 1 ≤ sizeLine; decide), fun d hd => ?_⟩
        have sm := (same_new (o := .tup [.str "end", .int (i : Nat)]) hx).trans (same_new (o := .tup [.ref x]) hd)
        refine q _ d ⟨dx, sm _ _ hp3, W3.same sm⟩ ⟨[.ref x], upd_same, F2.one ⟨x, rfl, ?_⟩⟩ (k3.then_same sm)
        rw [upd_ne (ne_of_none upd_same hd)]
        exact upd_same
      | out l =>
        walk_at "lk"
        refine rd_set0 hthr1 (Nat.zero_lt_succ _) ?_
        have hthr2 := W2.thr ht2
        have hstk2 := W2.stk ht2
        generalize hH2 : upd H1 (A (.thr i)) _ = H2 at W2 k2 hp2 hone2 m62 M2 hthr2 hstk2
        have hH2' : upd H1 (A (.thr i)) (.lst (List.set [.int (t.row : Nat), .ref (A (.stk i)), .ref (A (.loc i))] 0 (.int ((t.row : Nat) + 1)))) = H2 := hH2
        rw [hH2']
        walk_at "lk"
        walk_at "lk"
        refine rd_tup ?_
        walk_at "lk"
        refine rd_tup ?_
        walk_at "lk"
        walk_at "lk"
        refine ⟨_, _, rfl, hstk2, fun H3 e3 k3 => ?_⟩
        have W3 := W2.set_stk ht2 e3 k3
        rw [putT_putT] at W3
        have hp3 := k3 p _ hp2 (ins_ne hp2 hstk2)
        walk_at "lk"
        refine ⟨(by show 3 ≤ sizeLine; decide), fun x hx => ?_⟩
        walk_at "lk"
        refine ⟨(by show 1 ≤ sizeLine; decide), fun d hd => ?_⟩
        have sm := (same_new (o := .tup [.str "out", .int (l : Nat), .int (top t.stk)]) hx).trans (same_new (o := .tup [.ref x]) hd)
        refine q _ d ⟨dx, sm _ _ hp3, W3.same sm⟩ ⟨[.ref x], upd_same, F2.one ⟨x, rfl, ?_⟩⟩ ((k2.tr (k3.at1 (.inr (fp_stk ht)))).then_same sm)
        rw [upd_ne (ne_of_none upd_same hd)]
        exact upd_same
      | jump r =>
        walk_at "lk"
        refine rd_set0 hthr1 (Nat.zero_lt_succ _) ?_
        have hthr2 := W2.thr ht2
        have hstk2 := W2.stk ht2
        generalize hH2 : upd H1 (A (.thr i)) _ = H2 at W2 k2 hp2 hone2 m62 M2 hthr2 hstk2
        have hH2' : upd H1 (A (.thr i)) (.lst (List.set [.int (t.row : Nat), .ref (A (.stk i)), .ref (A (.loc i))] 0 (.int ((t.row : Nat) + 1)))) = H2 := hH2
        rw [hH2']
        walk_at "lk"
        refine rd_intup sJE (b := true) (fun _ q => q) (by decide) (by decide) fun y hy => ?_
        have s3 : Same H2 (upd H2 y (.tup (sJE.map V.str))) := same_new hy
        generalize upd H2 y (.tup (sJE.map V.str)) = H3 at s3
        have hone3 := s3 _ _ hone2
        have hthr3 := s3 _ _ hthr2
        walk_at "lk"
        refine rd_set0 hthr3 (Nat.zero_lt_succ _) ?_
        have W3 := (W2.same s3).set_row (r := r) (H' := upd H3 (A (.thr i)) (.lst [.int (r : Nat), .ref (A (.stk i)), .ref (A (.loc i))])) ht2 upd_same (kp_upd rfl)
        rw [putT_putT] at W3
        have hp3 : (upd H3 (A (.thr i)) (.lst [.int (r : Nat), .ref (A (.stk i)), .ref (A (.loc i))])) p = some (.ins C dx (wf (.ref ia) ((s.next.tick : Nat) : Int) (A .bx) (A .rw) (A .sm) (A .th))) := by
          rw [upd_ne (ins_ne hp2 hthr2)]
          exact s3 _ _ hp2
        have k3 : Kp (Wp p A s) H (upd H3 (A (.thr i)) (.lst [.int (r : Nat), .ref (A (.stk i)), .ref (A (.loc i))])) := (k2.then_same s3).tr (kp_upd (.inr (fp_thr ht)))
        walk_at "lk"
        walk_at "lk"
        refine rd_tup ?_
        walk_at "lk"
        refine ⟨Nat.zero_le _, fun d hd => ?_⟩
        exact q _ d ⟨dx, same_new hd _ _ hp3, W3.same (same_new hd)⟩ ⟨[], upd_same, F2.nil⟩ (k3.then_same (same_new hd))
      | els r =>
        walk_at "lk"
        refine rd_set0 hthr1 (Nat.zero_lt_succ _) ?_
        have hthr2 := W2.thr ht2
        have hstk2 := W2.stk ht2
        generalize hH2 : upd H1 (A (.thr i)) _ = H2 at W2 k2 hp2 hone2 m62 M2 hthr2 hstk2
        have hH2' : upd H1 (A (.thr i)) (.lst (List.set [.int (t.row : Nat), .ref (A (.stk i)), .ref (A (.loc i))] 0 (.int ((t.row : Nat) + 1)))) = H2 := hH2
        rw [hH2']
        walk_at "lk"
        refine rd_intup sJE (b := true) (fun _ q => q) (by decide) (by decide) fun y hy => ?_
        have s3 : Same H2 (upd H2 y (.tup (sJE.map V.str))) := same_new hy
        generalize upd H2 y (.tup (sJE.map V.str)) = H3 at s3
        have hone3 := s3 _ _ hone2
        have hthr3 := s3 _ _ hthr2
        have hstk3 := s3 _ _ hstk2
        walk_at "lk"
        refine ⟨_, _, rfl, hstk3, fun H4 e4 k4 => ?_⟩
        have W4 := (W2.same s3).set_stk ht2 e4 k4
        have ht4 := tht_putT (t' := ⟨t.row + 1, t.stk.dropLast, t.loc⟩) ht2
        have hp4 := k4 p _ (s3 _ _ hp2) (ins_ne (s3 _ _ hp2) hstk3)
        have hone4 := k4.ts1 hstk3 _ _ hone3
        have hthr4 := W4.thr ht4
        have k4' : Kp (Wp p A s) H H4 := (k2.then_same s3).tr (k4.at1 (.inr (fp_stk ht)))
        walk_at "lk"
        refine by_test (fun h0 => ?_) (fun h0 => ?_)
        · have h0 := of_decide_eq_true h0
          walk_at "lk"
          refine rd_set0 hthr4 (Nat.zero_lt_succ _) ?_
          have W5 := W4.set_row (r := r) (H' := upd H4 (A (.thr i)) (.lst [.int (r : Nat), .ref (A (.stk i)), .ref (A (.loc i))])) ht4 upd_same (kp_upd rfl)
          rw [putT_putT, putT_putT] at W5
          have hp5 : (upd H4 (A (.thr i)) (.lst [.int (r : Nat), .ref (A (.stk i)), .ref (A (.loc i))])) p = some (.ins C dx (wf (.ref ia) ((s.next.tick : Nat) : Int) (A .bx) (A .rw) (A .sm) (A .th))) := by
            rw [upd_ne (ins_ne hp4 hthr4)]
            exact hp4
          have k5 : Kp (Wp p A s) H (upd H4 (A (.thr i)) (.lst [.int (r : Nat), .ref (A (.stk i)), .ref (A (.loc i))])) := k4'.tr (kp_upd (.inr (fp_thr ht)))
          have e : exec I T' i t s.next (.els r) = (putT s.next i ⟨r, t.stk.dropLast, t.loc⟩, none) := by
            show (putT s.next i ⟨if top t.stk = 0 then r else t.row + 1, t.stk.dropLast, t.loc⟩, none) = _
            rw [if_pos h0]
          rw [e] at q
          walk_at "lk"
          walk_at "lk"
          refine rd_tup ?_
          walk_at "lk"
          refine ⟨Nat.zero_le _, fun d hd => ?_⟩
          exact q _ d ⟨dx, same_new hd _ _ hp5, W5.same (same_new hd)⟩ ⟨[], upd_same, F2.nil⟩ (k5.then_same (same_new hd))
        · have h0 := of_decide_eq_false h0
          rw [putT_putT] at W4
          have e : exec I T' i t s.next (.els r) = (putT s.next i ⟨t.row + 1, t.stk.dropLast, t.loc⟩, none) := by
            show (putT s.next i ⟨if top t.stk = 0 then r else t.row + 1, t.stk.dropLast, t.loc⟩, none) = _
            rw [if_neg h0]
          rw [e] at q
          walk_at "lk"
          walk_at "lk"
          refine rd_tup ?_
          walk_at "lk"
          refine ⟨Nat.zero_le _, fun d hd => ?_⟩
          exact q _ d ⟨dx, same_new hd _ _ hp4, W4.same (same_new hd)⟩ ⟨[], upd_same, F2.nil⟩ (k4'.then_same (same_new hd))
      | loc k =>
        walk_at "lk"
        refine rd_set0 hthr1 (Nat.zero_lt_succ _) ?_
        have hthr2 := W2.thr ht2
        have hstk2 := W2.stk ht2
        generalize hH2 : upd H1 (A (.thr i)) _ = H2 at W2 k2 hp2 hone2 m62 M2 hthr2 hstk2
        have hH2' : upd H1 (A (.thr i)) (.lst (List.set [.int (t.row : Nat), .ref (A (.stk i)), .ref (A (.loc i))] 0 (.int ((t.row : Nat) + 1)))) = H2 := hH2
        rw [hH2']
        walk_at "lk"
        refine rd_intup sJE (b := false) (fun _ q => q) (by decide) (by decide) fun y3 hy3 => ?_
        have s3 : Same H2 (upd H2 y3 (.tup (sJE.map V.str))) := same_new hy3
        generalize upd H2 y3 (.tup (sJE.map V.str)) = H3 at s3
        have hone3 := s3 _ _ hone2
        have hthr3 := s3 _ _ hthr2
        walk_at "lk"
        refine rd_intup sLK (b := true) (fun _ q => q) (by decide) (by decide) fun y4 hy4 => ?_
        have s4 : Same H3 (upd H3 y4 (.tup (sLK.map V.str))) := same_new hy4
        generalize upd H3 y4 (.tup (sLK.map V.str)) = H4 at s4
        have hone4 := s4 _ _ hone3
        have hthr4 := s4 _ _ hthr3
        walk_at "lk"
        have hp4 := s4 _ _ (s3 _ _ hp2)
        walk_at "lk"
        have ha' : k < T'.ws.length := ha
        refine ⟨_, A, I, _, T', i, _, .loc k, xa, wa, k, rfl, (W2.same s3).same s4, ht2, hone4, s4 _ _ (s3 _ _ m62), .inl rfl, ha', TO.ws k (T'.ws.getD k 0) (by rw [List.getD_eq_getElem?_getD, List.getElem?_eq_getElem ha']; rfl), to.ll, hsz, fun H9 W9 k9' => ?_⟩
        have hp9 := k9' p _ (s4 _ _ (s3 _ _ hp2)) fun z => by
          obtain ⟨xs, hx⟩ := fp_lst W2 z
          rw [hp2] at hx
          cases hx
        have k9 : Kp (Wp p A s) H H9 := ((k2.then_same s3).then_same s4).tr (k9'.mono (fun x hx => .inr (fp_same ht hx)))
        rw [exec_eff I T' i t s.next _ rfl] at q
        walk_at "lk"
        walk_at "lk"
        refine rd_tup ?_
        walk_at "lk"
        refine ⟨Nat.zero_le _, fun d hd => ?_⟩
        exact q _ d ⟨dx, same_new hd _ _ hp9, W9.same (same_new hd)⟩ ⟨[], upd_same, F2.nil⟩ (k9.then_same (same_new hd))
      | keep k =>
        walk_at "lk"
        refine rd_set0 hthr1 (Nat.zero_lt_succ _) ?_
        have hthr2 := W2.thr ht2
        have hstk2 := W2.stk ht2
        generalize hH2 : upd H1 (A (.thr i)) _ = H2 at W2 k2 hp2 hone2 m62 M2 hthr2 hstk2
        have hH2' : upd H1 (A (.thr i)) (.lst (List.set [.int (t.row : Nat), .ref (A (.stk i)), .ref (A (.loc i))] 0 (.int ((t.row : Nat) + 1)))) = H2 := hH2
        rw [hH2']
        walk_at "lk"
        refine rd_intup sJE (b := false) (fun _ q => q) (by decide) (by decide) fun y3 hy3 => ?_
        have s3 : Same H2 (upd H2 y3 (.tup (sJE.map V.str))) := same_new hy3
        generalize upd H2 y3 (.tup (sJE.map V.str)) = H3 at s3
        have hone3 := s3 _ _ hone2
        have hthr3 := s3 _ _ hthr2
        walk_at "lk"
        refine rd_intup sLK (b := true) (fun _ q => q) (by decide) (by decide) fun y4 hy4 => ?_
        have s4 : Same H3 (upd H3 y4 (.tup (sLK.map V.str))) := same_new hy4
        generalize upd H3 y4 (.tup (sLK.map V.str)) = H4 at s4
        have hone4 := s4 _ _ hone3
        have hthr4 := s4 _ _ hthr3
        walk_at "lk"
        have hp4 := s4 _ _ (s3 _ _ hp2)
        walk_at "lk"
        have ha' : k < T'.ws.length := ha
        refine ⟨_, A, I, _, T', i, _, .keep k, xa, wa, k, rfl, (W2.same s3).same s4, ht2, hone4, s4 _ _ (s3 _ _ m62), .inr rfl, ha', TO.ws k (T'.ws.getD k 0) (by rw [List.getD_eq_getElem?_getD, List.getElem?_eq_getElem ha']; rfl), to.ll, hsz, fun H9 W9 k9' => ?_⟩
        have hp9 := k9' p _ (s4 _ _ (s3 _ _ hp2)) fun z => by
          obtain ⟨xs, hx⟩ := fp_lst W2 z
          rw [hp2] at hx
          cases hx
        have k9 : Kp (Wp p A s) H H9 := ((k2.then_same s3).then_same s4).tr (k9'.mono (fun x hx => .inr (fp_same ht hx)))
        rw [exec_eff I T' i t s.next _ rfl] at q
        walk_at "lk"
        walk_at "lk"
        refine rd_tup ?_
        walk_at "lk"
        refine ⟨Nat.zero_le _, fun d hd => ?_⟩
        exact q _ d ⟨dx, same_new hd _ _ hp9, W9.same (same_new hd)⟩ ⟨[], upd_same, F2.nil⟩ (k9.then_same (same_new hd))
      | box k =>
        walk_at "lk"
        refine rd_set0 hthr1 (Nat.zero_lt_succ _) ?_
        have hthr2 := W2.thr ht2
        have hstk2 := W2.stk ht2
        generalize hH2 : upd H1 (A (.thr i)) _ = H2 at W2 k2 hp2 hone2 m62 M2 hthr2 hstk2
        have hH2' : upd H1 (A (.thr i)) (.lst (List.set [.int (t.row : Nat), .ref (A (.stk i)), .ref (A (.loc i))] 0 (.int ((t.row : Nat) + 1)))) = H2 := hH2
        rw [hH2']
        walk_at "lk"
        refine rd_intup sJE (b := false) (fun _ q => q) (by decide) (by decide) fun y3 hy3 => ?_
        have s3 : Same H2 (upd H2 y3 (.tup (sJE.map V.str))) := same_new hy3
        generalize upd H2 y3 (.tup (sJE.map V.str)) = H3 at s3
        have hone3 := s3 _ _ hone2
        have hthr3 := s3 _ _ hthr2
        walk_at "lk"
        refine rd_intup sLK (b := false) (fun _ q => q) (by decide) (by decide) fun y4 hy4 => ?_
        have s4 : Same H3 (upd H3 y4 (.tup (sLK.map V.str))) := same_new hy4
        generalize upd H3 y4 (.tup (sLK.map V.str)) = H4 at s4
        have hone4 := s4 _ _ hone3
        have hthr4 := s4 _ _ hthr3
        walk_at "lk"
        refine rd_intup sBX (b := true) (fun _ q => q) (by decide) (by decide) fun y5 hy5 => ?_
        have s5 : Same H4 (upd H4 y5 (.tup (sBX.map V.str))) := same_new hy5
        generalize upd H4 y5 (.tup (sBX.map V.str)) = H5 at s5
        have hone5 := s5 _ _ hone4
        have hthr5 := s5 _ _ hthr4
        walk_at "lk"
        have hp5 := s5 _ _ (s4 _ _ (s3 _ _ hp2))
        walk_at "lk"
        refine ⟨p, ia, A, I, putT s.next i ⟨t.row + 1, t.stk, t.loc⟩, T', i, _, .box k, xa, k, rfl, ⟨dx, hp5, ((W2.same s3).same s4).same s5⟩, ((M2.ts (.same s3)).ts (.same s4)).ts (.same s5), O, S3 _ hn, ht2, hone5, .inl ⟨.inl rfl, ha⟩, hsz, fun H9 z9 k9' => ?_⟩
        obtain ⟨dx, hp9, W9⟩ := z9
        have k9 : Kp (Wp p A s) H H9 := (((k2.then_same s3).then_same s4).then_same s5).tr (k9'.mono (fun x hx => .inr (fp_same ht hx)))
        rw [exec_eff I T' i t s.next _ rfl] at q
        walk_at "lk"
        walk_at "lk"
        refine rd_tup ?_
        walk_at "lk"
        refine ⟨Nat.zero_le _, fun d hd => ?_⟩
        exact q _ d ⟨dx, same_new hd _ _ hp9, W9.same (same_new hd)⟩ ⟨[], upd_same, F2.nil⟩ (k9.then_same (same_new hd))
      | fill k =>
        walk_at "lk"
        refine rd_set0 hthr1 (Nat.zero_lt_succ _) ?_
        have hthr2 := W2.thr ht2
        have hstk2 := W2.stk ht2
        generalize hH2 : upd H1 (A (.thr i)) _ = H2 at W2 k2 hp2 hone2 m62 M2 hthr2 hstk2
        have hH2' : upd H1 (A (.thr i)) (.lst (List.set [.int (t.row : Nat), .ref (A (.stk i)), .ref (A (.loc i))] 0 (.int ((t.row : Nat) + 1)))) = H2 := hH2
        rw [hH2']
        walk_at "lk"
        refine rd_intup sJE (b := false) (fun _ q => q) (by decide) (by decide) fun y3 hy3 => ?_
        have s3 : Same H2 (upd H2 y3 (.tup (sJE.map V.str))) := same_new hy3
        generalize upd H2 y3 (.tup (sJE.map V.str)) = H3 at s3
        have hone3 := s3 _ _ hone2
        have hthr3 := s3 _ _ hthr2
        walk_at "lk"
        refine rd_intup sLK (b := false) (fun _ q => q) (by decide) (by decide) fun y4 hy4 => ?_
        have s4 : Same H3 (upd H3 y4 (.tup (sLK.map V.str))) := same_new hy4
        generalize upd H3 y4 (.tup (sLK.map V.str)) = H4 at s4
        have hone4 := s4 _ _ hone3
        have hthr4 := s4 _ _ hthr3
        walk_at "lk"
        refine rd_intup sBX (b := true) (fun _ q => q) (by decide) (by decide) fun y5 hy5 => ?_
        have s5 : Same H4 (upd H4 y5 (.tup (sBX.map V.str))) := same_new hy5
        generalize upd H4 y5 (.tup (sBX.map V.str)) = H5 at s5
        have hone5 := s5 _ _ hone4
        have hthr5 := s5 _ _ hthr4
        walk_at "lk"
        have hp5 := s5 _ _ (s4 _ _ (s3 _ _ hp2))
        walk_at "lk"
        refine ⟨p, ia, A, I, putT s.next i ⟨t.row + 1, t.stk, t.loc⟩, T', i, _, .fill k, xa, k, rfl, ⟨dx, hp5, ((W2.same s3).same s4).same s5⟩, ((M2.ts (.same s3)).ts (.same s4)).ts (.same s5), O, S3 _ hn, ht2, hone5, .inl ⟨.inr rfl, ha⟩, hsz, fun H9 z9 k9' => ?_⟩
        obtain ⟨dx, hp9, W9⟩ := z9
        have k9 : Kp (Wp p A s) H H9 := (((k2.then_same s3).then_same s4).then_same s5).tr (k9'.mono (fun x hx => .inr (fp_same ht hx)))
        rw [exec_eff I T' i t s.next _ rfl] at q
        walk_at "lk"
        walk_at "lk"
        refine rd_tup ?_
        walk_at "lk"
        refine ⟨Nat.zero_le _, fun d hd => ?_⟩
        exact q _ d ⟨dx, same_new hd _ _ hp9, W9.same (same_new hd)⟩ ⟨[], upd_same, F2.nil⟩ (k9.then_same (same_new hd))
      | cell k =>
        walk_at "lk"
        refine rd_set0 hthr1 (Nat.zero_lt_succ _) ?_
        have hthr2 := W2.thr ht2
        have hstk2 := W2.stk ht2
        generalize hH2 : upd H1 (A (.thr i)) _ = H2 at W2 k2 hp2 hone2 m62 M2 hthr2 hstk2
        have hH2' : upd H1 (A (.thr i)) (.lst (List.set [.int (t.row : Nat), .ref (A (.stk i)), .ref (A (.loc i))] 0 (.int ((t.row : Nat) + 1)))) = H2 := hH2
        rw [hH2']
        walk_at "lk"
        refine rd_intup sJE (b := false) (fun _ q => q) (by decide) (by decide) fun y3 hy3 => ?_
        have s3 : Same H2 (upd H2 y3 (.tup (sJE.map V.str))) := same_new hy3
        generalize upd H2 y3 (.tup (sJE.map V.str)) = H3 at s3
        have hone3 := s3 _ _ hone2
        have hthr3 := s3 _ _ hthr2
        walk_at "lk"
        refine rd_intup sLK (b := false) (fun _ q => q) (by decide) (by decide) fun y4 hy4 => ?_
        have s4 : Same H3 (upd H3 y4 (.tup (sLK.map V.str))) := same_new hy4
        generalize upd H3 y4 (.tup (sLK.map V.str)) = H4 at s4
        have hone4 := s4 _ _ hone3
        have hthr4 := s4 _ _ hthr3
        walk_at "lk"
        refine rd_intup sBX (b := true) (fun _ q => q) (by decide) (by decide) fun y5 hy5 => ?_
        have s5 : Same H4 (upd H4 y5 (.tup (sBX.map V.str))) := same_new hy5
        generalize upd H4 y5 (.tup (sBX.map V.str)) = H5 at s5
        have hone5 := s5 _ _ hone4
        have hthr5 := s5 _ _ hthr4
        walk_at "lk"
        have hp5 := s5 _ _ (s4 _ _ (s3 _ _ hp2))
        walk_at "lk"
        refine ⟨p, ia, A, I, putT s.next i ⟨t.row + 1, t.stk, t.loc⟩, T', i, _, .cell k, xa, k, rfl, ⟨dx, hp5, ((W2.same s3).same s4).same s5⟩, ((M2.ts (.same s3)).ts (.same s4)).ts (.same s5), O, S3 _ hn, ht2, hone5, .inr ⟨.inl rfl, ha⟩, hsz, fun H9 z9 k9' => ?_⟩
        obtain ⟨dx, hp9, W9⟩ := z9
        have k9 : Kp (Wp p A s) H H9 := (((k2.then_same s3).then_same s4).then_same s5).tr (k9'.mono (fun x hx => .inr (fp_same ht hx)))
        rw [exec_eff I T' i t s.next _ rfl] at q
        walk_at "lk"
        walk_at "lk"
        refine rd_tup ?_
        walk_at "lk"
        refine ⟨Nat.zero_le _, fun d hd => ?_⟩
        exact q _ d ⟨dx, same_new hd _ _ hp9, W9.same (same_new hd)⟩ ⟨[], upd_same, F2.nil⟩ (k9.then_same (same_new hd))
      | cells k =>
        walk_at "lk"
        refine rd_set0 hthr1 (Nat.zero_lt_succ _) ?_
        have hthr2 := W2.thr ht2
        have hstk2 := W2.stk ht2
        generalize hH2 : upd H1 (A (.thr i)) _ = H2 at W2 k2 hp2 hone2 m62 M2 hthr2 hstk2
        have hH2' : upd H1 (A (.thr i)) (.lst (List.set [.int (t.row : Nat), .ref (A (.stk i)), .ref (A (.loc i))] 0 (.int ((t.row : Nat) + 1)))) = H2 := hH2
        rw [hH2']
        walk_at "lk"
        refine rd_intup sJE (b := false) (fun _ q => q) (by decide) (by decide) fun y3 hy3 => ?_
        have s3 : Same H2 (upd H2 y3 (.tup (sJE.map V.str))) := same_new hy3
        generalize upd H2 y3 (.tup (sJE.map V.str)) = H3 at s3
        have hone3 := s3 _ _ hone2
        have hthr3 := s3 _ _ hthr2
        walk_at "lk"
        refine rd_intup sLK (b := false) (fun _ q => q) (by decide) (by decide) fun y4 hy4 => ?_
        have s4 : Same H3 (upd H3 y4 (.tup (sLK.map V.str))) := same_new hy4
        generalize upd H3 y4 (.tup (sLK.map V.str)) = H4 at s4
        have hone4 := s4 _ _ hone3
        have hthr4 := s4 _ _ hthr3
        walk_at "lk"
        refine rd_intup sBX (b := true) (fun _ q => q) (by decide) (by decide) fun y5 hy5 => ?_
        have s5 : Same H4 (upd H4 y5 (.tup (sBX.map V.str))) := same_new hy5
        generalize upd H4 y5 (.tup (sBX.map V.str)) = H5 at s5
        have hone5 := s5 _ _ hone4
        have hthr5 := s5 _ _ hthr4
        walk_at "lk"
        have hp5 := s5 _ _ (s4 _ _ (s3 _ _ hp2))
        walk_at "lk"
        refine ⟨p, ia, A, I, putT s.next i ⟨t.row + 1, t.stk, t.loc⟩, T', i, _, .cells k, xa, k, rfl, ⟨dx, hp5, ((W2.same s3).same s4).same s5⟩, ((M2.ts (.same s3)).ts (.same s4)).ts (.same s5), O, S3 _ hn, ht2, hone5, .inr ⟨.inr rfl, ha⟩, hsz, fun H9 z9 k9' => ?_⟩
        obtain ⟨dx, hp9, W9⟩ := z9
        have k9 : Kp (Wp p A s) H H9 := (((k2.then_same s3).then_same s4).then_same s5).tr (k9'.mono (fun x hx => .inr (fp_same ht hx)))
        rw [exec_eff I T' i t s.next _ rfl] at q
        walk_at "lk"
        walk_at "lk"
        refine rd_tup ?_
        walk_at "lk"
        refine ⟨Nat.zero_le _, fun d hd => ?_⟩
        exact q _ d ⟨dx, same_new hd _ _ hp9, W9.same (same_new hd)⟩ ⟨[], upd_same, F2.nil⟩ (k9.then_same (same_new hd))
      | push w n =>
        walk_at "lk"
        refine rd_set0 hthr1 (Nat.zero_lt_succ _) ?_
        have hthr2 := W2.thr ht2
        have hstk2 := W2.stk ht2
        generalize hH2 : upd H1 (A (.thr i)) _ = H2 at W2 k2 hp2 hone2 m62 M2 hthr2 hstk2
        have hH2' : upd H1 (A (.thr i)) (.lst (List.set [.int (t.row : Nat), .ref (A (.stk i)), .ref (A (.loc i))] 0 (.int ((t.row : Nat) + 1)))) = H2 := hH2
        rw [hH2']
        walk_at "lk"
        refine rd_intup sJE (b := false) (fun _ q => q) (by decide) (by decide) fun y3 hy3 => ?_
        have s3 : Same H2 (upd H2 y3 (.tup (sJE.map V.str))) := same_new hy3
        generalize upd H2 y3 (.tup (sJE.map V.str)) = H3 at s3
        have hone3 := s3 _ _ hone2
        have hthr3 := s3 _ _ hthr2
        walk_at "lk"
        refine rd_intup sLK (b := false) (fun _ q => q) (by decide) (by decide) fun y4 hy4 => ?_
        have s4 : Same H3 (upd H3 y4 (.tup (sLK.map V.str))) := same_new hy4
        generalize upd H3 y4 (.tup (sLK.map V.str)) = H4 at s4
        have hone4 := s4 _ _ hone3
        have hthr4 := s4 _ _ hthr3
        walk_at "lk"
        refine rd_intup sBX (b := false) (fun _ q => q) (by decide) (by decide) fun y5 hy5 => ?_
        have s5 : Same H4 (upd H4 y5 (.tup (sBX.map V.str))) := same_new hy5
        generalize upd H4 y5 (.tup (sBX.map V.str)) = H5 at s5
        have hone5 := s5 _ _ hone4
        have hthr5 := s5 _ _ hthr4
        walk_at "lk"
        have hp5 := s5 _ _ (s4 _ _ (s3 _ _ hp2))
        walk_at "lk"
        refine ⟨p, ia, A, I, putT s.next i ⟨t.row + 1, t.stk, t.loc⟩, T', i, _, .push w n, xa, rfl, ⟨dx, hp5, ((W2.same s3).same s4).same s5⟩, S3 _ hn, ht2, hone5, rfl, ha, hsz, fun H9 z9 k9' => ?_⟩
        obtain ⟨dx, hp9, W9⟩ := z9
        have k9 : Kp (Wp p A s) H H9 := (((k2.then_same s3).then_same s4).then_same s5).tr (k9'.mono (fun x hx => .inr (fp_same ht hx)))
        rw [exec_eff I T' i t s.next _ rfl] at q
        walk_at "lk"
        walk_at "lk"
        refine rd_tup ?_
        walk_at "lk"
        refine ⟨Nat.zero_le _, fun d hd => ?_⟩
        exact q _ d ⟨dx, same_new hd _ _ hp9, W9.same (same_new hd)⟩ ⟨[], upd_same, F2.nil⟩ (k9.then_same (same_new hd))
      | op o w =>
        walk_at "lk"
        refine rd_set0 hthr1 (Nat.zero_lt_succ _) ?_
        have hthr2 := W2.thr ht2
        have hstk2 := W2.stk ht2
        generalize hH2 : upd H1 (A (.thr i)) _ = H2 at W2 k2 hp2 hone2 m62 M2 hthr2 hstk2
        have hH2' : upd H1 (A (.thr i)) (.lst (List.set [.int (t.row : Nat), .ref (A (.stk i)), .ref (A (.loc i))] 0 (.int ((t.row : Nat) + 1)))) = H2 := hH2
        rw [hH2']
        walk_at "lk"
        refine rd_intup sJE (b := false) (fun _ q => q) (by decide) (by decide) fun y3 hy3 => ?_
        have s3 : Same H2 (upd H2 y3 (.tup (sJE.map V.str))) := same_new hy3
        generalize upd H2 y3 (.tup (sJE.map V.str)) = H3 at s3
        have hone3 := s3 _ _ hone2
        have hthr3 := s3 _ _ hthr2
        walk_at "lk"
        refine rd_intup sLK (b := false) (fun _ q => q) (by decide) (by decide) fun y4 hy4 => ?_
        have s4 : Same H3 (upd H3 y4 (.tup (sLK.map V.str))) := same_new hy4
        generalize upd H3 y4 (.tup (sLK.map V.str)) = H4 at s4
        have hone4 := s4 _ _ hone3
        have hthr4 := s4 _ _ hthr3
        walk_at "lk"
        refine rd_intup sBX (b := false) (fun _ q => q) (by decide) (by decide) fun y5 hy5 => ?_
        have s5 : Same H4 (upd H4 y5 (.tup (sBX.map V.str))) := same_new hy5
        generalize upd H4 y5 (.tup (sBX.map V.str)) = H5 at s5
        have hone5 := s5 _ _ hone4
        have hthr5 := s5 _ _ hthr4
        walk_at "lk"
        have hp5 := s5 _ _ (s4 _ _ (s3 _ _ hp2))
        walk_at "lk"
        refine ⟨p, ia, A, I, putT s.next i ⟨t.row + 1, t.stk, t.loc⟩, T', i, _, .op o w, xa, rfl, ⟨dx, hp5, ((W2.same s3).same s4).same s5⟩, S3 _ hn, ht2, hone5, rfl, ha, hsz, fun H9 z9 k9' => ?_⟩
        obtain ⟨dx, hp9, W9⟩ := z9
        have k9 : Kp (Wp p A s) H H9 := (((k2.then_same s3).then_same s4).then_same s5).tr (k9'.mono (fun x hx => .inr (fp_same ht hx)))
        rw [exec_eff I T' i t s.next _ rfl] at q
        walk_at "lk"
        walk_at "lk"
        refine rd_tup ?_
        walk_at "lk"
        refine ⟨Nat.zero_le _, fun d hd => ?_⟩
        exact q _ d ⟨dx, same_new hd _ _ hp9, W9.same (same_new hd)⟩ ⟨[], upd_same, F2.nil⟩ (k9.then_same (same_new hd))
      | take l w =>
        walk_at "lk"
        refine rd_set0 hthr1 (Nat.zero_lt_succ _) ?_
        have hthr2 := W2.thr ht2
        have hstk2 := W2.stk ht2
        generalize hH2 : upd H1 (A (.thr i)) _ = H2 at W2 k2 hp2 hone2 m62 M2 hthr2 hstk2
        have hH2' : upd H1 (A (.thr i)) (.lst (List.set [.int (t.row : Nat), .ref (A (.stk i)), .ref (A (.loc i))] 0 (.int ((t.row : Nat) + 1)))) = H2 := hH2
        rw [hH2']
        walk_at "lk"
        refine rd_intup sJE (b := false) (fun _ q => q) (by decide) (by decide) fun y3 hy3 => ?_
        have s3 : Same H2 (upd H2 y3 (.tup (sJE.map V.str))) := same_new hy3
        generalize upd H2 y3 (.tup (sJE.map V.str)) = H3 at s3
        have hone3 := s3 _ _ hone2
        have hthr3 := s3 _ _ hthr2
        walk_at "lk"
        refine rd_intup sLK (b := false) (fun _ q => q) (by decide) (by decide) fun y4 hy4 => ?_
        have s4 : Same H3 (upd H3 y4 (.tup (sLK.map V.str))) := same_new hy4
        generalize upd H3 y4 (.tup (sLK.map V.str)) = H4 at s4
        have hone4 := s4 _ _ hone3
        have hthr4 := s4 _ _ hthr3
        walk_at "lk"
        refine rd_intup sBX (b := false) (fun _ q => q) (by decide) (by decide) fun y5 hy5 => ?_
        have s5 : Same H4 (upd H4 y5 (.tup (sBX.map V.str))) := same_new hy5
        generalize upd H4 y5 (.tup (sBX.map V.str)) = H5 at s5
        have hone5 := s5 _ _ hone4
        have hthr5 := s5 _ _ hthr4
        walk_at "lk"
        have hp5 := s5 _ _ (s4 _ _ (s3 _ _ hp2))
        walk_at "lk"
        refine ⟨p, ia, A, I, putT s.next i ⟨t.row + 1, t.stk, t.loc⟩, T', i, _, .take l w, xa, rfl, ⟨dx, hp5, ((W2.same s3).same s4).same s5⟩, S3 _ hn, ht2, hone5, rfl, ha, hsz, fun H9 z9 k9' => ?_⟩
        obtain ⟨dx, hp9, W9⟩ := z9
        have k9 : Kp (Wp p A s) H H9 := (((k2.then_same s3).then_same s4).then_same s5).tr (k9'.mono (fun x hx => .inr (fp_same ht hx)))
        rw [exec_eff I T' i t s.next _ rfl] at q
        walk_at "lk"
        walk_at "lk"
        refine rd_tup ?_
        walk_at "lk"
        refine ⟨Nat.zero_le _, fun d hd => ?_⟩
        exact q _ d ⟨dx, same_new hd _ _ hp9, W9.same (same_new hd)⟩ ⟨[], upd_same, F2.nil⟩ (k9.then_same (same_new hd))
      | rest =>
        walk_at "lk"
        refine rd_set0 hthr1 (Nat.zero_lt_succ _) ?_
        have hthr2 := W2.thr ht2
        have hstk2 := W2.stk ht2
        generalize hH2 : upd H1 (A (.thr i)) _ = H2 at W2 k2 hp2 hone2 m62 M2 hthr2 hstk2
        have hH2' : upd H1 (A (.thr i)) (.lst (List.set [.int (t.row : Nat), .ref (A (.stk i)), .ref (A (.loc i))] 0 (.int ((t.row : Nat) + 1)))) = H2 := hH2
        rw [hH2']
        walk_at "lk"
        refine rd_intup sJE (b := false) (fun _ q => q) (by decide) (by decide) fun y3 hy3 => ?_
        have s3 : Same H2 (upd H2 y3 (.tup (sJE.map V.str))) := same_new hy3
        generalize upd H2 y3 (.tup (sJE.map V.str)) = H3 at s3
        have hone3 := s3 _ _ hone2
        have hthr3 := s3 _ _ hthr2
        walk_at "lk"
        refine rd_intup sLK (b := false) (fun _ q => q) (by decide) (by decide) fun y4 hy4 => ?_
        have s4 : Same H3 (upd H3 y4 (.tup (sLK.map V.str))) := same_new hy4
        generalize upd H3 y4 (.tup (sLK.map V.str)) = H4 at s4
        have hone4 := s4 _ _ hone3
        have hthr4 := s4 _ _ hthr3
        walk_at "lk"
        refine rd_intup sBX (b := false) (fun _ q => q) (by decide) (by decide) fun y5 hy5 => ?_
        have s5 : Same H4 (upd H4 y5 (.tup (sBX.map V.str))) := same_new hy5
        generalize upd H4 y5 (.tup (sBX.map V.str)) = H5 at s5
        have hone5 := s5 _ _ hone4
        have hthr5 := s5 _ _ hthr4
        walk_at "lk"
        walk_at "lk"
        refine rd_tup ?_
        walk_at "lk"
        refine ⟨Nat.zero_le _, fun d hd => ?_⟩
        have sm := ((s3.trans s4).trans s5).trans (same_new (o := .tup []) hd)
        exact q _ d ⟨dx, sm _ _ hp2, W2.same sm⟩ ⟨[], upd_same, F2.nil⟩ (k2.then_same sm)
end
end Lk
/-! tuple * int, the int any number from 0 on. -/
namespace Lk
open PySem PySem.Spec PyProof.Rows L2
section
variable (l : Addr) (items : Array Value) (n : Nat) (dd : Option Addr) (sl : Array (Option Value)) (x : Int) (u : Tok)
/-- times one: the tuple itself -/
theorem tupleMul1 (c0 : (decide (x < -(2 ^ 63)) || decide (x ≥ 2 ^ 63)) = false) (c1 : (items.isEmpty || x == 1) = true) : Meets (Builtin.«tuple.__mul__» ⟨[.ref l, .int x u], []⟩)
    (fun _ R s => s.heap.get? l = some { cls := .type "tuple", dict := dd, data := .seq items n, slots := sl } ∧ R (.ok (.ret (Value.ref l))) s) :=
  .of_wp fun prog w A R s h => by
    obtain ⟨hp, g, d, tk, os⟩ := s
    obtain ⟨hl, h⟩ := h
    have f1 := AutoSeq1.idx_int
    wp_walk using wpAny_loadPart' hl
    repeat (first
      | (refine wpAny_ite_false (decide_eq_false (c0 ▸ Bool.false_ne_true)) ?_; wp_walk using wpAny_loadPart' hl)
      | (refine wpAny_ite_true (decide_eq_true c1) ?_; wp_walk using wpAny_loadPart' hl))
    exact ⟨_, rfl, h⟩
/-- times nought: an empty tuple -/
theorem tupleMul0 (c0 : (decide (x < -(2 ^ 63)) || decide (x ≥ 2 ^ 63)) = false) (c1 : (items.isEmpty || x == 1) = false) (c2 : (decide (x ≤ 0) || items.isEmpty) = true) : Meets (Builtin.«tuple.__mul__» ⟨[.ref l, .int x u], []⟩)
    (fun _ R s => s.heap.get? l = some { cls := .type "tuple", dict := dd, data := .seq items n, slots := sl } ∧ R (.ok (.ret (Value.ref s.heap.objs.size))) { s with heap := s.heap.push { cls := Value.type "tuple", data := Data.seq #[] }, toks := s.toks }) :=
  .of_wp fun prog w A R s h => by
    obtain ⟨hp, g, d, tk, os⟩ := s
    obtain ⟨hl, h⟩ := h
    have f1 := AutoSeq1.idx_int
    wp_walk using wpAny_loadPart' hl
    repeat (first
      | (refine wpAny_ite_false (decide_eq_false (c0 ▸ Bool.false_ne_true)) ?_; wp_walk using wpAny_loadPart' hl)
      | (refine wpAny_ite_false (decide_eq_false (c1 ▸ Bool.false_ne_true)) ?_; wp_walk using wpAny_loadPart' hl)
      | (refine wpAny_ite_true (decide_eq_true c2) ?_; wp_walk using wpAny_loadPart' hl))
    exact ⟨_, rfl, h⟩
end
def rRepA : R2 := fun x y H Q => ∃ (l : Addr) (k : Nat) (xs : List V), x = .ref l ∧ y = .int (k : Nat) ∧ H l = some (.tup xs) ∧ xs ≠ [] ∧ k ≤ 1000 ∧ xs.length ≤ 1000 ∧ ∀ p H', Same H H' → H' p = some (.tup (List.replicate k xs).flatten) → Q (.ref p) H'
theorem op_repA {X : Cx} : OpR X (binaryOp .Mult) rRepA := by
  intro pins s σ H x y v u Q I rx ry h
  obtain ⟨l, k, xs, rfl, rfl, hT, hne, hk, hz, q⟩ := h
  by_cases h2 : 2 ≤ k
  · refine op_repT (X := X) pins s σ H _ _ v u Q I rx ry ⟨l, (k : Int), xs, rfl, rfl, SqT.of hT, hne, by omega, by omega, hz, fun p hp => ?_⟩
    refine q p _ (fun b o e => ?_) ?_
    · rw [upd_ne (ne_of_none e hp)]
      exact e
    · rw [upd_same, Int.toNat_natCast]
  · cases rx
    obtain ⟨t, rfl⟩ := ry
    obtain ⟨its, r, ⟨⟨cls, dd, data, sl⟩, ho, hc, n, hd⟩, hs⟩ := I.tuple (SqT.of hT)
    simp only at hc hd
    subst hc hd
    have hn : its.toArray.isEmpty = false := by
      cases r with
      | nil => exact absurd rfl hne
      | cons _ _ => rfl
    have c0 : (decide ((k : Int) < -(2 ^ 63)) || decide ((k : Int) ≥ 2 ^ 63)) = false := by
      rw [Bool.or_eq_false_iff]
      exact ⟨decide_eq_false (by omega), decide_eq_false (by omega)⟩
    have tl := F.slot_tuple_mul
    by_cases h1 : k = 1
    · subst h1
      have hq : Q (.ref l) H := q l H (fun _ _ e => e) (by rw [hT]; simp)
      exact wpAny_binaryOp_repeat_ref (T := "tuple") (U := "int") (by decide) ⟨_, ho, rfl⟩ (fun s' => typeIs_int s' (1 : Nat) t) noFill_tuple_mul F.fills_int_mul F.slot_int_rmul repeat_tuple
        F.slot_int_index.lookup (call_meets F.slot_int_rmul (typeIs_int s (1 : Nat) t) F.entry_int_rmul (F.args_int_rmul_2 _ _) (int_rmul_tuple _ t l its.toArray n dd sl) ⟨ho, rfl, ⟨_, ho, rfl⟩,
          call_meets tl ⟨_, ho, rfl⟩ F.entry_tuple_mul (F.args_tuple_mul_2 _ _) (tupleMul1 l its.toArray n dd sl _ t c0 (by rw [Bool.or_eq_true]; exact .inr rfl)) ⟨ho, .ref l, H, I, rfl, hq⟩⟩)
    · have h0 : k = 0 := by omega
      subst h0
      have I2 : Inv X pins σ (upd H s.heap.objs.size (.tup [])) { s with heap := s.heap.push { cls := Value.type "tuple", data := Data.seq #[] }, toks := s.toks } :=
        I.laid (t' := s.toks) (fun b ob e => Heap.get?_push_of_some _ e) (Nat.le_refl _) ⟨Nat.zero_le _, [], .nil, IsTup.new _ _⟩
      have hq : Q (.ref s.heap.objs.size) (upd H s.heap.objs.size (.tup [])) := q _ _ (fun b o e => by rw [upd_ne (ne_of_none e (I.hok.fresh (Nat.le_refl _)))]; exact e) (by rw [upd_same]; rfl)
      exact wpAny_binaryOp_repeat_ref (T := "tuple") (U := "int") (by decide) ⟨_, ho, rfl⟩ (fun s' => typeIs_int s' (0 : Nat) t) noFill_tuple_mul F.fills_int_mul F.slot_int_rmul repeat_tuple
        F.slot_int_index.lookup (call_meets F.slot_int_rmul (typeIs_int s (0 : Nat) t) F.entry_int_rmul (F.args_int_rmul_2 _ _) (int_rmul_tuple _ t l its.toArray n dd sl) ⟨ho, rfl, ⟨_, ho, rfl⟩,
          call_meets tl ⟨_, ho, rfl⟩ F.entry_tuple_mul (F.args_tuple_mul_2 _ _) (tupleMul0 l its.toArray n dd sl _ t c0 (by rw [hn]; rfl) (by rw [Bool.or_eq_true]; exact .inl rfl)) ⟨ho, .ref _, _, I2, rfl, hq⟩⟩)
end Lk
/-! Comprehensions by what each turn brings. -/
namespace Lk
open PySem PySem.Spec PyProof.Rows L2
/-- an iterable that is known already -/
def kIt (J : It) : TI := fun _ H R => R J H
section
variable {K : PySem.W.Frag} {tl te : TE} {g : TG} {tt : TT} {vs : List Nat} {σ : L2.St} {H : Hp} {Q : VK} {a : Addr} {xs : List V}
theorem rd_lcT (h : tl σ H fun x H1 => ∃ a, x = .ref a ∧ (∃ xs, SqT K H1 a xs) ∧ tLc (kIt (Itt K a)) g tt te vs σ H1 Q) : tLc (iTup K tl) g tt te vs σ H Q := h
theorem rd_lcL (h : tl σ H fun x H1 => ∃ a, x = .ref a ∧ (∃ xs, SqL K H1 a xs) ∧ tLc (kIt (Itl K a)) g tt te vs σ H1 Q) : tLc (iList K tl) g tt te vs σ H Q := h
theorem rd_itT {B : Addr → Prop} (h : H a = some (.tup xs)) (q : B a) : ∃ a', V.ref a = .ref a' ∧ (∃ xs, SqT K H a' xs) ∧ B a' := ⟨a, rfl, ⟨xs, SqT.of h⟩, q⟩
theorem rd_itL {B : Addr → Prop} (h : H a = some (.lst xs)) (q : B a) : ∃ a', V.ref a = .ref a' ∧ (∃ xs, SqL K H a' xs) ∧ B a' := ⟨a, rfl, ⟨xs, SqL.of h⟩, q⟩
theorem rd_yes {QT : Bool → Hp → Prop} (h : QT true H) : tYes σ H QT := h
theorem rd_tupleL {A : Addr → List V → Prop} {B : Addr → List V → Prop} {p : Addr} {ys : List V} (h : H p = some (.lst ys)) (q : ∀ l, H l = none → A l ys) :
    ∃ p' ys, [V.ref p] = [.ref p'] ∧ ((SqL K H p' ys ∧ ∀ l, H l = none → A l ys) ∨ (SqT K H p' ys ∧ B p' ys)) := ⟨p, ys, rfl, .inl ⟨SqL.of h, q⟩⟩
theorem rd_tupleT {A : Addr → List V → Prop} {B : Addr → List V → Prop} {p : Addr} {ys : List V} (h : H p = some (.tup ys)) (q : B p ys) :
    ∃ p' ys, [V.ref p] = [.ref p'] ∧ ((SqL K H p' ys ∧ ∀ l, H l = none → A l ys) ∨ (SqT K H p' ys ∧ B p' ys)) := ⟨p, ys, rfl, .inr ⟨SqT.of h, q⟩⟩
theorem rd_listOf {A : Addr → List V → Prop} {p : Addr} {ys : List V} (h : Sq H p ys) (q : ∀ l, H l = none → A l ys) :
    ∃ p' ys, [V.ref p] = [.ref p'] ∧ (SqL K H p' ys ∨ SqT K H p' ys) ∧ ∀ l, H l = none → A l ys := ⟨p, ys, rfl, h.imp SqL.of SqT.of, q⟩
theorem rd_revL (h : te σ H fun x H1 => ∃ a xs, x = .ref a ∧ SqL K H1 a xs ∧ ∀ p, H1 p = none → Q (.ref p) (upd H1 p (.lst xs.reverse))) : tRevL K te σ H Q := h
theorem rd_rev {A : Addr → List V → Prop} {p : Addr} {ys : List V} (h : H p = some (.lst ys)) (q : ∀ l, H l = none → A l ys) : ∃ a xs, V.ref p = .ref a ∧ SqL K H a xs ∧ ∀ p, H p = none → A p xs := ⟨p, ys, rfl, SqL.of h, q⟩
/-- a walk over a tuple or a list of xs that stands at a -/
def Wk (K : PySem.W.Frag) (J : It) (H : Hp) (a : Addr) (xs : List V) : Prop := (J = Itt K a ∧ H a = some (.tup xs)) ∨ (J = Itl K a ∧ H a = some (.lst xs))
theorem wipe_get (σ : L2.St) : ∀ (vs : List Nat) (i : Nat), (wipe σ vs)[i]? = if i ∈ vs then (if i < σ.length then some none else none) else σ[i]?
  | [], i => by simp [wipe]
  | v :: vs, i => by
    unfold wipe
    by_cases h : v = i
    · subst h
      rw [if_pos List.mem_cons_self]
      by_cases hl : v < σ.length
      · rw [List.getElem?_set_self (by rw [wipe_length]; exact hl), if_pos hl]
      · rw [List.getElem?_eq_none (by rw [List.length_set, wipe_length]; omega), if_neg hl]
    · rw [List.getElem?_set_ne h, wipe_get σ vs i]
      have e : (i ∈ v :: vs) = (i ∈ vs) := by
        rw [List.mem_cons, eq_iff_iff]
        exact ⟨fun z => z.resolve_left fun q => h q.symm, .inr⟩
      simp only [e]
theorem wipe_eq {σ σ' : L2.St} {vs : List Nat} (l : σ'.length = σ.length) (h : ∀ i, i ∉ vs → σ'[i]? = σ[i]?) : wipe σ' vs = wipe σ vs := by
  refine List.ext_getElem? fun i => ?_
  rw [wipe_get, wipe_get, l]
  by_cases q : i ∈ vs
  · rw [if_pos q, if_pos q]
  · rw [if_neg q, if_neg q, h i q]
theorem ne_of_in {i j : Nat} {vs : List Nat} (h : i ∉ vs) (hj : j ∈ vs) : j ≠ i := fun q => h (q ▸ hj)
theorem wipe_un {vs : List Nat} {i : Nat} (h : i ∉ vs) : (wipe σ vs)[i]? = σ[i]? := by rw [wipe_get, if_neg h]
theorem wipe1 {vs : List Nat} {j : Nat} {x : Option V} (h : j ∈ vs) : wipe ((wipe σ vs).set j x) vs = wipe σ vs :=
  wipe_eq (by rw [List.length_set, wipe_length]) fun i hi => by rw [List.getElem?_set_ne (ne_of_in hi h), wipe_un hi]
theorem wipe2 {vs : List Nat} {j k : Nat} {x y : Option V} (h : j ∈ vs) (h2 : k ∈ vs) : wipe (((wipe σ vs).set j x).set k y) vs = wipe σ vs :=
  wipe_eq (by rw [List.length_set, List.length_set, wipe_length]) fun i hi => by rw [List.getElem?_set_ne (ne_of_in hi h2), List.getElem?_set_ne (ne_of_in hi h), wipe_un hi]
theorem wipe3 {vs : List Nat} {j k l : Nat} {x y z : Option V} (h : j ∈ vs) (h2 : k ∈ vs) (h3 : l ∈ vs) : wipe ((((wipe σ vs).set j x).set k y).set l z) vs = wipe σ vs :=
  wipe_eq (by rw [List.length_set, List.length_set, List.length_set, wipe_length]) fun i hi => by rw [List.getElem?_set_ne (ne_of_in hi h3), List.getElem?_set_ne (ne_of_in hi h2), List.getElem?_set_ne (ne_of_in hi h), wipe_un hi]
theorem wkT (h : H a = some (.tup xs)) : Wk K (Itt K a) H a xs := .inl ⟨rfl, h⟩
theorem wkL (h : H a = some (.lst xs)) : Wk K (Itl K a) H a xs := .inr ⟨rfl, h⟩
theorem lc_base {J : It} (w : Wk K J H a xs) (Pv : Addr → Nat → Hp → Prop) (h0 : ∀ D, H D = none → Pv D 0 (upd H D (.lst []))) (hl : ∀ D i H', H D = none → Pv D i H' → H' a = H a)
    (hs : ∀ D i x H', H D = none → xs[i]? = some x → Pv D i H' → g x (wipe σ vs) H' fun σ2 H2 => wipe σ2 vs = wipe σ vs ∧ tt σ2 H2 fun b H3 =>
      if b = true then te σ2 H3 fun y H4 => ∃ acc, H4 D = some (.lst acc) ∧ acc.length < sizeLine ∧ Pv D (i + 1) (upd H4 D (.lst (acc ++ [y]))) else Pv D (i + 1) H3)
    (hd : ∀ D H', H D = none → Pv D xs.length H' → Q (.ref D) H') : tLc (kIt J) g tt te vs σ H Q := by
  rcases w with ⟨rfl, hx⟩ | ⟨rfl, hx⟩
  · exact fun D hD => lc_tup (xs := xs) (Pv D) (h0 D hD) (fun i H' _ p => SqT.of ((hl D i H' hD p).trans hx)) (fun i x H' hi p => hs D i x H' hD hi p) (fun H' p => hd D H' hD p)
  · exact fun D hD => lc_list (xs := xs) (Pv D) (h0 D hD) (fun i H' _ p => SqL.of ((hl D i H' hD p).trans hx)) (fun i x H' hi p => hs D i x H' hD hi p) (fun H' p => hd D H' hD p)
theorem wk_there {J : It} (w : Wk K J H a xs) : ∃ o, H a = some o := by
  rcases w with ⟨_, h⟩ | ⟨_, h⟩ <;> exact ⟨_, h⟩
theorem take_snoc {α : Type} {ys : List α} {i : Nat} {y : α} (h : ys[i]? = some y) : ys.take (i + 1) = ys.take i ++ [y] := by
  rw [List.take_add_one, h]
  rfl
theorem same_at {H' H4 : Hp} {D : Addr} {o u : HO} (hD : H D = none) (s : Same H H') (h : H' D = some u) (s4 : ∀ b x, b ≠ D → H' b = some x → H4 b = some x) : Same H (upd H4 D o) := fun b x e => by
  have nb : b ≠ D := ne_of_none e hD
  rw [upd_ne nb]
  exact s4 b x nb (s b x e)
theorem ne_mem {D b : Addr} {l : List Addr} (n : D ∉ l) (h : b ∈ l) : b ≠ D := fun q => n (by rw [← q]; exact h)
/-- what a filter hands on: R stands as long as the tuples do -/
theorem lc_filt {α β : Type} {J : It} (w : Wk K J H a xs) (ys : List α) (F : α → Option β) (R : Hp → V → β → Prop) (hR : ∀ H H' v z, Ts H H' → R H v z → R H' v z) (hlen : xs.length = ys.length) (hz : xs.length ≤ 100000)
    (hs : ∀ (i : Nat) x y H' (N : V → Hp → Prop) (M : Hp → Prop), xs[i]? = some x → ys[i]? = some y → Same H H' → (∀ z v H4, F y = some z → Same H' H4 → R H4 v z → N v H4) → (∀ H3, F y = none → Same H' H3 → M H3) →
      g x (wipe σ vs) H' fun σ2 H2 => wipe σ2 vs = wipe σ vs ∧ tt σ2 H2 fun b H3 => if b = true then te σ2 H3 N else M H3)
    (hd : ∀ D acc H', H D = none → Same H H' → H' D = some (.lst acc) → F2 (R H') acc (ys.filterMap F) → Q (.ref D) H') : tLc (kIt J) g tt te vs σ H Q := by
  obtain ⟨ox, hx⟩ := wk_there w
  refine lc_base w (fun D i H' => Same H H' ∧ ∃ acc, H' D = some (.lst acc) ∧ acc.length ≤ i ∧ F2 (R H') acc ((ys.take i).filterMap F)) (fun D hD => ⟨same_new hD, [], upd_same, Nat.le_refl _, F2.nil⟩) (fun D i H' _ p => (p.1 a _ hx).trans hx.symm)
    (fun D i x H' hD hi p => ?_) (fun D H' hD p => ?_)
  · obtain ⟨s, acc, e, l, f⟩ := p
    have li := (List.getElem?_eq_some_iff.mp hi).1
    have hy : ys[i]? = some ys[i] := List.getElem?_eq_getElem (by omega)
    refine hs i x ys[i] H' _ _ hi hy s (fun z v H4 hF s4 r => ?_) (fun H3 hF s3 => ?_)
    · have tsD : Ts H4 (upd H4 D (.lst (acc ++ [v]))) := ts_upd fun zs q => by
        rw [s4 _ _ e] at q
        cases q
      refine ⟨acc, s4 _ _ e, Nat.lt_of_le_of_lt (show acc.length ≤ 100000 by omega) (by decide), same_at hD s e fun b x _ q => s4 b x q, acc ++ [v], upd_same, by rw [List.length_append, List.length_singleton]; omega, ?_⟩
      rw [take_snoc hy, List.filterMap_append, List.filterMap_cons, hF]
      exact (f.imp fun u z => hR _ _ u z ((Ts.same s4).trans tsD)).snoc (hR _ _ v z tsD r)
    · refine ⟨s.trans s3, acc, s3 _ _ e, by omega, ?_⟩
      rw [take_snoc hy, List.filterMap_append, List.filterMap_cons, hF]
      show F2 _ _ (_ ++ [])
      rw [List.append_nil]
      exact f.imp fun u z => hR _ _ u z (Ts.same s3)
  · obtain ⟨s, acc, e, _, f⟩ := p
    rw [hlen, List.take_length] at f
    exact hd D acc H' hD s e f
/-- without an if -/
theorem lc_all {α : Type} {J : It} (w : Wk K J H a xs) (ys : List α) (R : Hp → V → α → Prop) (hR : ∀ H H' v z, Ts H H' → R H v z → R H' v z) (hlen : xs.length = ys.length) (hz : xs.length ≤ 100000)
    (hs : ∀ (i : Nat) x y H' (N : V → Hp → Prop), xs[i]? = some x → ys[i]? = some y → Same H H' → (∀ v H4, Same H' H4 → R H4 v y → N v H4) → g x (wipe σ vs) H' fun σ2 H2 => wipe σ2 vs = wipe σ vs ∧ te σ2 H2 N)
    (hd : ∀ D acc H', H D = none → Same H H' → H' D = some (.lst acc) → F2 (R H') acc ys → Q (.ref D) H') : tLc (kIt J) g tYes te vs σ H Q :=
  lc_filt w ys some R hR hlen hz (fun i x y H' N M h1 h2 s k _ => hs i x y H' N h1 h2 s fun v H4 s4 r => k y v H4 rfl s4 r) fun D acc H' hD s e f => hd D acc H' hD s e (by
    have q : ys.filterMap some = ys := List.filterMap_some
    rw [q] at f
    exact f)
/-- each turn lays new things at as -/
theorem lc_new {α : Type} {J : It} (w : Wk K J H a xs) (ys : List α) (R : Hp → V → List Addr → α → Prop) (hR : ∀ H H' v as z, (∀ b, b ∈ as → H' b = H b) → R H v as z → R H' v as z) (hlen : xs.length = ys.length) (hz : xs.length ≤ 100000)
    (hs : ∀ (i : Nat) x y H' (N : V → Hp → Prop), xs[i]? = some x → ys[i]? = some y → Same H H' → (∀ v H4 as, Same H' H4 → R H4 v as y → as.Nodup → (∀ b, b ∈ as → H' b = none ∧ ∃ o, H4 b = some o) → N v H4) →
      g x (wipe σ vs) H' fun σ2 H2 => wipe σ2 vs = wipe σ vs ∧ te σ2 H2 N)
    (hd : ∀ D acc (ass : List (List Addr)) H', H D = none → Same H H' → H' D = some (.lst acc) → acc.length = ys.length → ass.length = ys.length →
      (∀ (i : Nat) v as y, acc[i]? = some v → ass[i]? = some as → ys[i]? = some y → R H' v as y) → (D :: ass.flatten).Nodup → (∀ b, b ∈ ass.flatten → H b = none ∧ ∃ o, H' b = some o) → Q (.ref D) H') : tLc (kIt J) g tYes te vs σ H Q := by
  obtain ⟨ox, hx⟩ := wk_there w
  refine lc_base w (fun D i H' => Same H H' ∧ ∃ acc, ∃ ass : List (List Addr), H' D = some (.lst acc) ∧ acc.length = i ∧ ass.length = i ∧ (∀ (j : Nat) v as y, acc[j]? = some v → ass[j]? = some as → ys[j]? = some y → R H' v as y) ∧ (D :: ass.flatten).Nodup ∧
      ∀ b, b ∈ ass.flatten → H b = none ∧ ∃ o, H' b = some o)
    (fun D hD => ⟨same_new hD, [], [], upd_same, rfl, rfl, fun j v as y h => by simp at h, by simp, fun b h => by simp at h⟩) (fun D i H' _ p => (p.1 a _ hx).trans hx.symm) (fun D i x H' hD hi p => ?_) (fun D H' hD p => ?_)
  · obtain ⟨s, acc, ass, e, l1, l2, f, nd, nw⟩ := p
    have li := (List.getElem?_eq_some_iff.mp hi).1
    have hy : ys[i]? = some ys[i] := List.getElem?_eq_getElem (by omega)
    refine hs i x ys[i] H' _ hi hy s fun v H4 as s4 r n4 w4 => ?_
    have nDas : D ∉ as := fun z => by
      rw [(w4 D z).1] at e
      cases e
    have nDfl : D ∉ ass.flatten := (List.nodup_cons.mp nd).1
    refine ⟨acc, s4 _ _ e, Nat.lt_of_le_of_lt (show acc.length ≤ 100000 by omega) (by decide), same_at hD s e fun b x _ q => s4 b x q, acc ++ [v], ass ++ [as], upd_same, by simp [l1], by simp [l2], fun j v' as' y' h1 h2 h3 => ?_, ?_, fun b hb => ?_⟩
    · by_cases hj : j < i
      · rw [List.getElem?_append_left (by omega)] at h1
        rw [List.getElem?_append_left (by omega)] at h2
        refine hR _ _ _ _ _ (fun b hb => ?_) (f j v' as' y' h1 h2 h3)
        have hbf : b ∈ ass.flatten := List.mem_flatten.mpr ⟨as', List.mem_of_getElem? h2, hb⟩
        obtain ⟨_, o, ho⟩ := nw b hbf
        rw [upd_ne (ne_mem nDfl hbf), s4 b o ho, ho]
      · rw [List.getElem?_append_right (by omega), l1] at h1
        rw [List.getElem?_append_right (by omega), l2] at h2
        have ej : j = i := by
          have := (List.getElem?_eq_some_iff.mp h1).1
          simp at this
          omega
        subst ej
        simp at h1 h2
        subst h1 h2
        rw [hy] at h3
        cases h3
        exact hR _ _ _ _ _ (fun b hb => upd_ne (ne_mem nDas hb)) r
    · rw [List.flatten_append, show ([as] : List (List Addr)).flatten = as by simp, ← List.cons_append]
      refine List.nodup_append.mpr ⟨nd, n4, fun b hb c hc q => ?_⟩
      subst q
      have hn := (w4 b hc).1
      rcases List.mem_cons.mp hb with z | z
      · rw [z, e] at hn
        cases hn
      · obtain ⟨_, o, ho⟩ := nw b z
        rw [ho] at hn
        cases hn
    · rw [List.flatten_append, show ([as] : List (List Addr)).flatten = as by simp] at hb
      rcases List.mem_append.mp hb with z | z
      · obtain ⟨h1, o, ho⟩ := nw b z
        exact ⟨h1, o, by rw [upd_ne (ne_mem nDfl z)]; exact s4 b o ho⟩
      · obtain ⟨h1, o, ho⟩ := w4 b z
        refine ⟨s.free h1, o, ?_⟩
        rw [upd_ne (ne_mem nDas z)]
        exact ho
  · obtain ⟨s, acc, ass, e, l1, l2, f, nd, nw⟩ := p
    exact hd D acc ass H' hD s e (l1.trans hlen) (l2.trans hlen) f nd nw
end
/-- places in parts that are all unlike -/
theorem flat_inj : ∀ {ass : List (List Addr)} {i j p q : Nat} {l l' : List Addr} {b : Addr}, ass.flatten.Nodup → ass[i]? = some l → ass[j]? = some l' → l[p]? = some b → l'[q]? = some b → i = j ∧ p = q
  | [], _, _, _, _, _, _, _, _, h, _, _, _ => by simp at h
  | as :: r, i, j, p, q, l, l', b, nd, h1, h2, h3, h4 => by
    rw [List.flatten_cons] at nd
    obtain ⟨n1, n2, n3⟩ := List.nodup_append.mp nd
    cases i with
    | zero =>
      simp at h1
      subst h1
      cases j with
      | zero =>
        simp at h2
        subst h2
        obtain ⟨a1, a2⟩ := List.getElem?_eq_some_iff.mp h3
        obtain ⟨b1, b2⟩ := List.getElem?_eq_some_iff.mp h4
        exact ⟨rfl, (List.getElem_inj n1).mp (a2.trans b2.symm)⟩
      | succ j =>
        simp at h2
        exact absurd rfl (n3 b (List.mem_of_getElem? h3) b (List.mem_flatten.mpr ⟨l', List.mem_of_getElem? h2, List.mem_of_getElem? h4⟩))
    | succ i =>
      simp at h1
      cases j with
      | zero =>
        simp at h2
        subst h2
        exact absurd rfl (n3 b (List.mem_of_getElem? h4) b (List.mem_flatten.mpr ⟨l, List.mem_of_getElem? h1, List.mem_of_getElem? h3⟩))
      | succ j =>
        simp at h2
        obtain ⟨e1, e2⟩ := flat_inj n2 h1 h2 h3 h4
        exact ⟨by omega, e2⟩
end Lk
local macro_rules | `(tactic| walk_at "lc") => `(tactic| repeat (first
  | ((with_reducible apply Lk.rd_var); (with_unfolding_all rfl))
  | with_reducible (first
    | refine Lk.rd_seq ?_ | refine Lk.rd_c ?_ | refine Lk.rd_cons ?_ | refine Lk.rd_nil ?_ | refine Lk.rd_op ?_ | refine Lk.rd_cb ?_
    | refine Lk.rd_add ?_ | refine Lk.rd_sub ?_ | refine Lk.rd_bool ?_ | refine Lk.rd_test ?_ | refine Lk.rd_tb ?_
    | refine Lk.rd_asg ?_ | refine Lk.rd_gname ?_ | refine Lk.rd_ret ?_ | refine Lk.rd_drop ?_ | refine Lk.rd_ifs ?_ | refine Lk.rd_ife ?_ | refine Lk.rd_un ?_ | refine Lk.rd_call ?_
    | refine Lk.rd_next ?_ | refine Lk.rd_retn ?_ | refine Lk.rd_and ?_ | refine Lk.rd_or ?_ | refine Lk.rd_not ?_ | refine Lk.rd_truei ?_ | refine Lk.rd_ntrue ?_ | refine Lk.rd_nfalse ?_ | refine Lk.rd_falsei ?_
    | refine Lk.rd_int1 ?_ | refine Lk.rd_isN ?_ | refine Lk.rd_lt ?_ | refine Lk.rd_le ?_ | refine Lk.rd_gt ?_ | refine Lk.rd_ge ?_ | refine Lk.rd_eqi ?_ | refine Lk.rd_par ?_ | refine Lk.rd_ift ?_ | refine Lk.rd_two ?_ | refine Lk.rd_fld ?_ | refine Lk.rd_sfld ?_ | refine Lk.rd_bm ?_ | refine Lk.rd_bm0 ?_ | refine Lk.rd_gsub ?_ | refine Lk.rd_gcons ?_ | refine Lk.rd_gnil ?_ | refine Lk.rd_mth ?_ | refine Lk.rd_lcT ?_ | refine Lk.rd_lcL ?_ | refine Lk.rd_yes ?_ | refine Lk.rd_revL ?_)
  | ((with_reducible apply Lk.rd_itT); assumption) | ((with_reducible apply Lk.rd_itL); assumption)
  | ((with_reducible apply Lk.rd_ix0); (first | (refine Or.inr ?_; assumption) | (refine Or.inl ?_; assumption)); (with_unfolding_all rfl))
  | ((with_reducible apply Lk.rd_ix1); (first | (refine Or.inr ?_; assumption) | (refine Or.inl ?_; assumption)); (with_unfolding_all rfl))
  | ((with_reducible apply Lk.rd_ix2); (first | (refine Or.inr ?_; assumption) | (refine Or.inl ?_; assumption)); (with_unfolding_all rfl))
  | ((with_reducible apply Lk.rd_ix3); (first | (refine Or.inr ?_; assumption) | (refine Or.inl ?_; assumption)); (with_unfolding_all rfl))
  | ((with_reducible apply Lk.rd_ix4); (first | (refine Or.inr ?_; assumption) | (refine Or.inl ?_; assumption)); (with_unfolding_all rfl))
  | ((with_reducible apply Lk.rd_ixn); (first | (refine Or.inr ?_; assumption) | (refine Or.inl ?_; assumption)); assumption)
  | ((with_reducible apply Lk.rd_fldx); assumption; assumption; assumption; (with_unfolding_all rfl))
  | ((with_reducible apply Lk.rd_mthx); assumption; (with_unfolding_all rfl))
  | ((with_reducible apply Lk.rd_tyl); assumption)
  | ((with_reducible apply Lk.rd_gtup); assumption; rfl)
  | ((with_reducible apply Lk.rd_len); (first | (refine Or.inr ?_; assumption) | (refine Or.inl ?_; assumption)))
  | ((with_reducible refine Lk.rd_eqs (b := true) ?_ ?_); decide) | ((with_reducible refine Lk.rd_eqs (b := false) ?_ ?_); decide)
  | ((with_reducible refine Lk.rd_nes (b := true) ?_ ?_); decide) | ((with_reducible refine Lk.rd_nes (b := false) ?_ ?_); decide)))
/-! The state at the beginning. -/
namespace Lk
open PySem PySem.Spec PyProof.Rows L2
def ZerAt (H : Hp) (v : V) (r : Nat × Nat) : Prop := ∃ a, v = .ref a ∧ H a = some (.tup (List.replicate r.2 (.int 0)))
def TsAt (H : Hp) (v : V) (T : Thr) : Prop := ∃ a k l, v = .ref a ∧ H a = some (.tup [.int 0, .ref k, .ref l]) ∧ H k = some (.tup []) ∧ H l = some (.tup (List.replicate T.ws.length (.int 0)))
def SAt (H : Hp) (sa : Addr) (I : Img) (inp : List (List Int)) : Prop := ∃ b r i t, H sa = some (.tup [.int 0, .ref b, .ref r, .ref i, .ref t]) ∧ H b = some (.tup (I.boxes.map fun x => V.int x.2)) ∧ TupOf ZerAt H r I.rows ∧ InpAt H i inp ∧ TupOf TsAt H t I.ths
theorem ZerAt.ts {H H' : Hp} (t : Ts H H') {v : V} {r : Nat × Nat} (h : ZerAt H v r) : ZerAt H' v r := let ⟨a, e, h⟩ := h; ⟨a, e, t _ _ h⟩
theorem TsAt.ts {H H' : Hp} (t : Ts H H') {v : V} {T : Thr} (h : TsAt H v T) : TsAt H' v T := let ⟨a, k, l, e, h1, h2, h3⟩ := h; ⟨a, k, l, e, t _ _ h1, t _ _ h2, t _ _ h3⟩
theorem flat_rep {x : V} : ∀ n : Nat, (List.replicate n [x]).flatten = List.replicate n x
  | 0 => rfl
  | n + 1 => by
    rw [List.replicate_succ, List.flatten_cons, flat_rep n, List.replicate_succ]
    rfl
theorem f2_map {α : Type} {f : α → V} : ∀ {acc : List V} {ys : List α}, F2 (fun v y => v = f y) acc ys → acc = ys.map f := fun {acc ys} h => by
  refine List.ext_getElem? fun i => ?_
  rw [List.getElem?_map]
  cases e : ys[i]? with
  | none =>
    have := List.getElem?_eq_none_iff.mp e
    exact List.getElem?_eq_none (by rw [h.1]; exact this)
  | some y =>
    obtain ⟨v, h1, h2⟩ := h.at e
    rw [h1, h2]
    rfl
def spStart : Sp := fun vs H Q _ => ∃ (ia na : Addr) (I : Img) (inp : List (List Int)), vs = [.ref ia, .ref na] ∧ ImgAt H ia I ∧ InpAt H na inp ∧ ImgOk I ∧ I.boxes.length ≤ 100000 ∧ I.rows.length ≤ 100000 ∧
  ∀ sa H', Same H H' → SAt H' sa I inp → Q (.ref sa) H'
section
variable {P : Program} {w : World} {K : PySem.W.Frag} {mg : Str → Option Value} {base : Heap}
theorem sc_start_state : FnScope ["image", "inputs", "order", "boxes", "rows", "threads", "cells", "begun", "lot", "width", "size", "widths", "code", "word"] ["image", "inputs"] (defScope S_start_state) := ⟨rfl, rfl, rfl, by decide +kernel, rfl, by decide +kernel, by decide +kernel⟩
theorem ok_start_state {f : Addr} {fd : FuncData} (F : Fun K "start_state" "start_state" S_start_state f fd) (T : Tx mg) : FnOk P w K mg base CX0 1 f fd ["image", "inputs"] spStart := by
  refine F.ok sc_start_state (fun vs H Q E h => ?_) (fun cdv A outer s H vs Q E hr h => ?_)
  · obtain ⟨_, _, _, _, rfl, _⟩ := h
    rfl
  · obtain ⟨ia, na, I, inp, rfl, M, N, O, zb, zr, k⟩ := h
    refine ⟨_, pss_cons (ps_asg (pv 0) (pg_tupK (K := K) (n := 4) rfl rfl (pgs_cons (pg_name (i := 2) sc_start_state.nd rfl (Or.inl rfl)) (pgs_cons (pg_name (i := 3) sc_start_state.nd rfl (Or.inl rfl)) (pgs_cons (pg_name (i := 4) sc_start_state.nd rfl (Or.inl rfl)) (pgs_cons (pg_name (i := 5) sc_start_state.nd rfl (Or.inl rfl)) pgs_nil)))))) (
      pss_cons (ps_set (i := 6) sc_start_state.nd rfl (Or.inl rfl) (pe_callTy (call_tupleK (K := K) rfl) (by rfl) T.tuple (by decide +kernel) (pa_cons (pe_lc (own := [("lot", 8), ("width", 9), ("size", 10)]) rfl sc_start_state.nd (pi_tupK (K := K) rfl (pv 4)) (blkOk_by (N := ["image", "inputs", "order", "boxes", "rows", "threads", "cells", "begun", "lot", "width", "size", "widths", "code", "word"]) (sc := defScope S_start_state) (by decide +kernel)) (fun _ _ _ _ _ => (pg_tupK (K := K) (n := 3) rfl rfl (pgs_cons (pg_name (i := 8) sc_start_state.nd rfl (Or.inl rfl)) (pgs_cons (pg_name (i := 9) sc_start_state.nd rfl (Or.inl rfl)) (pgs_cons (pg_name (i := 10) sc_start_state.nd rfl (Or.inl rfl)) pgs_nil))))) (fun _ _ _ _ _ => pts_nil) (fun _ _ _ _ _ => (pe_op op_repA (pe_tup (pa_cons pe_int pa_nil)) (pv 10)))) pa_nil))) (
      pss_cons (ps_set (i := 7) sc_start_state.nd rfl (Or.inl rfl) (pe_callTy (call_tupleK (K := K) rfl) (by rfl) T.tuple (by decide +kernel) (pa_cons (pe_lc (own := [("widths", 11), ("code", 12)]) rfl sc_start_state.nd (pi_tupK (K := K) rfl (pv 5)) (blkOk_by (N := ["image", "inputs", "order", "boxes", "rows", "threads", "cells", "begun", "lot", "width", "size", "widths", "code", "word"]) (sc := defScope S_start_state) (by decide +kernel)) (fun _ _ _ _ _ => (pg_tupK (K := K) (n := 2) rfl rfl (pgs_cons (pg_name (i := 11) sc_start_state.nd rfl (Or.inl rfl)) (pgs_cons (pg_name (i := 12) sc_start_state.nd rfl (Or.inl rfl)) pgs_nil)))) (fun _ _ _ _ _ => pts_nil) (fun _ _ _ _ _ => (pe_tup (pa_cons pe_int (pa_cons (pe_tup pa_nil) (pa_cons (pe_op op_repA (pe_tup (pa_cons pe_int pa_nil)) (pe_callB (call_lenK (K := K) rfl) (by rfl) T.len PySem.boot_len (pa_cons (pv 11) pa_nil))) pa_nil)))))) pa_nil))) (
      pss_one (ps_ret (pe_tup (pa_cons pe_int (pa_cons (pe_callTy (call_tupleK (K := K) rfl) (by rfl) T.tuple (by decide +kernel) (pa_cons (pe_lc (own := [("lot", 8), ("width", 9), ("word", 13)]) rfl sc_start_state.nd (pi_tupK (K := K) rfl (pv 3)) (blkOk_by (N := ["image", "inputs", "order", "boxes", "rows", "threads", "cells", "begun", "lot", "width", "size", "widths", "code", "word"]) (sc := defScope S_start_state) (by decide +kernel)) (fun _ _ _ _ _ => (pg_tupK (K := K) (n := 3) rfl rfl (pgs_cons (pg_name (i := 8) sc_start_state.nd rfl (Or.inl rfl)) (pgs_cons (pg_name (i := 9) sc_start_state.nd rfl (Or.inl rfl)) (pgs_cons (pg_name (i := 13) sc_start_state.nd rfl (Or.inl rfl)) pgs_nil))))) (fun _ _ _ _ _ => pts_nil) (fun _ _ _ _ _ => (pv 13))) pa_nil)) (pa_cons (pv 6) (pa_cons (pv 1) (pa_cons (pv 7) pa_nil)))))))))), ?_⟩
    obtain ⟨oa, ba, ra, ta, os, m1, m2, m3, ⟨bs, b1, b2⟩, ⟨rs, r1, r2⟩, ⟨ts, t1, t2⟩⟩ := M.ex
    walk_at "lc"
    -- cells
    refine lc_all (wkT r1) I.rows ZerAt (fun _ _ _ _ t h => h.ts t) r2.1 (by rw [r2.1]; exact zr) (fun i x y H' N hx hy sm kN => ?_) (fun D acc H2 hD sm e f => ?_)
    · obtain ⟨xa, l, rfl, hxa⟩ := r2.2 i x y hx hy
      have hxa' := sm _ _ hxa
      walk_at "lc"
      refine ⟨wipe3 (by decide) (by decide) (by decide), ?_⟩
      walk_at "lc"
      refine rd_tup ?_
      walk_at "lc"
      refine ⟨(by show 1 ≤ sizeLine; decide), fun p hp => ?_⟩
      walk_at "lc"
      have hy2 := (O.row i y.1 y.2 hy).2
      refine ⟨p, y.2, _, rfl, rfl, upd_same, by simp, by omega, by decide, fun q H3 s3 e3 => ?_⟩
      refine kN _ H3 ((same_new hp).trans s3) ⟨q, rfl, ?_⟩
      rw [e3, flat_rep]
    · walk_at "lc"
      refine rd_tupleL e fun ca hca => ?_
      have smc := sm.trans (same_new (o := .tup acc) hca)
      have hcells : TupOf ZerAt (upd H2 ca (.tup acc)) ca I.rows := ⟨acc, upd_same, f.imp fun _ _ h => h.ts (ts_new hca)⟩
      generalize upd H2 ca (.tup acc) = H3 at smc hcells
      have t1' := smc _ _ t1
      walk_at "lc"
      -- begun
      refine lc_all (wkT t1') I.ths TsAt (fun _ _ _ _ t h => h.ts t) t2.1 (by rw [t2.1]; exact Nat.le_trans O.ne.2 (by decide)) (fun i x y H' N hx hy sm2 kN => ?_) (fun D2 acc2 H4 hD2 sm2 e2 f2 => ?_)
      · obtain ⟨xa, wa, ca', rfl, hxa, hwa, hca'⟩ := t2.2 i x y hx hy
        have hxa' := sm2 _ _ (smc _ _ hxa)
        have hwa' := sm2 _ _ (smc _ _ hwa)
        walk_at "lc"
        refine ⟨wipe2 (by decide) (by decide), ?_⟩
        refine rd_tup ?_
        walk_at "lc"
        refine rd_tup ?_
        walk_at "lc"
        refine ⟨Nat.zero_le _, fun e0 he0 => ?_⟩
        walk_at "lc"
        refine rd_tup ?_
        walk_at "lc"
        refine ⟨(by show 1 ≤ sizeLine; decide), fun p hp => ?_⟩
        have s0 := (same_new (o := .tup []) he0).trans (same_new (o := .tup [.int 0]) hp)
        have hwa2 := s0 _ _ hwa'
        walk_at "lc"
        refine ⟨p, y.ws.length, _, rfl, by rw [List.length_map], upd_same, by simp, Nat.le_trans (O.thr i y hy).wl (by decide), by decide, fun q H5 s5 e5 => ?_⟩
        walk_at "lc"
        refine ⟨(by show 3 ≤ sizeLine; decide), fun d hd => ?_⟩
        have s6 := (s0.trans s5).trans (same_new (o := .tup [.int 0, .ref e0, .ref q]) hd)
        refine kN _ _ s6 ⟨d, e0, q, rfl, upd_same, ?_, ?_⟩
        · exact same_new hd _ _ (s5 _ _ (same_new hp _ _ upd_same))
        · rw [flat_rep] at e5
          exact same_new hd _ _ e5
      · walk_at "lc"
        refine rd_tupleL e2 fun ga hga => ?_
        have smg := (smc.trans sm2).trans (same_new (o := .tup acc2) hga)
        have smg2 := sm2.trans (same_new (o := .tup acc2) hga)
        have hbegun : TupOf TsAt (upd H4 ga (.tup acc2)) ga I.ths := ⟨acc2, upd_same, f2.imp fun _ _ h => h.ts (ts_new hga)⟩
        generalize upd H4 ga (.tup acc2) = H5 at smg smg2 hbegun
        have b1' := smg _ _ b1
        walk_at "lc"
        refine rd_tup ?_
        walk_at "lc"
        refine lc_all (wkT b1') I.boxes (fun _ v y => v = V.int y.2) (fun _ _ _ _ _ h => h) b2.1 (by rw [b2.1]; exact zb) (fun i x y H' N hx hy sm3 kN => ?_) (fun D3 acc3 H6 hD3 sm3 e3 f3 => ?_)
        · obtain ⟨xa, l, rfl, hxa⟩ := b2.2 i x y hx hy
          have hxa' := sm3 _ _ (smg _ _ hxa)
          walk_at "lc"
          refine ⟨wipe3 (by decide) (by decide) (by decide), ?_⟩
          walk_at "lc"
          exact kN _ H' (Same.refl _) rfl
        · walk_at "lc"
          refine rd_tupleL e3 fun wa hwa => ?_
          walk_at "lc"
          refine ⟨(by show 5 ≤ sizeLine; decide), fun sa hsa => ?_⟩
          have sf := (sm3.trans (same_new (o := .tup acc3) hwa)).trans (same_new (o := .tup [.int 0, .ref wa, .ref ca, .ref na, .ref ga]) hsa)
          have tf := Ts.same (smg.trans sf)
          refine k sa _ (smg.trans sf) ⟨wa, ca, na, ga, upd_same, ?_, TupOf.ts (Ts.same (smg2.trans sf)) (fun _ _ => ZerAt.ts (Ts.same (smg2.trans sf))) hcells, N.ts tf, TupOf.ts (Ts.same sf) (fun _ _ => TsAt.ts (Ts.same sf)) hbegun⟩
          rw [← f2_map f3]
          exact same_new hsa _ _ upd_same
end
end Lk
/-! A world that is made anew: its parts lie apart. -/
namespace Lk
open PySem PySem.Spec PyProof.Rows L2
def mkA (b Dr Ds Dt : Addr) (ar as_ at_ : List (List Addr)) : Lay
  | .bx => b
  | .rw => Dr
  | .sm => Ds
  | .th => Dt
  | .row i => (ar.getD i []).getD 0 0
  | .str i => (as_.getD i []).getD 0 0
  | .stk i => (at_.getD i []).getD 0 0
  | .loc i => (at_.getD i []).getD 1 0
  | .thr i => (at_.getD i []).getD 2 0
/-- where a part is found: its group, the place within (0: the group's own list) -/
def grp : Sl → Nat
  | .bx => 0
  | .rw | .row _ => 1
  | .sm | .str _ => 2
  | .th | .thr _ | .stk _ | .loc _ => 3
def RwR (H : Hp) (v : V) (l : List Addr) (r : Nat × Nat) : Prop := ∃ a, l = [a] ∧ v = .ref a ∧ H a = some (il (List.replicate r.2 0))
def SmR (H : Hp) (v : V) (l : List Addr) (y : List Int) : Prop := ∃ a, l = [a] ∧ v = .ref a ∧ H a = some (il y.reverse)
def ThR (H : Hp) (v : V) (l : List Addr) (T : Thr) : Prop := ∃ k l' t, l = [k, l', t] ∧ v = .ref t ∧ H t = some (.lst [.int 0, .ref k, .ref l']) ∧ H k = some (il []) ∧ H l' = some (il (List.replicate T.ws.length 0))
/-- a list of new things and what each of them is -/
structure Made {α : Type} (R : Hp → V → List Addr → α → Prop) (H : Hp) (D : Addr) (acc : List V) (ass : List (List Addr)) (ys : List α) : Prop where
  at_ : H D = some (.lst acc)
  l1 : acc.length = ys.length
  l2 : ass.length = ys.length
  rel : ∀ (i : Nat) v l y, acc[i]? = some v → ass[i]? = some l → ys[i]? = some y → R H v l y
theorem Made.get {α : Type} {R : Hp → V → List Addr → α → Prop} {H : Hp} {D : Addr} {acc : List V} {ass : List (List Addr)} {ys : List α} (m : Made R H D acc ass ys) {i : Nat} {y : α} (h : ys[i]? = some y) :
    ∃ v l, acc[i]? = some v ∧ ass[i]? = some l ∧ R H v l y := by
  have hi := (List.getElem?_eq_some_iff.mp h).1
  obtain ⟨v, h1⟩ : ∃ v, acc[i]? = some v := ⟨_, List.getElem?_eq_getElem (by rw [m.l1]; exact hi)⟩
  obtain ⟨l, h2⟩ : ∃ l, ass[i]? = some l := ⟨_, List.getElem?_eq_getElem (by rw [m.l2]; exact hi)⟩
  exact ⟨_, _, h1, h2, m.rel i _ _ y h1 h2 h⟩
theorem acc_eq {acc : List V} {n : Nat} {f : Nat → V} (h : acc.length = n) (g : ∀ (i : Nat) v, acc[i]? = some v → v = f i) : (List.range n).map f = acc := by
  refine List.ext_getElem? fun i => ?_
  rw [List.getElem?_map]
  by_cases hi : i < n
  · rw [List.getElem?_range hi]
    have h1 : acc[i]? = some acc[i] := List.getElem?_eq_getElem (by omega)
    rw [h1, g i _ h1]
    rfl
  · rw [List.getElem?_eq_none (show acc.length ≤ i by omega), List.getElem?_eq_none (show (List.range n).length ≤ i by rw [List.length_range]; omega)]
    rfl
section
variable {H : Hp} {I : Img} {inp : List (List Int)} {b Dr Ds Dt : Addr} {ar as_ at_ : List (List Addr)} {cr cs ct : List V}
theorem begun_th {i : Nat} {t : Th} (h : tht (begun I inp) i = some t) : ∃ T, I.ths[i]? = some T ∧ t = ⟨0, [], List.replicate T.ws.length 0⟩ := by
  have h1 := tht_some h
  have h2 : (I.ths.map fun T => some (Th.mk 0 [] (List.replicate T.ws.length 0)))[i]? = some (some t) := h1
  rw [List.getElem?_map] at h2
  cases e : I.ths[i]? with
  | none =>
    rw [e] at h2
    cases h2
  | some T =>
    rw [e] at h2
    exact ⟨T, rfl, (Option.some.inj (Option.some.inj h2)).symm⟩
theorem tht_begun {i : Nat} {T : Thr} (h : I.ths[i]? = some T) : tht (begun I inp) i = some ⟨0, [], List.replicate T.ws.length 0⟩ := by
  refine tht_of ?_
  show (I.ths.map fun T => some (Th.mk 0 [] (List.replicate T.ws.length 0)))[i]? = _
  rw [List.getElem?_map, h]
  rfl
theorem mk_at (hb : H b = some (il (I.boxes.map (·.2)))) (mr : Made RwR H Dr cr ar I.rows) (ms : Made SmR H Ds cs as_ inp) (mt : Made ThR H Dt ct at_ I.ths) :
    ∀ x o, cont (mkA b Dr Ds Dt ar as_ at_) (begun I inp) x = some o → H (mkA b Dr Ds Dt ar as_ at_ x) = some o := by
  intro x o h
  cases x with
  | bx =>
    have e : some (il (I.boxes.map (·.2))) = some o := h
    rw [← e]
    exact hb
  | rw =>
    have e : some (HO.lst (rwv (mkA b Dr Ds Dt ar as_ at_) (I.rows.map fun r => List.replicate r.2 (0 : Int)).length)) = some o := h
    rw [← e, List.length_map]
    have q : rwv (mkA b Dr Ds Dt ar as_ at_) I.rows.length = cr := acc_eq mr.l1 fun i v hv => by
      have hi : i < I.rows.length := by rw [← mr.l1]; exact (List.getElem?_eq_some_iff.mp hv).1
      obtain ⟨v', l, h1, h2, a, e1, e2, _⟩ := mr.get (List.getElem?_eq_getElem hi)
      rw [hv] at h1
      cases h1
      rw [e2]
      show V.ref a = V.ref ((ar.getD i []).getD 0 0)
      rw [getD_at h2, e1]
      rfl
    rw [q]
    exact mr.at_
  | sm =>
    have e : some (HO.lst (smv (mkA b Dr Ds Dt ar as_ at_) (inp.map List.reverse).length)) = some o := h
    rw [← e, List.length_map]
    have q : smv (mkA b Dr Ds Dt ar as_ at_) inp.length = cs := acc_eq ms.l1 fun i v hv => by
      have hi : i < inp.length := by rw [← ms.l1]; exact (List.getElem?_eq_some_iff.mp hv).1
      obtain ⟨v', l, h1, h2, a, e1, e2, _⟩ := ms.get (List.getElem?_eq_getElem hi)
      rw [hv] at h1
      cases h1
      rw [e2]
      show V.ref a = V.ref ((as_.getD i []).getD 0 0)
      rw [getD_at h2, e1]
      rfl
    rw [q]
    exact ms.at_
  | th =>
    have e : some (HO.lst (thv (mkA b Dr Ds Dt ar as_ at_) (begun I inp))) = some o := h
    rw [← e]
    have q : thv (mkA b Dr Ds Dt ar as_ at_) (begun I inp) = ct := by
      unfold thv
      refine acc_eq (mt.l1.trans (by simp [begun])) fun i v hv => ?_
      have hi : i < I.ths.length := by rw [← mt.l1]; exact (List.getElem?_eq_some_iff.mp hv).1
      obtain ⟨v', l, h1, h2, k, l', t, e1, e2, _⟩ := mt.get (List.getElem?_eq_getElem hi)
      rw [hv] at h1
      cases h1
      rw [e2, tht_begun (List.getElem?_eq_getElem hi)]
      show V.ref t = V.ref ((at_.getD i []).getD 2 0)
      rw [getD_at h2, e1]
      rfl
    rw [q]
    exact mt.at_
  | row i =>
    have e : (I.rows.map fun r => List.replicate r.2 (0 : Int))[i]?.map il = some o := h
    rw [List.getElem?_map] at e
    cases q : I.rows[i]? with
    | none =>
      rw [q] at e
      cases e
    | some r =>
      rw [q] at e
      obtain ⟨v', l, h1, h2, a, e1, e2, e3⟩ := mr.get q
      have e' : o = il (List.replicate r.2 0) := (Option.some.inj e).symm
      show H ((ar.getD i []).getD 0 0) = some o
      rw [getD_at h2, e1, e']
      exact e3
  | str i =>
    have e : (inp.map List.reverse)[i]?.map il = some o := h
    rw [List.getElem?_map] at e
    cases q : inp[i]? with
    | none =>
      rw [q] at e
      cases e
    | some r =>
      rw [q] at e
      obtain ⟨v', l, h1, h2, a, e1, e2, e3⟩ := ms.get q
      have e' : o = il r.reverse := (Option.some.inj e).symm
      show H ((as_.getD i []).getD 0 0) = some o
      rw [getD_at h2, e1, e']
      exact e3
  | thr i =>
    obtain ⟨t, h1, h2⟩ := Option.map_eq_some_iff.mp (show (tht (begun I inp) i).map _ = some o from h)
    obtain ⟨T, hT, rfl⟩ := begun_th h1
    obtain ⟨v', l, g1, g2, k, l', t', e1, e2, e3, e4, e5⟩ := mt.get hT
    rw [← h2]
    show H ((at_.getD i []).getD 2 0) = some (.lst [.int ((0 : Nat) : Int), .ref ((at_.getD i []).getD 0 0), .ref ((at_.getD i []).getD 1 0)])
    rw [getD_at g2, e1]
    exact e3
  | stk i =>
    obtain ⟨t, h1, h2⟩ := Option.map_eq_some_iff.mp (show (tht (begun I inp) i).map _ = some o from h)
    obtain ⟨T, hT, rfl⟩ := begun_th h1
    obtain ⟨v', l, g1, g2, k, l', t', e1, e2, e3, e4, e5⟩ := mt.get hT
    rw [← h2]
    show H ((at_.getD i []).getD 0 0) = some (il [])
    rw [getD_at g2, e1]
    exact e4
  | loc i =>
    obtain ⟨t, h1, h2⟩ := Option.map_eq_some_iff.mp (show (tht (begun I inp) i).map _ = some o from h)
    obtain ⟨T, hT, rfl⟩ := begun_th h1
    obtain ⟨v', l, g1, g2, k, l', t', e1, e2, e3, e4, e5⟩ := mt.get hT
    rw [← h2]
    show H ((at_.getD i []).getD 1 0) = some (il (List.replicate T.ws.length 0))
    rw [getD_at g2, e1]
    exact e5
/-- the place of a part in its group -/
def pos2 : Sl → Option (Nat × Nat)
  | .bx | .rw | .sm | .th => none
  | .row i | .str i => some (i, 0)
  | .stk i => some (i, 0)
  | .loc i => some (i, 1)
  | .thr i => some (i, 2)
def gD (b Dr Ds Dt : Addr) : Nat → Addr
  | 0 => b
  | 1 => Dr
  | 2 => Ds
  | _ => Dt
def gL (ar as_ at_ : List (List Addr)) : Nat → List (List Addr)
  | 0 => []
  | 1 => ar
  | 2 => as_
  | _ => at_
/-- a part stands as its group's own list, or at its place within -/
theorem mk_pos (mr : Made RwR H Dr cr ar I.rows) (ms : Made SmR H Ds cs as_ inp) (mt : Made ThR H Dt ct at_ I.ths) {x : Sl} {o : HO} (h : cont (mkA b Dr Ds Dt ar as_ at_) (begun I inp) x = some o) :
    match pos2 x with
    | none => mkA b Dr Ds Dt ar as_ at_ x = gD b Dr Ds Dt (grp x)
    | some (i, p) => ∃ l, (gL ar as_ at_ (grp x))[i]? = some l ∧ l[p]? = some (mkA b Dr Ds Dt ar as_ at_ x) := by
  cases x with
  | bx => rfl
  | rw => rfl
  | sm => rfl
  | th => rfl
  | row i =>
    have e : (I.rows.map fun r => List.replicate r.2 (0 : Int))[i]?.map il = some o := h
    rw [List.getElem?_map] at e
    cases q : I.rows[i]? with
    | none =>
      rw [q] at e
      cases e
    | some r =>
      obtain ⟨v', l, h1, h2, a, e1, e2, e3⟩ := mr.get q
      refine ⟨l, h2, ?_⟩
      show l[0]? = some ((ar.getD i []).getD 0 0)
      rw [getD_at h2, e1]
      rfl
  | str i =>
    have e : (inp.map List.reverse)[i]?.map il = some o := h
    rw [List.getElem?_map] at e
    cases q : inp[i]? with
    | none =>
      rw [q] at e
      cases e
    | some r =>
      obtain ⟨v', l, h1, h2, a, e1, e2, e3⟩ := ms.get q
      refine ⟨l, h2, ?_⟩
      show l[0]? = some ((as_.getD i []).getD 0 0)
      rw [getD_at h2, e1]
      rfl
  | thr i =>
    obtain ⟨t, h1, h2⟩ := Option.map_eq_some_iff.mp (show (tht (begun I inp) i).map _ = some o from h)
    obtain ⟨T, hT, rfl⟩ := begun_th h1
    obtain ⟨v', l, g1, g2, k, l', t', e1, e2, e3, e4, e5⟩ := mt.get hT
    refine ⟨l, g2, ?_⟩
    show l[2]? = some ((at_.getD i []).getD 2 0)
    rw [getD_at g2, e1]
    rfl
  | stk i =>
    obtain ⟨t, h1, h2⟩ := Option.map_eq_some_iff.mp (show (tht (begun I inp) i).map _ = some o from h)
    obtain ⟨T, hT, rfl⟩ := begun_th h1
    obtain ⟨v', l, g1, g2, k, l', t', e1, e2, e3, e4, e5⟩ := mt.get hT
    refine ⟨l, g2, ?_⟩
    show l[0]? = some ((at_.getD i []).getD 0 0)
    rw [getD_at g2, e1]
    rfl
  | loc i =>
    obtain ⟨t, h1, h2⟩ := Option.map_eq_some_iff.mp (show (tht (begun I inp) i).map _ = some o from h)
    obtain ⟨T, hT, rfl⟩ := begun_th h1
    obtain ⟨v', l, g1, g2, k, l', t', e1, e2, e3, e4, e5⟩ := mt.get hT
    refine ⟨l, g2, ?_⟩
    show l[1]? = some ((at_.getD i []).getD 1 0)
    rw [getD_at g2, e1]
    rfl
/-- the addresses of a group -/
def gAll (b Dr Ds Dt : Addr) (ar as_ at_ : List (List Addr)) (n : Nat) : List Addr := gD b Dr Ds Dt n :: (gL ar as_ at_ n).flatten
theorem mk_mem (mr : Made RwR H Dr cr ar I.rows) (ms : Made SmR H Ds cs as_ inp) (mt : Made ThR H Dt ct at_ I.ths) {x : Sl} {o : HO} (h : cont (mkA b Dr Ds Dt ar as_ at_) (begun I inp) x = some o) :
    mkA b Dr Ds Dt ar as_ at_ x ∈ gAll b Dr Ds Dt ar as_ at_ (grp x) := by
  have q := mk_pos mr ms mt h
  cases e : pos2 x with
  | none =>
    rw [e] at q
    have q' : mkA b Dr Ds Dt ar as_ at_ x = gD b Dr Ds Dt (grp x) := q
    rw [q']
    exact List.mem_cons_self
  | some p =>
    rw [e] at q
    obtain ⟨l, h1, h2⟩ := q
    exact List.mem_cons_of_mem _ (List.mem_flatten.mpr ⟨l, List.mem_of_getElem? h1, List.mem_of_getElem? h2⟩)
theorem pos2_inj {x y : Sl} (h : grp x = grp y) (e : pos2 x = pos2 y) : x = y := by
  cases x <;> cases y <;> simp [grp, pos2] at h e <;> first | rfl | (rw [e]) | omega
theorem mk_wd (hb : H b = some (il (I.boxes.map (·.2)))) (mr : Made RwR H Dr cr ar I.rows) (ms : Made SmR H Ds cs as_ inp) (mt : Made ThR H Dt ct at_ I.ths) (nd : ∀ n, (gAll b Dr Ds Dt ar as_ at_ n).Nodup)
    (dj : ∀ n m a, n < m → m < 4 → a ∈ gAll b Dr Ds Dt ar as_ at_ n → a ∈ gAll b Dr Ds Dt ar as_ at_ m → False) : Wd H (mkA b Dr Ds Dt ar as_ at_) (begun I inp) := by
  refine ⟨mk_at hb mr ms mt, fun x y ox oy hx hy he => ?_⟩
  have m1 := mk_mem mr ms mt hx
  have m2 := mk_mem mr ms mt hy
  have g4 : ∀ z : Sl, grp z < 4 := fun z => by cases z <;> (show _ < 4; simp [grp])
  have eg : grp x = grp y := by
    rcases Nat.lt_trichotomy (grp x) (grp y) with q | q | q
    · exact (dj _ _ _ q (g4 y) m1 (he ▸ m2)).elim
    · exact q
    · exact (dj _ _ _ q (g4 x) m2 (he ▸ m1)).elim
  refine pos2_inj eg ?_
  have p1 := mk_pos mr ms mt hx
  have p2 := mk_pos mr ms mt hy
  have ndx := nd (grp x)
  cases e1 : pos2 x with
  | none =>
    rw [e1] at p1
    have p1' : mkA b Dr Ds Dt ar as_ at_ x = gD b Dr Ds Dt (grp x) := p1
    cases e2 : pos2 y with
    | none => rfl
    | some q =>
      rw [e2] at p2
      obtain ⟨l, h1, h2⟩ := p2
      rw [← eg] at h1
      refine absurd (List.mem_flatten.mpr ⟨l, List.mem_of_getElem? h1, List.mem_of_getElem? h2⟩) ?_
      rw [← he, p1']
      exact (List.nodup_cons.mp ndx).1
  | some p =>
    rw [e1] at p1
    obtain ⟨l, h1, h2⟩ := p1
    cases e2 : pos2 y with
    | none =>
      rw [e2] at p2
      have p2' : mkA b Dr Ds Dt ar as_ at_ y = gD b Dr Ds Dt (grp y) := p2
      refine absurd (List.mem_flatten.mpr ⟨l, List.mem_of_getElem? h1, List.mem_of_getElem? h2⟩) ?_
      rw [he, p2', ← eg]
      exact (List.nodup_cons.mp ndx).1
    | some q =>
      rw [e2] at p2
      obtain ⟨l', h1', h2'⟩ := p2
      rw [← eg] at h1'
      rw [← he] at h2'
      obtain ⟨r1, r2⟩ := flat_inj (List.nodup_cons.mp ndx).2 h1 h1' h2 h2'
      obtain ⟨p1, p2⟩ := p
      obtain ⟨q1, q2⟩ := q
      simp only at r1 r2
      rw [r1, r2]
end
end Lk
/-! A World is made. -/
namespace Lk
open PySem PySem.Spec PyProof.Rows L2
theorem nod1 (a : Addr) : [a].Nodup := List.nodup_cons.mpr ⟨List.not_mem_nil, List.nodup_nil⟩
theorem il_rep (n : Nat) : il (List.replicate n 0) = .lst (List.replicate n (V.int 0)) := by
  show HO.lst _ = _
  rw [List.map_replicate]
theorem il_rev (y : List Int) : il y.reverse = .lst (y.map V.int).reverse := by
  show HO.lst _ = _
  rw [List.map_reverse]
theorem lt_str : ∀ {a b : Str}, decide (a = b) = false → ¬ a = b := fun h => of_decide_eq_false h
theorem wf_make (iv : V) (n : Int) (b r m t : Addr) : putF "threads" (.ref t) (putF "streams" (.ref m) (putF "rows" (.ref r) (putF "boxes" (.ref b) (putF "tick" (.int n) (putF "image" iv []))))) = wf iv n b r m t := by
  have e1 : ¬ (("image" : Str) = "tick") := by decide
  have e2 : ¬ (("image" : Str) = "boxes") := by decide
  have e3 : ¬ (("image" : Str) = "rows") := by decide
  have e4 : ¬ (("image" : Str) = "streams") := by decide
  have e5 : ¬ (("image" : Str) = "threads") := by decide
  have e6 : ¬ (("tick" : Str) = "boxes") := by decide
  have e7 : ¬ (("tick" : Str) = "rows") := by decide
  have e8 : ¬ (("tick" : Str) = "streams") := by decide
  have e9 : ¬ (("tick" : Str) = "threads") := by decide
  have e10 : ¬ (("boxes" : Str) = "rows") := by decide
  have e11 : ¬ (("boxes" : Str) = "streams") := by decide
  have e12 : ¬ (("boxes" : Str) = "threads") := by decide
  have e13 : ¬ (("rows" : Str) = "streams") := by decide
  have e14 : ¬ (("rows" : Str) = "threads") := by decide
  have e15 : ¬ (("streams" : Str) = "threads") := by decide
  simp only [putF, if_neg e1, if_neg e2, if_neg e3, if_neg e4, if_neg e5, if_neg e6, if_neg e7, if_neg e8, if_neg e9, if_neg e10, if_neg e11, if_neg e12, if_neg e13, if_neg e14, if_neg e15, wf]
def spInit (C : Addr) : Sp := fun vs H Q _ => ∃ (p ia sa : Addr) (dx : Addr) (I : Img) (inp : List (List Int)), vs = [.ref p, .ref ia, .ref sa] ∧ H p = some (.ins C dx []) ∧ SAt H sa I inp ∧ ImgOk I ∧ I.rows.length ≤ 100000 ∧ inp.length ≤ 100000 ∧
  ∀ H' A, WAt C H' p ia A (begun I inp) → Kp (· = p) H H' → (∀ a, Fp A (begun I inp) a → H a = none) → Q .non H'
section
variable {P : Program} {w : World} {K : PySem.W.Frag} {mg : Str → Option Value} {base : Heap}
theorem sc_init : FnScope ["self", "image", "state", "cells", "stream", "one"] ["self", "image", "state"] (defScope S_init) := ⟨rfl, rfl, rfl, by decide +kernel, rfl, by decide +kernel, by decide +kernel⟩
theorem ok_init {f C : Addr} {fd : FuncData} (F : Fun K "__init__" "World.__init__" S_init f fd) (T : Tx mg) (wc : Wc K mg C) : FnOk P w K mg base CX0 1 f fd ["self", "image", "state"] (spInit C) := by
  refine F.ok sc_init (fun vs H Q E h => ?_) (fun cdv A outer s H vs Q E hr h => ?_)
  · obtain ⟨_, _, _, _, _, _, rfl, _⟩ := h
    rfl
  · obtain ⟨p, ia, sa, dx, I, inp, rfl, hp, ⟨ba, ra, na, ta, s1, s2, ⟨rs, r1, r2⟩, ⟨ns, n1, n2⟩, ⟨ts, t1, t2⟩⟩, O, zr, zi, q⟩ := h
    refine ⟨_, pss_cons (ps_fld (pv 0) (pv 1) rfl) (
      pss_cons (ps_fld (pv 0) (pe_ix (ix_ltK (K := K) rfl) (pv 2) pe_int (fun _ _ => rfl)) rfl) (
      pss_cons (ps_fld (pv 0) (pe_callTy (call_listK (K := K) rfl) (by rfl) T.list (by decide +kernel) (pa_cons (pe_ix (ix_ltK (K := K) rfl) (pv 2) pe_int (fun _ _ => rfl)) pa_nil)) rfl) (
      pss_cons (ps_fld (pv 0) (pe_lc (own := [("cells", 3)]) rfl sc_init.nd (pi_tupK (K := K) rfl (pe_ix (ix_ltK (K := K) rfl) (pv 2) pe_int (fun _ _ => rfl))) (blkOk_by (N := ["self", "image", "state", "cells", "stream", "one"]) (sc := defScope S_init) (by decide +kernel)) (fun _ _ _ _ _ => (pg_name (i := 3) sc_init.nd rfl (Or.inl rfl))) (fun _ _ _ _ _ => pts_nil) (fun _ _ _ _ _ => (pe_callTy (call_listK (K := K) rfl) (by rfl) T.list (by decide +kernel) (pa_cons (pv 3) pa_nil)))) rfl) (
      pss_cons (ps_fld (pv 0) (pe_lc (own := [("stream", 4)]) rfl sc_init.nd (pi_tupK (K := K) rfl (pe_ix (ix_ltK (K := K) rfl) (pv 2) pe_int (fun _ _ => rfl))) (blkOk_by (N := ["self", "image", "state", "cells", "stream", "one"]) (sc := defScope S_init) (by decide +kernel)) (fun _ _ _ _ _ => (pg_name (i := 4) sc_init.nd rfl (Or.inl rfl))) (fun _ _ _ _ _ => pts_nil) (fun _ _ _ _ _ => (pe_revLK (K := K) rfl (pe_callTy (call_listK (K := K) rfl) (by rfl) T.list (by decide +kernel) (pa_cons (pv 4) pa_nil))))) rfl) (
      pss_one (ps_fld (pv 0) (pe_lc (own := [("one", 5)]) rfl sc_init.nd (pi_tupK (K := K) rfl (pe_ix (ix_ltK (K := K) rfl) (pv 2) pe_int (fun _ _ => rfl))) (blkOk_by (N := ["self", "image", "state", "cells", "stream", "one"]) (sc := defScope S_init) (by decide +kernel)) (fun _ _ _ _ _ => (pg_name (i := 5) sc_init.nd rfl (Or.inl rfl))) (fun _ _ _ _ _ => pts_nil) (fun _ _ _ _ _ => (pe_ifExp (pt_cmpR op_isN (pv 5) pe_non (nomark _)) pe_non (pe_lst (pa_cons (pe_ix (ix_ltK (K := K) rfl) (pv 5) pe_int (fun _ _ => rfl)) (pa_cons (pe_callTy (call_listK (K := K) rfl) (by rfl) T.list (by decide +kernel) (pa_cons (pe_ix (ix_ltK (K := K) rfl) (pv 5) pe_int (fun _ _ => rfl)) pa_nil)) (pa_cons (pe_callTy (call_listK (K := K) rfl) (by rfl) T.list (by decide +kernel) (pa_cons (pe_ix (ix_ltK (K := K) rfl) (pv 5) pe_int (fun _ _ => rfl)) pa_nil)) pa_nil))))))) rfl)))))), ?_⟩
    have hC := wc.cl
    walk_at "lc"
    refine rd_sfldx hp hC wc.nI (by show 0 < 1000; decide) ?_
    generalize e1 : upd H p _ = H1
    have k1 : Kp (· = p) H H1 := e1 ▸ kp_upd rfl
    have hp1 : H1 p = some (.ins C dx (putF "image" (.ref ia) [])) := e1 ▸ upd_same
    have tsp : ∀ {H' : Hp}, Kp (· = p) H H' → Ts H H' := fun k => k.ts fun x e ys z => by
      have e' : x = p := e
      rw [e', hp] at z
      cases z
    have s11 := tsp k1 _ _ s1
    walk_at "lc"
    refine rd_sfldx hp1 hC wc.nT (by show 1 < 1000; decide) ?_
    generalize e2 : upd H1 p _ = H2
    have k2 : Kp (· = p) H H2 := k1.tr (e2 ▸ kp_upd rfl)
    have hp2 : H2 p = some (.ins C dx (putF "tick" (.int 0) (putF "image" (.ref ia) []))) := e2 ▸ upd_same
    have s12 := tsp k2 _ _ s1
    have s22 := tsp k2 _ _ s2
    walk_at "lc"
    -- boxes
    intro b hb
    have hb0 : H b = none := by
      cases z : H b with
      | none => rfl
      | some o =>
        by_cases y : b = p
        · rw [y, hp2] at hb
          cases hb
        · rw [k2 b o z y] at hb
          cases hb
    have npb : b ≠ p := fun y => by
      rw [y, hp2] at hb
      cases hb
    walk_at "lc"
    have hp2' := same_new (o := .lst (I.boxes.map fun x => V.int x.2)) hb _ _ hp2
    refine rd_sfldx hp2' hC wc.nB (by show 2 < 1000; decide) ?_
    generalize e3 : upd (upd H2 b (.lst (I.boxes.map fun x => V.int x.2))) p _ = H3
    have k3 : Kp (· = p) H H3 := by
      rw [← e3]
      exact (k2.then_same (same_new hb)).tr (kp_upd (S := (· = p)) rfl)
    have hp3 : H3 p = some (.ins C dx (putF "boxes" (.ref b) (putF "tick" (.int 0) (putF "image" (.ref ia) [])))) := e3 ▸ upd_same
    have hb3 : H3 b = some (.lst (I.boxes.map fun x => V.int x.2)) := by
      rw [← e3, upd_ne npb, upd_same]
    have s13 := tsp k3 _ _ s1
    have r13 := tsp k3 _ _ r1
    walk_at "lc"
    -- rows
    refine lc_new (wkT r13) I.rows RwR (fun H H' v l z hl h => ?_) r2.1 (by rw [r2.1]; exact zr) (fun i x y H' N hx hy sm kN => ?_) (fun Dr cr ar H4' hDr smr hr1 lr1 lr2 fr ndr nwr => ?_)
    · obtain ⟨a, rfl, rfl, ha⟩ := h
      exact ⟨a, rfl, rfl, by rw [hl a (List.mem_singleton.mpr rfl)]; exact ha⟩
    · obtain ⟨xa, rfl, hxa⟩ := r2.2 i x y hx hy
      have hxa' := sm _ _ (tsp k3 _ _ hxa)
      walk_at "lc"
      refine ⟨wipe1 (by decide), ?_⟩
      walk_at "lc"
      intro a ha
      walk_at "lc"
      exact kN _ _ [a] (same_new ha) ⟨a, rfl, rfl, by rw [upd_same, il_rep]⟩ (nod1 _) fun c hc => by
        rw [List.mem_singleton.mp hc]
        exact ⟨ha, _, upd_same⟩
    · have mr : Made RwR H4' Dr cr ar I.rows := ⟨hr1, lr1, lr2, fr⟩
      have hp4' := smr _ _ hp3
      have pDr : ∀ a, a ∈ Dr :: ar.flatten → H3 a = none ∧ ∃ o, H4' a = some o := fun a ha => by
        rcases List.mem_cons.mp ha with z | z
        · rw [z]
          exact ⟨hDr, _, hr1⟩
        · exact nwr a z
      walk_at "lc"
      refine rd_sfldx hp4' hC wc.nR (by show 3 < 1000; decide) ?_
      generalize e4 : upd H4' p _ = H4
      have kk4 : Kp (· = p) H4' H4 := e4 ▸ kp_upd rfl
      have k34 : Kp (· = p) H3 H4 := same_then smr kk4
      have k4 : Kp (· = p) H H4 := k3.tr k34
      have hp4 : H4 p = some (.ins C dx (putF "rows" (.ref Dr) (putF "boxes" (.ref b) (putF "tick" (.int 0) (putF "image" (.ref ia) []))))) := e4 ▸ upd_same
      have s14 := tsp k4 _ _ s1
      have n14 := tsp k4 _ _ n1
      walk_at "lc"
      -- streams
      refine lc_new (wkT n14) inp SmR (fun H H' v l z hl h => ?_) n2.1 (by rw [n2.1]; exact zi) (fun i x y H' N hx hy sm kN => ?_) (fun Ds cs as_ H5' hDs sms hs1 ls1 ls2 fs nds nws => ?_)
      · obtain ⟨a, rfl, rfl, ha⟩ := h
        exact ⟨a, rfl, rfl, by rw [hl a (List.mem_singleton.mpr rfl)]; exact ha⟩
      · obtain ⟨xa, rfl, hxa⟩ := n2.2 i x y hx hy
        have hxa' := sm _ _ (tsp k4 _ _ hxa)
        walk_at "lc"
        refine ⟨wipe1 (by decide), ?_⟩
        walk_at "lc"
        intro a0 ha0
        walk_at "lc"
        refine rd_rev upd_same fun a ha => ?_
        refine kN _ _ [a] ((same_new ha0).trans (same_new ha)) ⟨a, rfl, rfl, by rw [upd_same, il_rev]⟩ (nod1 _) fun c hc => by
          rw [List.mem_singleton.mp hc]
          exact ⟨(same_new ha0).free ha, _, upd_same⟩
      · have ms : Made SmR H5' Ds cs as_ inp := ⟨hs1, ls1, ls2, fs⟩
        have hp5' := sms _ _ hp4
        have pDs : ∀ a, a ∈ Ds :: as_.flatten → H4 a = none ∧ ∃ o, H5' a = some o := fun a ha => by
          rcases List.mem_cons.mp ha with z | z
          · rw [z]
            exact ⟨hDs, _, hs1⟩
          · exact nws a z
        walk_at "lc"
        refine rd_sfldx hp5' hC wc.nS (by show 4 < 1000; decide) ?_
        generalize e5 : upd H5' p _ = H5
        have kk5 : Kp (· = p) H5' H5 := e5 ▸ kp_upd rfl
        have k45 : Kp (· = p) H4 H5 := same_then sms kk5
        have k5 : Kp (· = p) H H5 := k4.tr k45
        have hp5 : H5 p = some (.ins C dx (putF "streams" (.ref Ds) (putF "rows" (.ref Dr) (putF "boxes" (.ref b) (putF "tick" (.int 0) (putF "image" (.ref ia) [])))))) := e5 ▸ upd_same
        have s15 := tsp k5 _ _ s1
        have t15 := tsp k5 _ _ t1
        walk_at "lc"
        -- threads
        refine lc_new (wkT t15) I.ths ThR (fun H H' v l z hl h => ?_) t2.1 (by rw [t2.1]; exact Nat.le_trans O.ne.2 (by decide)) (fun i x y H' N hx hy sm kN => ?_) (fun Dt ct at_ H6' hDt smt ht1 lt1 lt2 ft ndt nwt => ?_)
        · obtain ⟨k, l', t, rfl, rfl, h1, h2, h3⟩ := h
          exact ⟨k, l', t, rfl, rfl, by rw [hl t (by simp)]; exact h1, by rw [hl k (by simp)]; exact h2, by rw [hl l' (by simp)]; exact h3⟩
        · obtain ⟨xa, ka, la, rfl, hxa, hka, hla⟩ := t2.2 i x y hx hy
          have hxa' := sm _ _ (tsp k5 _ _ hxa)
          have hka' := sm _ _ (tsp k5 _ _ hka)
          have hla' := sm _ _ (tsp k5 _ _ hla)
          walk_at "lc"
          refine ⟨wipe1 (by decide), ?_⟩
          walk_at "lc"
          refine by_test (fun h => absurd (of_decide_eq_true h) nofun) (fun _ => ?_)
          refine rd_lst ?_
          walk_at "lc"
          intro kn hkn
          have hxa2 := same_new (o := .lst []) hkn _ _ hxa'
          have hla2 := same_new (o := .lst []) hkn _ _ hla'
          walk_at "lc"
          intro ln hln
          walk_at "lc"
          refine ⟨(by show 3 ≤ sizeLine; decide), fun tn htn => ?_⟩
          have sA := (same_new (o := .lst []) hkn).trans (same_new (o := .lst (List.replicate y.ws.length (V.int 0))) hln)
          have hkt : kn ≠ tn := ne_of_none (same_new hln _ _ upd_same) htn
          have hlt : ln ≠ tn := ne_of_none upd_same htn
          have hkl : kn ≠ ln := ne_of_none upd_same hln
          refine kN _ _ [kn, ln, tn] (sA.trans (same_new htn)) ⟨kn, ln, tn, rfl, rfl, upd_same, ?_, ?_⟩ ?_ fun c hc => ?_
          · exact same_new htn _ _ (same_new hln _ _ upd_same)
          · have e0 : il (List.replicate y.ws.length 0) = .lst (List.replicate y.ws.length (V.int 0)) := by
              show HO.lst _ = _
              rw [List.map_replicate]
            rw [e0]
            exact same_new htn _ _ upd_same
          · exact List.nodup_cons.mpr ⟨by simp [hkl, hkt], List.nodup_cons.mpr ⟨by simp [hlt], nod1 _⟩⟩
          · have cases3 : c = kn ∨ c = ln ∨ c = tn := by simpa using hc
            rcases cases3 with z | z | z
            · rw [z]
              exact ⟨hkn, _, same_new htn _ _ (same_new hln _ _ upd_same)⟩
            · rw [z]
              exact ⟨(same_new hkn).free hln, _, same_new htn _ _ upd_same⟩
            · rw [z]
              exact ⟨sA.free htn, _, upd_same⟩
        · have mt : Made ThR H6' Dt ct at_ I.ths := ⟨ht1, lt1, lt2, ft⟩
          have hp6' := smt _ _ hp5
          have pDt : ∀ a, a ∈ Dt :: at_.flatten → H5 a = none ∧ ∃ o, H6' a = some o := fun a ha => by
            rcases List.mem_cons.mp ha with z | z
            · rw [z]
              exact ⟨hDt, _, ht1⟩
            · exact nwt a z
          walk_at "lc"
          refine rd_sfldx hp6' hC wc.nH (by show 5 < 1000; decide) ?_
          rw [wf_make]
          generalize e6 : upd H6' p _ = H6
          have kk6 : Kp (· = p) H6' H6 := e6 ▸ kp_upd rfl
          have k56 : Kp (· = p) H5 H6 := same_then smt kk6
          have k6 : Kp (· = p) H H6 := k5.tr k56
          have hp6 : H6 p = some (.ins C dx (wf (.ref ia) 0 b Dr Ds Dt)) := e6 ▸ upd_same
          -- none of the new ones is p
          have np : ∀ {G G' : Hp} {a : Addr} {o : HO}, G p = some o → G a = none → a ≠ p := fun h1 h2 z => by
            rw [z, h1] at h2
            cases h2
          have fr : ∀ {G : Hp} {a : Addr}, Kp (· = p) H G → a ≠ p → G a = none → H a = none := fun {G a} k n z => by
            cases y : H a with
            | none => rfl
            | some o =>
              rw [k a o y n] at z
              cases z
          have bR : ∀ a, a ∈ Dr :: ar.flatten → a ≠ p ∧ H a = none ∧ ∃ o, H4 a = some o := fun a ha => by
            obtain ⟨z1, o, z2⟩ := pDr a ha
            have n := np (G' := H) hp3 z1
            exact ⟨n, fr k3 n z1, o, kk4 a o z2 n⟩
          have bS : ∀ a, a ∈ Ds :: as_.flatten → a ≠ p ∧ H a = none ∧ H4 a = none ∧ ∃ o, H5 a = some o := fun a ha => by
            obtain ⟨z1, o, z2⟩ := pDs a ha
            have n := np (G' := H) hp4 z1
            exact ⟨n, fr k4 n z1, z1, o, kk5 a o z2 n⟩
          have bT : ∀ a, a ∈ Dt :: at_.flatten → a ≠ p ∧ H a = none ∧ H5 a = none := fun a ha => by
            obtain ⟨z1, o, z2⟩ := pDt a ha
            have n := np (G' := H) hp5 z1
            exact ⟨n, fr k5 n z1, z1⟩
          have k46 : Kp (· = p) H4' H6 := (kk4.tr k45).tr k56
          have k5'6 : Kp (· = p) H5' H6 := kk5.tr k56
          have Mr : Made RwR H6 Dr cr ar I.rows := ⟨k46 _ _ mr.at_ (bR Dr List.mem_cons_self).1, mr.l1, mr.l2, fun i v l y h1 h2 h3 => by
            obtain ⟨a, rfl, rfl, ha⟩ := mr.rel i v l y h1 h2 h3
            exact ⟨a, rfl, rfl, k46 _ _ ha (bR a (List.mem_cons_of_mem _ (List.mem_flatten.mpr ⟨_, List.mem_of_getElem? h2, List.mem_singleton.mpr rfl⟩))).1⟩⟩
          have Ms : Made SmR H6 Ds cs as_ inp := ⟨k5'6 _ _ ms.at_ (bS Ds List.mem_cons_self).1, ms.l1, ms.l2, fun i v l y h1 h2 h3 => by
            obtain ⟨a, rfl, rfl, ha⟩ := ms.rel i v l y h1 h2 h3
            exact ⟨a, rfl, rfl, k5'6 _ _ ha (bS a (List.mem_cons_of_mem _ (List.mem_flatten.mpr ⟨_, List.mem_of_getElem? h2, List.mem_singleton.mpr rfl⟩))).1⟩⟩
          have Mt : Made ThR H6 Dt ct at_ I.ths := ⟨kk6 _ _ mt.at_ (bT Dt List.mem_cons_self).1, mt.l1, mt.l2, fun i v l y h1 h2 h3 => by
            obtain ⟨k, l', t, rfl, rfl, z1, z2, z3⟩ := mt.rel i v l y h1 h2 h3
            have inn : ∀ c, c ∈ [k, l', t] → c ≠ p := fun c hc => (bT c (List.mem_cons_of_mem _ (List.mem_flatten.mpr ⟨_, List.mem_of_getElem? h2, hc⟩))).1
            exact ⟨k, l', t, rfl, rfl, kk6 _ _ z1 (inn t (by simp)), kk6 _ _ z2 (inn k (by simp)), kk6 _ _ z3 (inn l' (by simp))⟩⟩
          have hb6 : H6 b = some (il (I.boxes.map (·.2))) := by
            have e0 : il (I.boxes.map (·.2)) = .lst (I.boxes.map fun x => V.int x.2) := by
              show HO.lst _ = _
              rw [List.map_map]
              rfl
            rw [e0]
            exact (k34.tr (k45.tr k56)) _ _ hb3 npb
          have hb4 : ∃ o, H4 b = some o := ⟨_, k34 _ _ hb3 npb⟩
          have nl : ∀ {G : Hp} {a c : Addr}, (∃ o, G a = some o) → G c = none → a ≠ c := fun ⟨o, h1⟩ h2 z => by
            rw [z, h2] at h1
            cases h1
          have k4o : ∀ {a : Addr}, a ≠ p → (∃ o, H4 a = some o) → ∃ o, H5 a = some o := fun n ⟨o, h⟩ => ⟨o, k45 _ _ h n⟩
          refine q H6 (mkA b Dr Ds Dt ar as_ at_) ⟨dx, hp6, mk_wd hb6 Mr Ms Mt (fun n => ?_) (fun n m a hnm hm h1 h2 => ?_)⟩ k6 (fun a ha => ?_)
          · match n with
            | 0 => exact nod1 _
            | 1 => exact ndr
            | 2 => exact nds
            | n + 3 => exact ndt
          · have c1 : ∀ a, a ∈ gAll b Dr Ds Dt ar as_ at_ 0 → a = b := fun a h => List.mem_singleton.mp h
            match n, m, hnm, hm, h1, h2 with
            | 0, 1, _, _, h1, h2 =>
              rw [c1 a h1] at h2
              obtain ⟨z, _⟩ := pDr b h2
              rw [hb3] at z
              cases z
            | 0, 2, _, _, h1, h2 =>
              rw [c1 a h1] at h2
              exact nl hb4 (bS b h2).2.2.1 rfl
            | 0, 3, _, _, h1, h2 =>
              rw [c1 a h1] at h2
              exact nl (k4o npb hb4) (bT b h2).2.2 rfl
            | 1, 2, _, _, h1, h2 => exact nl (bR a h1).2.2 (bS a h2).2.2.1 rfl
            | 1, 3, _, _, h1, h2 => exact nl (k4o (bR a h1).1 (bR a h1).2.2) (bT a h2).2.2 rfl
            | 2, 3, _, _, h1, h2 => exact nl (bS a h1).2.2.2 (bT a h2).2.2 rfl
            | n + 3, m, y1, y2, _, _ => exact absurd y1 (by omega)
          · obtain ⟨x, o, hx, rfl⟩ := ha
            have m := mk_mem Mr Ms Mt hx
            have g4 : grp x < 4 := by cases x <;> (show _ < 4; simp [grp])
            generalize grp x = g at m g4
            generalize mkA b Dr Ds Dt ar as_ at_ x = a at m
            match g, g4, m with
            | 0, _, m =>
              rw [List.mem_singleton.mp m]
              exact hb0
            | 1, _, m => exact (bR a m).2.1
            | 2, _, m => exact (bS a m).2.1
            | 3, _, m => exact (bT a m).2.1
end
end Lk
/-! The state of a world; whether it is over. -/
namespace Lk
open PySem PySem.Spec PyProof.Rows L2
theorem rwv_get {A : Lay} {n i : Nat} {x : V} (h : (rwv A n)[i]? = some x) : i < n ∧ x = .ref (A (.row i)) := by
  have hl := (List.getElem?_eq_some_iff.mp h).1
  have hi : i < n := by simpa [rwv] using hl
  rw [rwv_at hi] at h
  exact ⟨hi, (Option.some.inj h).symm⟩
theorem smv_get {A : Lay} {n i : Nat} {x : V} (h : (smv A n)[i]? = some x) : i < n ∧ x = .ref (A (.str i)) := by
  have hl := (List.getElem?_eq_some_iff.mp h).1
  have hi : i < n := by simpa [smv] using hl
  rw [smv_at hi] at h
  exact ⟨hi, (Option.some.inj h).symm⟩
theorem thv_get {A : Lay} {s : MSt} {i : Nat} {x : V} (h : (thv A s)[i]? = some x) : i < s.ths.length ∧ x = if (tht s i).isSome then V.ref (A (.thr i)) else V.non := by
  have hl := (List.getElem?_eq_some_iff.mp h).1
  have hi : i < s.ths.length := by simpa [thv] using hl
  rw [thv_at hi] at h
  exact ⟨hi, (Option.some.inj h).symm⟩
theorem rwv_len {A : Lay} {n : Nat} : (rwv A n).length = n := by simp [rwv]
theorem smv_len {A : Lay} {n : Nat} : (smv A n).length = n := by simp [smv]
def spState (C : Addr) : Sp := fun vs H Q _ => ∃ (p ia : Addr) (A : Lay) (s : MSt), vs = [.ref p] ∧ WAt C H p ia A s ∧ s.rows.length ≤ 100000 ∧ s.ins.length ≤ 100000 ∧ s.ths.length ≤ 100000 ∧ ∀ v H', Same H H' → Q v H'
def spOver : Sp := fun vs H Q _ => ∃ (st t : Addr) (a b c d : V) (A : Lay) (s : MSt), vs = [.ref st] ∧ H st = some (.tup [a, b, c, d, .ref t]) ∧ H t = some (.lst (thv A s)) ∧ s.ths.length ≤ 100000 ∧ ∀ H', Same H H' → Q (.bl (over s)) H'
section
variable {P : Program} {w : World} {K : PySem.W.Frag} {mg : Str → Option Value} {base : Heap}
theorem sc_is_over : FnScope ["state", "thread"] ["state"] (defScope S_is_over) := ⟨rfl, rfl, rfl, by decide +kernel, rfl, by decide +kernel, by decide +kernel⟩
theorem ok_is_over {f : Addr} {fd : FuncData} (F : Fun K "is_over" "is_over" S_is_over f fd) (T : Tx mg) : FnOk P w K mg base CX0 1 f fd ["state"] spOver := by
  refine F.ok sc_is_over (fun vs H Q E h => ?_) (fun cdv A outer s H vs Q E hr h => ?_)
  · obtain ⟨_, _, _, _, _, _, _, _, rfl, _⟩ := h
    rfl
  · obtain ⟨st, t, a, b, c, d, A, s, rfl, hst, ht, hz, q⟩ := h
    refine ⟨_, pss_one (ps_ret (pe_callB (cr_all rfl) (by rfl) T.all (by decide +kernel) (pa_cons (pe_lc (own := [("thread", 1)]) rfl sc_is_over.nd (pi_listK (K := K) rfl (pe_ix (ix_ltK (K := K) rfl) (pv 0) pe_int (fun _ _ => rfl))) (blkOk_by (N := ["state", "thread"]) (sc := defScope S_is_over) (by decide +kernel)) (fun _ _ _ _ _ => (pg_name (i := 1) sc_is_over.nd rfl (Or.inl rfl))) (fun _ _ _ _ _ => pts_nil) (fun _ _ _ _ _ => (pe_cmpR op_isN (pv 1) pe_non (nomark _)))) pa_nil))), ?_⟩
    walk_at "lc"
    refine lc_all (wkL ht) s.ths (fun _ v o => v = .bl o.isNone) (fun _ _ _ _ _ h => h) thv_len (by rw [thv_len]; exact hz) (fun i x y H' N hx hy sm kN => ?_) (fun D acc H2 hD sm e f => ?_)
    · obtain ⟨hi, ex⟩ := thv_get hx
      have e : decide (x = V.non) = y.isNone := by
        cases y with
        | none =>
          rw [ex, show tht s i = none by unfold tht; rw [List.getD_eq_getElem?_getD, hy]; rfl]
          rfl
        | some u =>
          rw [ex, tht_of hy]
          rfl
      walk_at "lc"
      refine ⟨wipe1 (by decide), ?_⟩
      walk_at "lc"
      rw [e]
      exact kN _ _ (Same.refl _) rfl
    · walk_at "lc"
      have ef := f2_map f
      refine ⟨D, s.ths.map (·.isNone), rfl, SqL.of (by rw [e, ef, List.map_map]; rfl), ?_⟩
      have eo : (s.ths.map (·.isNone)).all id = over s := by
        rw [List.all_map]
        rfl
      rw [eo]
      exact q _ sm
theorem sc_state : FnScope ["self", "rows", "streams", "threads", "cells", "stream", "one"] ["self"] (defScope S_state) := ⟨rfl, rfl, rfl, by decide +kernel, rfl, by decide +kernel, by decide +kernel⟩
theorem ok_state {f C : Addr} {fd : FuncData} (F : Fun K "state" "World.state" S_state f fd) (T : Tx mg) (wc : Wc K mg C) : FnOk P w K mg base CX0 1 f fd ["self"] (spState C) := by
  refine F.ok sc_state (fun vs H Q E h => ?_) (fun cdv A outer s H vs Q E hr h => ?_)
  · obtain ⟨_, _, _, _, rfl, _⟩ := h
    rfl
  · obtain ⟨p, ia, A, s, rfl, ⟨dx, hp, W⟩, z1, z2, z3, q⟩ := h
    refine ⟨_, pss_cons (ps_set (i := 1) sc_state.nd rfl (Or.inl rfl) (pe_callTy (call_tupleK (K := K) rfl) (by rfl) T.tuple (by decide +kernel) (pa_cons (pe_lc (own := [("cells", 4)]) rfl sc_state.nd (pi_listK (K := K) rfl (pe_fld (pv 0) rfl)) (blkOk_by (N := ["self", "rows", "streams", "threads", "cells", "stream", "one"]) (sc := defScope S_state) (by decide +kernel)) (fun _ _ _ _ _ => (pg_name (i := 4) sc_state.nd rfl (Or.inl rfl))) (fun _ _ _ _ _ => pts_nil) (fun _ _ _ _ _ => (pe_callTy (call_tupleK (K := K) rfl) (by rfl) T.tuple (by decide +kernel) (pa_cons (pv 4) pa_nil)))) pa_nil))) (
      pss_cons (ps_set (i := 2) sc_state.nd rfl (Or.inl rfl) (pe_callTy (call_tupleK (K := K) rfl) (by rfl) T.tuple (by decide +kernel) (pa_cons (pe_lc (own := [("stream", 5)]) rfl sc_state.nd (pi_listK (K := K) rfl (pe_fld (pv 0) rfl)) (blkOk_by (N := ["self", "rows", "streams", "threads", "cells", "stream", "one"]) (sc := defScope S_state) (by decide +kernel)) (fun _ _ _ _ _ => (pg_name (i := 5) sc_state.nd rfl (Or.inl rfl))) (fun _ _ _ _ _ => pts_nil) (fun _ _ _ _ _ => (pe_callTy (call_tupleK (K := K) rfl) (by rfl) T.tuple (by decide +kernel) (pa_cons (pe_revLK (K := K) rfl (pv 5)) pa_nil)))) pa_nil))) (
      pss_cons (ps_setLc (i := 3) (own := [("one", 6)]) rfl sc_state.nd rfl rfl (sw_true rfl rfl rfl (by decide +kernel)) (pi_listK (K := K) rfl (pe_fld (pv 0) rfl)) (blkOk_by (N := ["self", "rows", "streams", "threads", "cells", "stream", "one"]) (sc := defScope S_state) (by decide +kernel)) (fun _ _ _ _ _ => (pg_name (i := 6) sc_state.nd rfl (Or.inl rfl))) (fun _ _ _ _ _ => pts_nil) (fun _ _ _ _ _ => (pe_ifExp (pt_cmpR op_isN (pv 6) pe_non (nomark _)) pe_non (pe_tup (pa_cons (pe_ix (ix_ltK (K := K) rfl) (pv 6) pe_int (fun _ _ => rfl)) (pa_cons (pe_callTy (call_tupleK (K := K) rfl) (by rfl) T.tuple (by decide +kernel) (pa_cons (pe_ix (ix_ltK (K := K) rfl) (pv 6) pe_int (fun _ _ => rfl)) pa_nil)) (pa_cons (pe_callTy (call_tupleK (K := K) rfl) (by rfl) T.tuple (by decide +kernel) (pa_cons (pe_ix (ix_ltK (K := K) rfl) (pv 6) pe_int (fun _ _ => rfl)) pa_nil)) pa_nil))))))) (
      pss_one (ps_ret (pe_tup (pa_cons (pe_fld (pv 0) rfl) (pa_cons (pe_callTy (call_tupleK (K := K) rfl) (by rfl) T.tuple (by decide +kernel) (pa_cons (pe_fld (pv 0) rfl) pa_nil)) (pa_cons (pv 1) (pa_cons (pv 2) (pa_cons (pe_callTy (call_tupleK (K := K) rfl) (by rfl) T.tuple (by decide +kernel) (pa_cons (pv 3) pa_nil)) pa_nil)))))))))), ?_⟩
    have hC := wc.cl
    have nT := wc.nT
    have nB := wc.nB
    have nR := wc.nR
    have nS := wc.nS
    have nH := wc.nH
    have hrw := W.rw_
    walk_at "lc"
    refine lc_all (wkL hrw) (rwv A s.rows.length) (fun _ _ _ => True) (fun _ _ _ _ _ h => h) rfl (by rw [rwv_len]; exact z1) (fun i x y H' N hx hy sm kN => ?_) (fun D1 acc1 H1 hD1 sm1 e1 f1 => ?_)
    · obtain ⟨hi, rfl⟩ := rwv_get hx
      have hr0 := sm _ _ (W.row (List.getElem?_eq_getElem hi))
      walk_at "lc"
      refine ⟨wipe1 (by decide), ?_⟩
      walk_at "lc"
      exact rd_tupleL hr0 fun l hl => kN _ _ (same_new hl) trivial
    · walk_at "lc"
      refine rd_tupleL e1 fun ra hra => ?_
      have s1 := sm1.trans (same_new (o := .tup acc1) hra)
      generalize upd H1 ra (.tup acc1) = H2 at s1
      have hp2 := s1 _ _ hp
      have hsm := s1 _ _ W.sm
      walk_at "lc"
      refine lc_all (wkL hsm) (smv A s.ins.length) (fun _ _ _ => True) (fun _ _ _ _ _ h => h) rfl (by rw [smv_len]; exact z2) (fun i x y H' N hx hy sm kN => ?_) (fun D2 acc2 H3 hD2 sm2 e2 f2 => ?_)
      · obtain ⟨hi, rfl⟩ := smv_get hx
        have hr0 := sm _ _ (s1 _ _ (W.str (List.getElem?_eq_getElem hi)))
        walk_at "lc"
        refine ⟨wipe1 (by decide), ?_⟩
        walk_at "lc"
        refine rd_rev hr0 fun a ha => ?_
        exact rd_tupleL upd_same fun l hl => kN _ _ ((same_new ha).trans (same_new hl)) trivial
      · walk_at "lc"
        refine rd_tupleL e2 fun na hna => ?_
        have s2 := (s1.trans sm2).trans (same_new (o := .tup acc2) hna)
        generalize upd H3 na (.tup acc2) = H4 at s2
        have hp4 := s2 _ _ hp
        have hth := s2 _ _ W.th
        walk_at "lc"
        refine lc_all (wkL hth) (thv A s) (fun _ _ _ => True) (fun _ _ _ _ _ h => h) rfl (by rw [thv_len]; exact z3) (fun i x y H' N hx hy sm kN => ?_) (fun D3 acc3 H5 hD3 sm3 e3 f3 => ?_)
        · obtain ⟨hi, ex⟩ := thv_get hx
          cases ht : tht s i with
          | none =>
            rw [ht] at ex
            have ex' : x = V.non := ex
            subst ex'
            walk_at "lc"
            refine ⟨wipe1 (by decide), ?_⟩
            walk_at "lc"
            refine by_test (fun _ => ?_) (fun h => absurd h (by decide))
            walk_at "lc"
            exact kN _ _ (Same.refl _) trivial
          | some t =>
            rw [ht] at ex
            have ex' : x = V.ref (A (.thr i)) := ex
            subst ex'
            have h1 := sm _ _ (s2 _ _ (W.thr ht))
            have h2 := sm _ _ (s2 _ _ (W.stk ht))
            have h3 := sm _ _ (s2 _ _ (W.loc ht))
            walk_at "lc"
            refine ⟨wipe1 (by decide), ?_⟩
            walk_at "lc"
            refine by_test (fun h => absurd (of_decide_eq_true h) nofun) (fun _ => ?_)
            refine rd_tup ?_
            walk_at "lc"
            refine rd_tupleL h2 fun k hk => ?_
            have h1' := same_new (o := .tup (t.stk.map V.int)) hk _ _ h1
            have h3' := same_new (o := .tup (t.stk.map V.int)) hk _ _ h3
            walk_at "lc"
            refine rd_tupleL h3' fun l hl => ?_
            walk_at "lc"
            refine ⟨(by show 3 ≤ sizeLine; decide), fun d hd => ?_⟩
            exact kN _ _ (((same_new hk).trans (same_new hl)).trans (same_new hd)) trivial
        · have s3 := s2.trans sm3
          have hp5 := s3 _ _ hp
          have hbx := s3 _ _ W.bx
          walk_at "lc"
          refine rd_tup ?_
          walk_at "lc"
          refine rd_tupleL hbx fun ba hba => ?_
          have e3' := same_new (o := .tup (s.boxes.map V.int)) hba _ _ e3
          walk_at "lc"
          refine rd_tupleL e3' fun ta hta => ?_
          walk_at "lc"
          refine ⟨(by show 5 ≤ sizeLine; decide), fun d hd => ?_⟩
          exact q _ _ (((s3.trans (same_new hba)).trans (same_new hta)).trans (same_new hd))
end
end Lk
/-! A world made, and its run: what stands through the turns. -/
namespace Lk
open PySem PySem.Spec PyProof.Rows L2
theorem SAt.ts {H H' : Hp} (t : Ts H H') {sa : Addr} {I : Img} {inp : List (List Int)} (h : SAt H sa I inp) : SAt H' sa I inp :=
  let ⟨b, r, i, k, h1, h2, h3, h4, h5⟩ := h
  ⟨b, r, i, k, t _ _ h1, t _ _ h2, TupOf.ts t (fun _ _ => ZerAt.ts t) h3, h4.ts t, TupOf.ts t (fun _ _ => TsAt.ts t) h5⟩
/-- World is a class that makes worlds -/
def Cw (P : Program) (w : World) (K : PySem.W.Frag) (mg : Str → Option Value) (base : Heap) (C : Addr) : Prop :=
  ∃ (f : Addr) (fd : FuncData), Mk K C f ∧ FnOk P w K mg base CX0 1 f fd ["self", "image", "state"] (spInit C) ∧ mg "World" = some (.ref C) ∧ Binds K fd ["self", "image", "state"] []
section
variable {X : Cx} {j : Nat} {C : Addr} {p pos : Pos} {e : Expr} {es : List Expr} {t : TA}
theorem pe_mkw (c : Cw X.prog X.w X.K X.mg X.base C) (hr : Room j X.A) (hk : 2 ≤ j) (hg : Gl X "World") (ha : PA X (e :: es) t)
    (he : starEach (e :: es) X.env = (false, eval e X.env) :: starEach es X.env := by rfl)
    (hpl : (backTo pos (starEach es X.env)).any (·.1) = false := by rfl) : PE X (.Call (.Name "World" p) (e :: es) [] pos) (tMake C (spInit C) [] E0 t) := by
  obtain ⟨f, fd, M, F, hm, b⟩ := c
  exact pe_make M F (hr.mono hk) hg hm b .nil pass0 ha (by decide) he hpl
end
section
variable {K : PySem.W.Frag} {σ : L2.St} {H : Hp} {Q : VK} {t : TA} {C : Addr} {I : Img} {inp : List (List Int)}
theorem rd_make {sp : Sp} {E : XK} (h : t σ H fun vs H1 => ∀ x dx, H1 x = none → H1 dx = none → dx ≠ x → sp (.ref x :: vs) (upd (upd H1 dx (.own x)) x (.ins C dx [])) (fun v H2 => v = .non ∧ Q (.ref x) H2) E) : tMake C sp [] E t σ H Q := by
  have e : (fun vs H1 => ∀ x dx, H1 x = none → H1 dx = none → dx ≠ x → sp (.ref x :: (vs ++ [])) (upd (upd H1 dx (.own x)) x (.ins C dx [])) (fun v H2 => v = .non ∧ Q (.ref x) H2) E) =
      fun vs H1 => ∀ x dx, H1 x = none → H1 dx = none → dx ≠ x → sp (.ref x :: vs) (upd (upd H1 dx (.own x)) x (.ins C dx [])) (fun v H2 => v = .non ∧ Q (.ref x) H2) E := by
    funext vs H1
    simp
  show t σ H fun vs H1 => _
  rw [← e] at h
  exact h
theorem rd_world {ia sa : Addr} {E : XK} {R : Addr → Hp → Prop} (S : SAt H sa I inp) (O : ImgOk I) (z1 : I.rows.length ≤ 100000) (z2 : inp.length ≤ 100000)
    (q : ∀ x A H', WAt C H' x ia A (begun I inp) → Same H H' → H x = none → (∀ a, Fp A (begun I inp) a → H a = none ∧ a ≠ x) → R x H') :
    ∀ x dx, H x = none → H dx = none → dx ≠ x → spInit C (.ref x :: [.ref ia, .ref sa]) (upd (upd H dx (.own x)) x (.ins C dx [])) (fun v H2 => v = .non ∧ R x H2) E := by
  intro x dx hx hdx n
  have hx1 : upd H dx (.own x) x = none := by
    rw [upd_ne (Ne.symm n)]
    exact hx
  have s1 : Same H (upd (upd H dx (.own x)) x (.ins C dx [])) := (same_new hdx).trans (same_new hx1)
  refine ⟨x, ia, sa, dx, I, inp, rfl, upd_same, S.ts (Ts.same s1), O, z1, z2, fun H' A W k fr => ⟨rfl, q x A H' W (fun b o e => ?_) hx fun a ha => ?_⟩⟩
  · exact k b o (s1 b o e) (ne_of_none e hx)
  · have h0 := fr a ha
    refine ⟨s1.free h0, fun z => ?_⟩
    rw [z, upd_same] at h0
    cases h0
end
def RecAt (H : Hp) (v : V) (r : Nat × Deed) : Prop := ∃ a x, v = .ref a ∧ H a = some (.tup [.int (r.1 : Nat), .ref x]) ∧ H x = some (.tup r.2.vs)
def RecT (H : Hp) (a : Addr) (r : Rec) : Prop := ∃ vs, H a = some (.tup vs) ∧ F2 (RecAt H) vs r
def RecL (H : Hp) (a : Addr) (r : Rec) : Prop := ∃ vs, H a = some (.lst vs) ∧ F2 (RecAt H) vs r
theorem RecAt.ts {H H' : Hp} (t : Ts H H') {v : V} {r : Nat × Deed} (h : RecAt H v r) : RecAt H' v r := let ⟨a, x, e, h1, h2⟩ := h; ⟨a, x, e, t _ _ h1, t _ _ h2⟩
theorem RecT.ts {H H' : Hp} (t : Ts H H') {a : Addr} {r : Rec} (h : RecT H a r) : RecT H' a r := let ⟨vs, e, h⟩ := h; ⟨vs, t _ _ e, h.imp fun _ _ => RecAt.ts t⟩
theorem DeedAt.ts {H H' : Hp} (t : Ts H H') {v : V} {d : Deed} (h : DeedAt H v d) : DeedAt H' v d := let ⟨a, e, h1⟩ := h; ⟨a, e, t _ _ h1⟩
/-! ### the parts do not grow -/
theorem fp_le {A : Lay} {s s' : MSt} {a : Addr} (h1 : s'.rows.length = s.rows.length) (h2 : s'.ins.length = s.ins.length) (h3 : ∀ j, (tht s' j).isSome = true → (tht s j).isSome = true) (h : Fp A s' a) : Fp A s a := by
  obtain ⟨x, o, hx, e⟩ := h
  have m : ∀ {f : Th → HO} {j : Nat} {g : Th → HO}, (tht s' j).map f = some o → ∃ o', (tht s j).map g = some o' := fun {f j g} z => by
    obtain ⟨u, hu, _⟩ := Option.map_eq_some_iff.mp z
    have := h3 j (by rw [hu]; rfl)
    obtain ⟨u', hu'⟩ := Option.isSome_iff_exists.mp this
    exact ⟨g u', by rw [hu']; rfl⟩
  have : ∃ o', cont A s x = some o' := by
    cases x with
    | thr j => exact m (show (tht s' j).map _ = some o from hx)
    | stk j => exact m (show (tht s' j).map _ = some o from hx)
    | loc j => exact m (show (tht s' j).map _ = some o from hx)
    | th => exact ⟨_, rfl⟩
    | row j =>
      obtain ⟨u, hu, _⟩ := Option.map_eq_some_iff.mp (show s'.rows[j]?.map il = some o from hx)
      have hj := (List.getElem?_eq_some_iff.mp hu).1
      exact ⟨_, by show s.rows[j]?.map il = _; rw [List.getElem?_eq_getElem (by omega)]; rfl⟩
    | str j =>
      obtain ⟨u, hu, _⟩ := Option.map_eq_some_iff.mp (show s'.ins[j]?.map il = some o from hx)
      have hj := (List.getElem?_eq_some_iff.mp hu).1
      exact ⟨_, by show s.ins[j]?.map il = _; rw [List.getElem?_eq_getElem (by omega)]; rfl⟩
    | bx => exact ⟨_, rfl⟩
    | rw => exact ⟨_, rfl⟩
    | sm => exact ⟨_, rfl⟩
  obtain ⟨o', h'⟩ := this
  exact ⟨x, o', h', e⟩
theorem tht_eq {s s' : MSt} {j : Nat} (h : s'.ths[j]? = s.ths[j]?) : tht s' j = tht s j := by
  unfold tht
  rw [List.getD_eq_getElem?_getD, List.getD_eq_getElem?_getD, h]
theorem th_step {I : Img} {s : MSt} {j : Nat} (h : (tht (step I s).1 j).isSome = true) : (tht s j).isSome = true := by
  cases e : tht s j with
  | some t => rfl
  | none =>
    have e2 : tht (step I s).1 j = none := by
      by_cases q : j = s.tick % s.ths.length
      · cases e3 : s.ths[s.tick % s.ths.length]? with
        | none =>
          have : (step I s).1 = s.next := by
            unfold step
            rw [e3]
          rw [this]
          exact e
        | some o =>
          cases o with
          | none =>
            rw [step_none rfl e3]
            exact e
          | some t =>
            rw [← q] at e3
            rw [tht_of e3] at e
            cases e
      · rw [tht_eq (step_ne I s q)]
        exact e
    rw [e2] at h
    cases h
section
variable {I : Img} {inp : List (List Int)} {s : MSt} {A : Lay}
theorem fp_step (O : ImgOk I) (S : StOk I s) {a : Addr} (h : Fp A (step I s).1 a) : Fp A s a :=
  have S' := S.step O
  fp_le (S'.rl.trans S.rl.symm) (S'.il.trans S.il.symm) (fun _ => th_step) h
theorem fp_stt (O : ImgOk I) (S : StOk I s) {a : Addr} : ∀ n, Fp A (stt I s n) a → Fp A s a
  | 0, h => h
  | n + 1, h => fp_stt O S n (fp_step O (S.stt O n) h)
structure InpOk (I : Img) (inp : List (List Int)) : Prop where
  len : inp.length = I.lv
  wk : ∀ (k : Nat) cs, inp[k]? = some cs → Woks cs
theorem woks_rep (n : Nat) : Woks (List.replicate n 0) := fun x h => by
  rw [(List.mem_replicate.mp h).2]
  exact ⟨Int.le_refl 0, by decide⟩
theorem begun_ok (O : ImgOk I) (N : InpOk I inp) : StOk I (begun I inp) := by
  refine ⟨by simp [begun], fun x h => ?_, by simp [begun], fun k cs w n h1 h2 => ?_, fun k cs h1 => ?_, by simp [begun, N.len], fun k cs h1 => ?_, by simp [begun], fun i t T h1 h2 => ?_, fun i t h1 => ?_⟩
  · obtain ⟨b, hb, rfl⟩ := List.mem_map.mp (show x ∈ I.boxes.map (·.2) from h)
    obtain ⟨k, hk⟩ := List.getElem?_of_mem hb
    exact (O.box k b.1 b.2 hk).2
  · have h1' : (I.rows.map fun r => List.replicate r.2 (0 : Int))[k]? = some cs := h1
    rw [List.getElem?_map, h2] at h1'
    cases h1'
    simp
  · have h1' : (I.rows.map fun r => List.replicate r.2 (0 : Int))[k]? = some cs := h1
    rw [List.getElem?_map] at h1'
    obtain ⟨r, _, rfl⟩ := Option.map_eq_some_iff.mp h1'
    exact woks_rep _
  · have h1' : (inp.map List.reverse)[k]? = some cs := h1
    rw [List.getElem?_map] at h1'
    obtain ⟨r, hr, rfl⟩ := Option.map_eq_some_iff.mp h1'
    exact fun x hx => N.wk k r hr x (List.mem_reverse.mp hx)
  · obtain ⟨T', hT, rfl⟩ := begun_th (tht_of h1)
    rw [h2] at hT
    cases hT
    exact ⟨(O.thr i T h2).ne, fun x h => absurd h List.not_mem_nil, by simp, woks_rep _⟩
  · obtain ⟨T', hT, rfl⟩ := begun_th (tht_of h1)
    exact Nat.zero_le _
end
theorem WAt.same {C : Addr} {H H' : Hp} {p ia : Addr} {A : Lay} {s : MSt} (W : WAt C H p ia A s) (k : Same H H') : WAt C H' p ia A s := let ⟨dx, h, w⟩ := W; ⟨dx, k _ _ h, w.same k⟩
/-- a run of a world that was made behind H0, after n ticks; its record is at f -/
structure Rn (C : Addr) (H0 H : Hp) (p ia f : Addr) (A : Lay) (I : Img) (inp : List (List Int)) (n : Nat) : Prop where
  wat : WAt C H p ia A (stt I (begun I inp) n)
  rcd : RecL H f (recs I (begun I inp) n)
  np : H0 p = none
  nf : H0 f = none
  nF : ∀ a, Fp A (begun I inp) a → H0 a = none
  fp : f ≠ p
  ff : ¬ Fp A (begun I inp) f
  sm : Same H0 H
section
variable {C : Addr} {H0 H H1 H2 : Hp} {p ia f : Addr} {A : Lay} {I : Img} {inp : List (List Int)} {n : Nat}
theorem Rn.begin (W : WAt C H p ia A (begun I inp)) (s0 : Same H0 H) (np : H0 p = none) (nF : ∀ a, Fp A (begun I inp) a → H0 a = none ∧ a ≠ p) (hf : H f = none) : Rn C H0 (upd H f (.lst [])) p ia f A I inp 0 := by
  obtain ⟨dx, hp, wd⟩ := W
  refine ⟨⟨dx, same_new hf _ _ hp, wd.same (same_new hf)⟩, ⟨[], upd_same, F2.nil⟩, np, s0.free hf, fun a h => (nF a h).1, fun z => ?_, fun h => ?_, s0.trans (same_new hf)⟩
  · rw [z, hp] at hf
    cases hf
  · obtain ⟨xs, e⟩ := fp_lst wd h
    rw [hf] at e
    cases e
theorem Rn.nw (R : Rn C H0 H p ia f A I inp n) (O : ImgOk I) (N : InpOk I inp) : ¬ Wp p A (stt I (begun I inp) n) f := fun h => h.elim R.fp fun z => R.ff (fp_stt O (begun_ok O N) n z)
theorem Rn.dx (R : Rn C H0 H p ia f A I inp n) : ∃ dx, H p = some (.ins C dx (wf (.ref ia) ((n : Nat) : Int) (A .bx) (A .rw) (A .sm) (A .th))) := by
  obtain ⟨dx, h, _⟩ := R.wat
  rw [stt_tick] at h
  have e : (begun I inp).tick + n = n := Nat.zero_add n
  rw [e] at h
  exact ⟨dx, h⟩
theorem Rn.same (R : Rn C H0 H p ia f A I inp n) (s : Same H H1) : Rn C H0 H1 p ia f A I inp n :=
  ⟨R.wat.same s, let ⟨vs, e, h⟩ := R.rcd; ⟨vs, s _ _ e, h.imp fun _ _ => RecAt.ts (Ts.same s)⟩, R.np, R.nf, R.nF, R.fp, R.ff, R.sm.trans s⟩
/-- the record behind a tick -/
theorem Rn.mid (R : Rn C H0 H p ia f A I inp n) (O : ImgOk I) (N : InpOk I inp) (k : Kp (Wp p A (stt I (begun I inp) n)) H H1) : Same H0 H1 ∧ Ts H H1 ∧ RecL H1 f (recs I (begun I inp) n) := by
  obtain ⟨dx, hp, wd⟩ := R.wat
  have t := wp_ts k hp wd
  obtain ⟨vs, e, h⟩ := R.rcd
  refine ⟨fun b o hb => k b o (R.sm b o hb) fun z => ?_, t, vs, k _ _ e (R.nw O N), h.imp fun _ _ => RecAt.ts t⟩
  rcases z with z | z
  · rw [z, R.np] at hb
    cases hb
  · rw [R.nF b (fp_stt O (begun_ok O N) n z)] at hb
    cases hb
theorem Rn.next (R : Rn C H0 H p ia f A I inp n) (O : ImgOk I) (N : InpOk I inp) (k : Kp (Wp p A (stt I (begun I inp) n)) H H1) (w1 : WAt C H1 p ia A (step I (stt I (begun I inp) n)).1) (s2 : Same H1 H2) {xs ys : List V}
    (hr : F2 (RecAt H2) xs (recs I (begun I inp) n)) (hy : F2 (RecAt H2) ys ((step I (stt I (begun I inp) n)).2.toList.map fun d => (n, d))) (hf : H2 f = some (.lst xs)) : Rn C H0 (upd H2 f (.lst (xs ++ ys))) p ia f A I inp (n + 1) := by
  obtain ⟨s01, t, _⟩ := R.mid O N k
  have kf : Kp (· = f) H2 (upd H2 f (.lst (xs ++ ys))) := kp_upd rfl
  have tf : Ts H2 (upd H2 f (.lst (xs ++ ys))) := ts_upd fun zs q => by
    rw [hf] at q
    cases q
  obtain ⟨dx, hp, wd⟩ := w1.same s2
  have tk : (stt I (begun I inp) n).tick = n := by
    rw [stt_tick]
    exact Nat.zero_add n
  refine ⟨⟨dx, kf _ _ hp fun z => R.fp z.symm, wd.kept kf fun a ha z => ?_⟩, ⟨xs ++ ys, upd_same, ?_⟩, R.np, R.nf, R.nF, R.fp, R.ff, fun b o hb => ?_⟩
  · have z' : a = f := z
    rw [z'] at ha
    exact R.ff (fp_stt O (begun_ok O N) (n + 1) ha)
  · have e : recs I (begun I inp) (n + 1) = recs I (begun I inp) n ++ (step I (stt I (begun I inp) n)).2.toList.map fun d => (n, d) := by
      show recs I (begun I inp) n ++ (step I (stt I (begun I inp) n)).2.toList.map (fun d => ((stt I (begun I inp) n).tick, d)) = _
      rw [tk]
    rw [e]
    exact (hr.app hy).imp fun _ _ => RecAt.ts tf
  · refine kf b o (s2 b o (s01 b o hb)) fun z => ?_
    have z' : b = f := z
    rw [z', R.nf] at hb
    cases hb
theorem F2.map_r {α β γ : Type} {P : α → γ → Prop} {g : β → γ} {vs : List α} {xs : List β} (h : F2 (fun v x => P v (g x)) vs xs) : F2 P vs (xs.map g) := by
  refine ⟨by rw [List.length_map]; exact h.1, fun i v x h1 h2 => ?_⟩
  rw [List.getElem?_map] at h2
  obtain ⟨y, hy, rfl⟩ := Option.map_eq_some_iff.mp h2
  exact h.2 i v y h1 hy
end
/-! ### a loop over range(n) -/
section
variable {ta : TA} {g : TG} {tb : TS} {D : Ends} {σ : L2.St} {H : Hp}
theorem rd_for1 (h : ta σ H fun vs H1 => ∃ j : Int, vs = [.int j] ∧ -(2 ^ 62) ≤ j ∧ j < 2 ^ 62 ∧ tFor (kIt (Itr 0 j.toNat)) g tb D σ H1) : tFor (iRng1 ta) g tb D σ H := h
theorem rd_rng {n : Nat} (hn : n ≤ 100000000) (Pv : Nat → L2.St → Hp → Prop) (h0 : Pv 0 σ H)
    (hs : ∀ i σ H, i < n → Pv i σ H → g (.int (i : Nat)) σ H fun σ2 H2 => tb { D with nx := Pv (i + 1), ct := Pv (i + 1), bk := D.nx } σ2 H2) (hd : ∀ σ H, Pv n σ H → D.nx σ H) :
    ∃ j : Int, [V.int (n : Nat)] = [.int j] ∧ -(2 ^ 62) ≤ j ∧ j < 2 ^ 62 ∧ tFor (kIt (Itr 0 j.toNat)) g tb D σ H := by
  refine ⟨n, rfl, by omega, by omega, for_range Pv h0 (fun i σ H hi p => ?_) fun σ H p => hd σ H (by rw [Int.toNat_natCast] at p; exact p)⟩
  rw [Int.toNat_natCast] at hi
  rw [Int.zero_add]
  exact hs i σ H hi p
end
end Lk
/-! The program's runs. -/
namespace Lk
open PySem PySem.Spec PyProof.Rows L2
def spAdvance : Sp := fun vs H Q _ => ∃ (ia sa : Addr) (I : Img) (inp : List (List Int)) (n : Nat), vs = [.ref ia, .ref sa, .int (n : Nat)] ∧ ImgAt H ia I ∧ SAt H sa I inp ∧ ImgOk I ∧ InpOk I inp ∧ I.rows.length ≤ 100000 ∧ n ≤ 1000 ∧
  ∀ H' a b v, Same H H' → H' a = some (.tup [v, .ref b]) → RecT H' b (recs I (begun I inp) n) → Q (.ref a) H'
def spRunI : Sp := fun vs H Q _ => ∃ (ia na : Addr) (I : Img) (inp : List (List Int)) (n : Nat), vs = [.ref ia, .ref na, .int (n : Nat)] ∧ ImgAt H ia I ∧ InpAt H na inp ∧ ImgOk I ∧ InpOk I inp ∧ I.boxes.length ≤ 100000 ∧ I.rows.length ≤ 100000 ∧ n ≤ 1000 ∧
  ∀ H' b, Same H H' → RecT H' b (recs I (begun I inp) n) → Q (.ref b) H'
def spWhole : Sp := fun vs H Q _ => ∃ (ia na : Addr) (I : Img) (inp : List (List Int)) (most : Nat), vs = [.ref ia, .ref na, .int (most : Nat)] ∧ ImgAt H ia I ∧ InpAt H na inp ∧ ImgOk I ∧ InpOk I inp ∧ I.boxes.length ≤ 100000 ∧ I.rows.length ≤ 100000 ∧ most ≤ 1000 ∧
  ∀ H' n, Same H H' → Ran I (begun I inp) most n → (over (stt I (begun I inp) n) = true → ∀ a b, H' a = some (.tup [.ref b, .int (n : Nat)]) → RecT H' b (recs I (begun I inp) n) → Q (.ref a) H') ∧ (over (stt I (begun I inp) n) = false → Q .non H')
def spDeeds : Sp := fun vs H Q _ => ∃ (ra : Addr) (r : Rec) (i m : Nat), vs = [.ref ra, .int (i : Nat), .int (m : Nat)] ∧ RecT H ra r ∧ r.length ≤ 100000 ∧ 0 < m ∧ m ≤ 1000 ∧ ∀ H' a, Same H H' → RecT H' a (deeds m i r) → Q (.ref a) H'
section
variable {P : Program} {w : World} {K : PySem.W.Frag} {mg : Str → Option Value} {base : Heap}
theorem sc_thread_deeds : FnScope ["record", "thread", "many", "tick", "deed"] ["record", "thread", "many"] (defScope S_thread_deeds) := ⟨rfl, rfl, rfl, by decide +kernel, rfl, by decide +kernel, by decide +kernel⟩
theorem ok_thread_deeds {f : Addr} {fd : FuncData} (F : Fun K "thread_deeds" "thread_deeds" S_thread_deeds f fd) (T : Tx mg) : FnOk P w K mg base CX0 1 f fd ["record", "thread", "many"] spDeeds := by
  refine F.ok sc_thread_deeds (fun vs H Q E h => ?_) (fun cdv A outer s H vs Q E hr h => ?_)
  · obtain ⟨_, _, _, _, rfl, _⟩ := h
    rfl
  · obtain ⟨ra, r, i, m, rfl, ⟨rv, r1, r2⟩, hz, hm, hm2, q⟩ := h
    refine ⟨_, pss_one (ps_ret (pe_callTy (call_tupleK (K := K) rfl) (by rfl) T.tuple (by decide +kernel) (pa_cons (pe_lc (own := [("tick", 3), ("deed", 4)]) rfl sc_thread_deeds.nd (pi_tupK (K := K) rfl (pv 0)) (blkOk_by (N := ["record", "thread", "many", "tick", "deed"]) (sc := defScope S_thread_deeds) (by decide +kernel)) (fun _ _ _ _ _ => (pg_tupK (K := K) (n := 2) rfl rfl (pgs_cons (pg_name (i := 3) sc_thread_deeds.nd rfl (Or.inl rfl)) (pgs_cons (pg_name (i := 4) sc_thread_deeds.nd rfl (Or.inl rfl)) pgs_nil)))) (fun _ _ _ _ _ => (pts_one (pt_cmpR op_eq (pe_op op_mod (pv 3) (pv 2)) (pv 1) (nomark _)))) (fun _ _ _ _ _ => (pe_tup (pa_cons (pe_op op_fdiv (pv 3) (pv 2)) (pa_cons (pv 4) pa_nil))))) pa_nil))), ?_⟩
    walk_at "lc"
    refine lc_filt (wkT r1) r (fun p => if p.1 % m = i then some (p.1 / m, p.2) else none) RecAt (fun _ _ _ _ t h => h.ts t) r2.1 (by rw [r2.1]; exact hz) (fun j x y H' N M hx hy sm kN kM => ?_) (fun D acc H2 hD sm e f => ?_)
    · obtain ⟨a, xa, rfl, h1, h2⟩ := r2.2 j x y hx hy
      have h1' := sm _ _ h1
      walk_at "lc"
      refine ⟨wipe2 (by decide) (by decide), ?_⟩
      walk_at "lc"
      refine rd_mod (by omega) ?_
      walk_at "lc"
      refine by_test (fun h => ?_) (fun h => ?_)
      · have h := of_decide_eq_true h
        have e : y.1 % m = i := by
          have z : ((y.1 % m : Nat) : Int) = (i : Nat) := by rw [Int.natCast_emod]; exact h
          exact Int.ofNat.inj z
        refine rd_tup ?_
        walk_at "lc"
        refine rd_fdiv (by omega) (by omega) ?_
        walk_at "lc"
        refine ⟨(by show 2 ≤ sizeLine; decide), fun p hp => ?_⟩
        have e2 : (if y.1 % m = i then some (y.1 / m, y.2) else none) = some (y.1 / m, y.2) := if_pos e
        refine kN _ _ _ e2 (same_new hp) ⟨p, xa, rfl, ?_, same_new hp _ _ (sm _ _ h2)⟩
        show upd _ _ _ _ = some (HO.tup [.int ((y.1 / m : Nat) : Int), .ref xa])
        rw [Int.natCast_ediv]
        exact upd_same
      · have h := of_decide_eq_false h
        refine kM _ (if_neg fun z => h ?_) (Same.refl _)
        rw [← z, Int.natCast_emod]
    · walk_at "lc"
      refine rd_tupleL e fun b hb => ?_
      exact q _ b (sm.trans (same_new hb)) ⟨acc, upd_same, f.imp fun _ _ => RecAt.ts (ts_new hb)⟩
theorem sc_advance : FnScope ["image", "state", "ticks", "world", "found", "turn", "tick", "deed"] ["image", "state", "ticks"] (defScope S_advance) := ⟨rfl, rfl, rfl, by decide +kernel, rfl, by decide +kernel, by decide +kernel⟩
theorem ok_advance {f C : Addr} {fd : FuncData} (F : Fun K "advance" "advance" S_advance f fd) (T : Tx mg) (wc : Wc K mg C) (c_World : Cw P w K mg base C) (c_one_tick : Mt P w K mg base 4 C "one_tick" ["self"] (spTick C))
    (c_state : Mt P w K mg base 1 C "state" ["self"] (spState C)) : FnOk P w K mg base CX0 5 f fd ["image", "state", "ticks"] spAdvance := by
  refine F.ok sc_advance (fun vs H Q E h => ?_) (fun cdv A outer s H vs Q E hr h => ?_)
  · obtain ⟨_, _, _, _, _, rfl, _⟩ := h
    rfl
  · obtain ⟨ia, sa, I, inp, n, rfl, M, S, O, N, zr, hn, q⟩ := h
    refine ⟨_, pss_cons (ps_par (i := 3) (j := 4) rfl sc_advance.nd rfl rfl (by decide) rfl rfl (pa_cons (pe_mkw c_World hr (by decide) (by rfl) (pa_cons (pv 0) (pa_cons (pv 1) pa_nil))) (pa_cons (pe_lst pa_nil) pa_nil)) (by rfl)) (
      pss_cons (ps_for PassesOwn.never rfl (pi_range1 (by rfl) T.range (pa_cons (pv 2) pa_nil)) (pg_name (i := 5) sc_advance.nd rfl (Or.inl rfl)) (pss_cons (ps_set (i := 6) sc_advance.nd rfl (Or.inr rfl) (pe_fld (pv 3) rfl)) (pss_one (ps_expr (pe_bm PySem.F.plainAttrs_list PySem.F.slot_list_extend PySem.F.type_list_extend  mt_extend (pv 4) (pa_cons (pe_lc (own := [("deed", 7)]) rfl sc_advance.nd (pi_tupK (K := K) rfl (pe_mt0 c_one_tick hr (by decide) (pv 3))) (blkOk_by (N := ["image", "state", "ticks", "world", "found", "turn", "tick", "deed"]) (sc := defScope S_advance) (by decide +kernel)) (fun _ _ _ _ _ => (pg_name (i := 7) sc_advance.nd rfl (Or.inl rfl))) (fun _ _ _ _ _ => pts_nil) (fun _ _ _ _ _ => (pe_tup (pa_cons (pv 6) (pa_cons (pv 7) pa_nil))))) pa_nil)))))) (
      pss_one (ps_ret (pe_tup (pa_cons (pe_mt0 c_state hr (by decide) (pv 3)) (pa_cons (pe_callTy (call_tupleK (K := K) rfl) (by rfl) T.tuple (by decide +kernel) (pa_cons (pv 4) pa_nil)) pa_nil)))))), ?_⟩
    have hC := wc.cl
    have nT := wc.nT
    have zi : inp.length ≤ 100000 := by rw [N.len]; exact Nat.le_trans O.lv.2 (by decide)
    walk_at "lc"
    refine rd_make ?_
    walk_at "lc"
    refine rd_world S O zr zi fun p A H1 W1 s1 np nF => ?_
    walk_at "lc"
    refine rd_lst ?_
    walk_at "lc"
    refine ⟨Nat.zero_le _, fun f hf => ?_⟩
    walk_at "lc"
    have R0 := Rn.begin W1 s1 np nF hf
    generalize upd H1 f (.lst []) = H2 at R0
    refine rd_for1 ?_
    walk_at "lc"
    refine rd_rng (by omega) (fun i σ H' => (∃ t5 t6 t7, σ = [some (.ref ia), some (.ref sa), some (.int (n : Nat)), some (.ref p), some (.ref f), t5, t6, t7]) ∧ Rn C H H' p ia f A I inp i) ⟨⟨none, none, none, rfl⟩, R0⟩ (fun i σ H3 hi h => ?_) (fun σ H3 h => ?_)
    · obtain ⟨⟨t5, t6, t7, rfl⟩, R⟩ := h
      obtain ⟨dx, hp⟩ := R.dx
      have hS := (begun_ok O N).stt O i
      have tk : (stt I (begun I inp) i).tick ≤ 1000 := by
        rw [stt_tick]
        show 0 + i ≤ 1000
        omega
      obtain ⟨xs0, hf0, hr0⟩ := R.rcd
      walk_at "lc"
      refine ⟨p, ia, A, I, stt I (begun I inp) i, rfl, R.wat, M.ts (Ts.same R.sm), O, hS, tk, fun H4 d W4 D4 k4 => ?_⟩
      obtain ⟨s4, t4, xs, hf4, hr4⟩ := R.mid O N k4
      obtain ⟨dv, hd4, hdv⟩ := D4
      walk_at "lc"
      refine lc_all (wkT hd4) (step I (stt I (begun I inp) i)).2.toList (fun H v d => RecAt H v (i, d)) (fun _ _ _ _ t h => h.ts t) hdv.1 (by rw [hdv.1]; cases (step I (stt I (begun I inp) i)).2 <;> simp) (fun j x y H' N' hx hy sm kN => ?_) (fun D acc H5 hD sm e fa => ?_)
      · obtain ⟨xa, rfl, hxa⟩ := hdv.2 j x y hx hy
        walk_at "lc"
        refine ⟨wipe1 (by decide), ?_⟩
        refine rd_tup ?_
        walk_at "lc"
        refine ⟨(by show 2 ≤ sizeLine; decide), fun c hc => ?_⟩
        exact kN _ _ (same_new hc) ⟨c, xa, rfl, upd_same, same_new hc _ _ (sm _ _ hxa)⟩
      · have hf5 := sm _ _ hf4
        walk_at "lc"
        have l1 := recs_len I (begun I inp) i
        have l2 : acc.length ≤ 1 := by rw [fa.1]; cases (step I (stt I (begun I inp) i)).2 <;> simp
        refine rd_extend hf5 e (Nat.le_trans (show xs.length + acc.length ≤ 2000 by rw [hr4.1]; omega) (by decide)) ?_
        walk_at "lc"
        refine ⟨⟨_, _, _, rfl⟩, R.next O N k4 W4 sm (hr4.imp fun _ _ => RecAt.ts (Ts.same sm)) fa.map_r hf5⟩
    · obtain ⟨⟨t5, t6, t7, rfl⟩, R⟩ := h
      have hS := (begun_ok O N).stt O n
      obtain ⟨dx, hp⟩ := R.dx
      walk_at "lc"
      refine rd_tup ?_
      walk_at "lc"
      refine ⟨p, ia, A, _, rfl, R.wat, by rw [hS.rl]; exact zr, by rw [hS.il]; exact Nat.le_trans O.lv.2 (by decide), by rw [hS.tl]; exact Nat.le_trans O.ne.2 (by decide), fun v H4 s4 => ?_⟩
      obtain ⟨xs, hf3, hr3⟩ := (R.same s4).rcd
      walk_at "lc"
      refine rd_tupleL hf3 fun b hb => ?_
      walk_at "lc"
      refine ⟨(by show 2 ≤ sizeLine; decide), fun a ha => ?_⟩
      refine q _ a b v (((R.sm.trans s4).trans (same_new hb)).trans (same_new ha)) upd_same ⟨xs, same_new ha _ _ upd_same, hr3.imp fun _ _ => RecAt.ts ((ts_new hb).trans (ts_new ha))⟩
theorem sc_run_image : FnScope ["image", "inputs", "ticks"] ["image", "inputs", "ticks"] (defScope S_run_image) := ⟨rfl, rfl, rfl, by decide +kernel, rfl, by decide +kernel, by decide +kernel⟩
theorem ok_run_image {f : Addr} {fd : FuncData} (F : Fun K "run_image" "run_image" S_run_image f fd) (T : Tx mg) (c_advance : Cl P w K mg base 5 "advance" ["image", "state", "ticks"] spAdvance) (c_start_state : Cl P w K mg base 1 "start_state" ["image", "inputs"] spStart) :
    FnOk P w K mg base CX0 6 f fd ["image", "inputs", "ticks"] spRunI := by
  refine F.ok sc_run_image (fun vs H Q E h => ?_) (fun cdv A outer s H vs Q E hr h => ?_)
  · obtain ⟨_, _, _, _, _, rfl, _⟩ := h
    rfl
  · obtain ⟨ia, na, I, inp, n, rfl, M, D, O, N, zb, zr, hn, q⟩ := h
    refine ⟨_, pss_one (ps_ret (pe_ix (ix_ltK (K := K) rfl) (pe_cl c_advance hr (by decide) (by rfl) (pa_cons (pv 0) (pa_cons (pe_cl c_start_state hr (by decide) (by rfl) (pa_cons (pv 0) (pa_cons (pv 1) pa_nil))) (pa_cons (pv 2) pa_nil)))) pe_int (fun _ _ => rfl))), ?_⟩
    walk_at "lc"
    refine ⟨ia, na, I, inp, rfl, M, D, O, zb, zr, fun sa H1 s1 S1 => ?_⟩
    walk_at "lc"
    refine ⟨ia, sa, I, inp, n, rfl, M.ts (Ts.same s1), S1, O, N, zr, hn, fun H2 a b v s2 ha hb => ?_⟩
    walk_at "lc"
    exact q _ b (s1.trans s2) hb
end
end Lk
/-! A whole run. -/
namespace Lk
open PySem PySem.Spec PyProof.Rows L2
section
variable {c : TT} {tb : TS} {D : Ends} {σ : L2.St} {H : Hp}
theorem rd_whileF (Fv : L2.St → Hp → Prop) (hf : ∀ σ H, Fv σ H → D.nx σ H) (hw : (∀ σ H, Fv σ H → D.nx σ H) → tWhile c tb D σ H) : tWhile c tb D σ H := hw hf
theorem rd_while (W : Nat → L2.St → Hp → Prop) (h0 : ∃ m, W m σ H) (hs : ∀ m σ H, W m σ H → c σ H fun b H1 => if b = true then ∃ N : L2.St → Hp → Prop, (∀ σ' H', N σ' H' → ∃ m', m' < m ∧ W m' σ' H') ∧ tb { D with nx := N, ct := N, bk := D.nx } σ H1 else D.nx σ H1) : tWhile c tb D σ H := ⟨W, h0, hs⟩
end
section
variable {P : Program} {w : World} {K : PySem.W.Frag} {mg : Str → Option Value} {base : Heap}
theorem sc_whole_run : FnScope ["image", "inputs", "most", "world", "found", "tick", "deed"] ["image", "inputs", "most"] (defScope S_whole_run) := ⟨rfl, rfl, rfl, by decide +kernel, rfl, by decide +kernel, by decide +kernel⟩
theorem ok_whole_run {f C : Addr} {fd : FuncData} (F : Fun K "whole_run" "whole_run" S_whole_run f fd) (T : Tx mg) (wc : Wc K mg C) (c_World : Cw P w K mg base C) (c_one_tick : Mt P w K mg base 4 C "one_tick" ["self"] (spTick C))
    (c_is_over : Cl P w K mg base 1 "is_over" ["state"] spOver) (c_start_state : Cl P w K mg base 1 "start_state" ["image", "inputs"] spStart) : FnOk P w K mg base CX0 5 f fd ["image", "inputs", "most"] spWhole := by
  refine F.ok sc_whole_run (fun vs H Q E h => ?_) (fun cdv A outer s H vs Q E hr h => ?_)
  · obtain ⟨_, _, _, _, _, rfl, _⟩ := h
    rfl
  · obtain ⟨ia, na, I, inp, most, rfl, M, V0, O, N, zb, zr, hn, q⟩ := h
    refine ⟨_, pss_cons (ps_par (i := 3) (j := 4) rfl sc_whole_run.nd rfl rfl (by decide) rfl rfl (pa_cons (pe_mkw c_World hr (by decide) (by rfl) (pa_cons (pv 0) (pa_cons (pe_cl c_start_state hr (by decide) (by rfl) (pa_cons (pv 0) (pa_cons (pv 1) pa_nil))) pa_nil))) (pa_cons (pe_lst pa_nil) pa_nil)) (by rfl)) (
      pss_cons (ps_while PassesOwn.never (PW.pt (pw_and (pt_cmpR op_lt (pe_fld (pv 3) rfl) (pv 2) (nomark _)) (pw_and1 (pt_not (pt_val (pe_cl c_is_over hr (by decide) (by rfl) (pa_cons (pe_tup (pa_cons pe_int (pa_cons pe_int (pa_cons pe_int (pa_cons pe_int (pa_cons (pe_fld (pv 3) rfl) pa_nil)))))) pa_nil))))))) (pss_cons (ps_set (i := 5) sc_whole_run.nd rfl (Or.inr rfl) (pe_fld (pv 3) rfl)) (pss_one (ps_expr (pe_bm PySem.F.plainAttrs_list PySem.F.slot_list_extend PySem.F.type_list_extend  mt_extend (pv 4) (pa_cons (pe_lc (own := [("deed", 6)]) rfl sc_whole_run.nd (pi_tupK (K := K) rfl (pe_mt0 c_one_tick hr (by decide) (pv 3))) (blkOk_by (N := ["image", "inputs", "most", "world", "found", "tick", "deed"]) (sc := defScope S_whole_run) (by decide +kernel)) (fun _ _ _ _ _ => (pg_name (i := 6) sc_whole_run.nd rfl (Or.inl rfl))) (fun _ _ _ _ _ => pts_nil) (fun _ _ _ _ _ => (pe_tup (pa_cons (pv 5) (pa_cons (pv 6) pa_nil))))) pa_nil)))))) (
      pss_one (ps_ret (pe_ifExp (pt_val (pe_cl c_is_over hr (by decide) (by rfl) (pa_cons (pe_tup (pa_cons pe_int (pa_cons pe_int (pa_cons pe_int (pa_cons pe_int (pa_cons (pe_fld (pv 3) rfl) pa_nil)))))) pa_nil))) (pe_tup (pa_cons (pe_callTy (call_tupleK (K := K) rfl) (by rfl) T.tuple (by decide +kernel) (pa_cons (pv 4) pa_nil)) (pa_cons (pe_fld (pv 3) rfl) pa_nil))) pe_non)))), ?_⟩
    have hC := wc.cl
    have nT := wc.nT
    have nH := wc.nH
    have zi : inp.length ≤ 100000 := by rw [N.len]; exact Nat.le_trans O.lv.2 (by decide)
    walk_at "lc"
    refine rd_make ?_
    walk_at "lc"
    refine ⟨ia, na, I, inp, rfl, M, V0, O, zb, zr, fun sa H0 s0 S => ?_⟩
    walk_at "lc"
    refine rd_world S O zr zi fun p A H1 W1 s1 np nF => ?_
    walk_at "lc"
    refine rd_lst ?_
    walk_at "lc"
    refine ⟨Nat.zero_le _, fun f hf => ?_⟩
    walk_at "lc"
    have M0 := M.ts (Ts.same s0)
    have R0 := Rn.begin W1 s1 np nF hf
    generalize upd H1 f (.lst []) = H2 at R0
    refine rd_whileF (fun σ H' => ∃ n, (∃ t5 t6, σ = [some (.ref ia), some (.ref na), some (.int (most : Nat)), some (.ref p), some (.ref f), t5, t6]) ∧ Rn C H0 H' p ia f A I inp n ∧ Ran I (begun I inp) most n) (fun σ H3 h => ?_) (fun fin => ?_)
    · obtain ⟨n, ⟨t5, t6, rfl⟩, R, hran⟩ := h
      obtain ⟨dx, hp⟩ := R.dx
      have hS := (begun_ok O N).stt O n
      have hth := (show Wd H3 A (stt I (begun I inp) n) from R.wat.choose_spec.2).th
      have hzl : (stt I (begun I inp) n).ths.length ≤ 100000 := by rw [hS.tl]; exact Nat.le_trans O.ne.2 (by decide)
      walk_at "lc"
      refine rd_tup ?_
      walk_at "lc"
      refine ⟨(by show 5 ≤ sizeLine; decide), fun c hc => ?_⟩
      walk_at "lc"
      refine ⟨c, A .th, _, _, _, _, A, stt I (begun I inp) n, rfl, upd_same, same_new hc _ _ hth, hzl, fun H4 s4 => ?_⟩
      have sA := (same_new (o := .tup [.int 0, .int 0, .int 0, .int 0, .ref (A .th)]) hc).trans s4
      have R4 := R.same sA
      have hp4 := sA _ _ hp
      obtain ⟨xs, hf4, hr4⟩ := R4.rcd
      cases ho : over (stt I (begun I inp) n) with
      | true =>
        walk_at "lc"
        refine rd_tup ?_
        walk_at "lc"
        refine rd_tupleL hf4 fun b hb => ?_
        have hp5 := same_new (o := .tup xs) hb _ _ hp4
        walk_at "lc"
        refine ⟨(by show 2 ≤ sizeLine; decide), fun a ha => ?_⟩
        exact (q _ n (((s0.trans R4.sm).trans (same_new hb)).trans (same_new ha)) hran).1 ho a b upd_same ⟨xs, same_new ha _ _ upd_same, hr4.imp fun _ _ => RecAt.ts ((ts_new hb).trans (ts_new ha))⟩
      | false =>
        walk_at "lc"
        exact (q _ n (s0.trans R4.sm) hran).2 ho
    · refine rd_while (fun m σ H' => ∃ n, m = most - n ∧ n ≤ most ∧ (∀ k, k < n → over (stt I (begun I inp) k) = false) ∧ (∃ t5 t6, σ = [some (.ref ia), some (.ref na), some (.int (most : Nat)), some (.ref p), some (.ref f), t5, t6]) ∧ Rn C H0 H' p ia f A I inp n)
        ⟨most, 0, rfl, Nat.zero_le _, fun k h => absurd h (Nat.not_lt_zero _), ⟨none, none, rfl⟩, R0⟩ (fun m σ H3 h => ?_)
      obtain ⟨n, rfl, hle, hno, ⟨t5, t6, rfl⟩, R⟩ := h
      obtain ⟨dx, hp⟩ := R.dx
      have hS := (begun_ok O N).stt O n
      have hth := (show Wd H3 A (stt I (begun I inp) n) from R.wat.choose_spec.2).th
      have hzl : (stt I (begun I inp) n).ths.length ≤ 100000 := by rw [hS.tl]; exact Nat.le_trans O.ne.2 (by decide)
      walk_at "lc"
      refine by_test (fun h => ?_) (fun h => ?_)
      · have hlt : n < most := by have := of_decide_eq_true h; omega
        walk_at "lc"
        refine rd_tup ?_
        walk_at "lc"
        refine ⟨(by show 5 ≤ sizeLine; decide), fun c hc => ?_⟩
        walk_at "lc"
        refine ⟨c, A .th, _, _, _, _, A, stt I (begun I inp) n, rfl, upd_same, same_new hc _ _ hth, hzl, fun H4 s4 => ?_⟩
        have sA := (same_new (o := .tup [.int 0, .int 0, .int 0, .int 0, .ref (A .th)]) hc).trans s4
        have R4 := R.same sA
        have hp4 := sA _ _ hp
        cases ho : over (stt I (begun I inp) n) with
        | true =>
          walk_at "lc"
          exact fin _ _ ⟨n, ⟨_, _, rfl⟩, R4, hle, hno, .inr ho⟩
        | false =>
          walk_at "lc"
          refine ⟨fun σ H' => (∃ t5 t6, σ = [some (.ref ia), some (.ref na), some (.int (most : Nat)), some (.ref p), some (.ref f), t5, t6]) ∧ Rn C H0 H' p ia f A I inp (n + 1), fun σ' H' h => ⟨most - (n + 1), by omega, n + 1, rfl, hlt, fun k hk => ?_, h.1, h.2⟩, ?_⟩
          · by_cases e : k = n
            · rw [e]
              exact ho
            · exact hno k (by omega)
          · have tk : (stt I (begun I inp) n).tick ≤ 1000 := by
              rw [stt_tick]
              show 0 + n ≤ 1000
              omega
            obtain ⟨xs0, hf0, hr0⟩ := R4.rcd
            walk_at "lc"
            refine ⟨p, ia, A, I, stt I (begun I inp) n, rfl, R4.wat, M0.ts (Ts.same R4.sm), O, hS, tk, fun H5 d W5 D5 k5 => ?_⟩
            obtain ⟨s5, t5', xs, hf5, hr5⟩ := R4.mid O N k5
            obtain ⟨dv, hd5, hdv⟩ := D5
            walk_at "lc"
            refine lc_all (wkT hd5) (step I (stt I (begun I inp) n)).2.toList (fun H v d => RecAt H v (n, d)) (fun _ _ _ _ t h => h.ts t) hdv.1 (by rw [hdv.1]; cases (step I (stt I (begun I inp) n)).2 <;> simp) (fun j x y H' N' hx hy sm kN => ?_) (fun D acc H6 hD sm e fa => ?_)
            · obtain ⟨xa, rfl, hxa⟩ := hdv.2 j x y hx hy
              walk_at "lc"
              refine ⟨wipe1 (by decide), ?_⟩
              refine rd_tup ?_
              walk_at "lc"
              refine ⟨(by show 2 ≤ sizeLine; decide), fun c hc => ?_⟩
              exact kN _ _ (same_new hc) ⟨c, xa, rfl, upd_same, same_new hc _ _ (sm _ _ hxa)⟩
            · have hf6 := sm _ _ hf5
              walk_at "lc"
              have l1 := recs_len I (begun I inp) n
              have l2 : acc.length ≤ 1 := by rw [fa.1]; cases (step I (stt I (begun I inp) n)).2 <;> simp
              refine rd_extend hf6 e (Nat.le_trans (show xs.length + acc.length ≤ 2000 by rw [hr5.1]; omega) (by decide)) ?_
              walk_at "lc"
              exact ⟨⟨_, _, rfl⟩, R4.next O N k5 W5 sm (hr5.imp fun _ _ => RecAt.ts (Ts.same sm)) fa.map_r hf6⟩
      · have hge : n = most := by have := of_decide_eq_false h; omega
        walk_at "lc"
        exact fin _ _ ⟨n, ⟨_, _, rfl⟩, R, hle, hno, .inl hge⟩
end
end Lk
/-! The law's draws: some number below a bound, whatever the script. -/
namespace Lk
open PySem PySem.Spec PyProof.Rows L2
/-- a deal: the list at p, a number -/
def Dl (H : Hp) (d p : Addr) : Prop := ∃ (xs : List Int) (b : Int), xs.length ≤ 100 ∧ H d = some (.lst [.ref p, .int b]) ∧ H p = some (il xs)
def DP (d p : Addr) (a : Addr) : Prop := a = d ∨ a = p
section
variable {H H' : Hp} {d p : Addr}
theorem Dl.ne (h : Dl H d p) : d ≠ p := fun e => by
  obtain ⟨xs, b, _, h1, h2⟩ := h
  rw [e, h2] at h1
  cases xs with
  | nil => simp [il] at h1
  | cons x r => simp [il] at h1
theorem Dl.same (h : Dl H d p) (k : Same H H') : Dl H' d p := let ⟨xs, b, z, h1, h2⟩ := h; ⟨xs, b, z, k _ _ h1, k _ _ h2⟩
theorem Dl.ts (h : Dl H d p) (k : Kp (DP d p) H H') : Ts H H' := k.ts fun x e ys q => by
  obtain ⟨xs, b, _, h1, h2⟩ := h
  rcases e with e | e
  · rw [e, h1] at q
    cases q
  · rw [e, h2] at q
    cases q
/-- a new thing lies beside -/
theorem Dl.new (h : Dl H d p) {a : Addr} (ha : H a = none) : a ≠ d ∧ a ≠ p := by
  obtain ⟨xs, b, _, h1, h2⟩ := h
  refine ⟨fun e => ?_, fun e => ?_⟩
  · rw [e, h1] at ha
    cases ha
  · rw [e, h2] at ha
    cases ha
theorem Dl.upd (h : Dl H d p) {a : Addr} {o : HO} (n1 : a ≠ d) (n2 : a ≠ p) : Dl (upd H a o) d p := by
  obtain ⟨xs, b, z, h1, h2⟩ := h
  exact ⟨xs, b, z, by rw [upd_ne (Ne.symm n1)]; exact h1, by rw [upd_ne (Ne.symm n2)]; exact h2⟩
theorem kd_at (k : Kp (DP d p) H H') {a : Addr} {o : HO} (h : H a = some o) (n : a ≠ d ∧ a ≠ p) : H' a = some o := k a o h fun z => z.elim n.1 n.2
end
section
variable {K : PySem.W.Frag} {σ : L2.St} {H : Hp} {Q : VK} {a b : Addr} {xs : List V}
theorem rd_neL (ha : H a = some (.lst xs)) (q : ∀ c, H c = none → Q (.bl (!xs.isEmpty)) (upd H c (.lst []))) : tLst tNil σ H fun y H2 => rNeE K (.ref a) y H2 Q :=
  ⟨Nat.zero_le _, fun c hc => ⟨a, c, xs, rfl, rfl, SqL.of (same_new hc _ _ ha), SqL.of upd_same, q c hc⟩⟩
theorem rd_eqL (ha : H a = some (.lst xs)) (q : ∀ c, H c = none → Q (.bl xs.isEmpty) (upd H c (.lst []))) : tLst tNil σ H fun y H2 => rEqE K (.ref a) y H2 Q :=
  ⟨Nat.zero_le _, fun c hc => ⟨a, c, xs, rfl, rfl, SqL.of (same_new hc _ _ ha), SqL.of upd_same, q c hc⟩⟩
theorem rd_neg {i : Int} (h : Q (.int (-i)) H) : rU (fun i => .int (-i)) (.int i) H Q := ⟨i, rfl, h⟩
theorem rd_ixl {ys : List Int} (ha : H a = some (il ys)) (hne : ys ≠ []) (q : Q (.int (top ys)) H) : rIxS2 K (.ref a) (.int (-1)) H Q := by
  refine .inl ⟨a, ys.map V.int, -1, .int (top ys), rfl, rfl, SqL.of ha, ?_, q⟩
  have e : ys.map V.int = (ys.dropLast.map V.int) ++ [V.int (top ys)] := by
    have z : ys = ys.dropLast ++ [top ys] := by
      unfold top
      rw [List.getLast?_eq_some_getLast hne]
      exact (List.dropLast_concat_getLast hne).symm
    rw [z, List.map_append]
    rw [← z]
    rfl
  rw [e]
  exact atI_last _ _
theorem rd_popI {ys : List Int} (ha : H a = some (il ys)) (hne : ys ≠ []) (q : Q (.int (top ys)) (upd H a (il ys.dropLast))) : rPop (.ref a) [] H Q := by
  refine ⟨a, _, _, rfl, rfl, ha, last_at hne, ?_⟩
  rw [← List.map_dropLast]
  exact q
theorem map_isEmpty {ys : List Int} : (ys.map V.int).isEmpty = ys.isEmpty := by cases ys <;> rfl
end
def spAny : Sp := fun vs H Q _ => ∃ (d p : Addr) (n : Nat), vs = [.ref d, .int (n : Nat)] ∧ Dl H d p ∧ 0 < n ∧ n ≤ 1000 ∧ ∀ H' r, r < n → Dl H' d p → Kp (DP d p) H H' → Q (.int ((r : Nat) : Int)) H'
theorem mod_nat {x : Int} {n : Nat} (h : 0 < n) : ∃ r : Nat, r < n ∧ x % (n : Int) = (r : Nat) := by
  have h1 := Int.emod_nonneg x (show (n : Int) ≠ 0 by omega)
  have h2 := Int.emod_lt_of_pos x (show (0 : Int) < n by omega)
  exact ⟨(x % n).toNat, by omega, by omega⟩
section
variable {P : Program} {w : World} {K : PySem.W.Frag} {mg : Str → Option Value} {base : Heap}
theorem sc_l_any : FnScope ["_law_deal", "_law_bound", "_law_rest"] ["_law_deal", "_law_bound"] (defScope S_l_any) := ⟨rfl, rfl, rfl, by decide +kernel, rfl, by decide +kernel, by decide +kernel⟩
theorem ok_l_any {f : Addr} {fd : FuncData} (F : Fun K "_law_any" "_law_any" S_l_any f fd) (T : Tx mg) : FnOk P w K mg base CX0 1 f fd ["_law_deal", "_law_bound"] spAny := by
  refine F.ok sc_l_any (fun vs H Q E h => ?_) (fun cdv A outer s H vs Q E hr h => ?_)
  · obtain ⟨_, _, _, rfl, _⟩ := h
    rfl
  · obtain ⟨d, p, n, rfl, D0, hn, hn2, q⟩ := h
    refine ⟨_, pss_cons (ps_while PassesOwn.never (PW.pt (pw_and (pt_cmpR (op_neE hr.units0) (pe_ix (ix_ltK (K := K) rfl) (pv 0) pe_int (fun _ _ => rfl)) (pe_lst pa_nil) (nomark _)) (pw_and1 (pt_cmpR op_eq (pe_ix (ix_ltK (K := K) rfl) (pe_ix (ix_ltK (K := K) rfl) (pv 0) pe_int (fun _ _ => rfl)) (pe_un un_neg pe_int) (fun _ _ => rfl)) pe_int (nomark _))))) (pss_one (ps_expr (pe_bm0 PySem.F.plainAttrs_list PySem.F.slot_list_pop PySem.F.type_list_pop  mt_pop (pe_ix (ix_ltK (K := K) rfl) (pv 0) pe_int (fun _ _ => rfl)))))) (
      pss_cons (ps_if (pt_cmpR (op_neE hr.units0) (pe_ix (ix_ltK (K := K) rfl) (pv 0) pe_int (fun _ _ => rfl)) (pe_lst pa_nil) (nomark _)) (pss_cons (ps_set (i := 2) sc_l_any.nd rfl (Or.inl rfl) (pe_callTy call_int1 (by rfl) T.int (by decide +kernel) (pa_cons (pe_bm0 PySem.F.plainAttrs_list PySem.F.slot_list_pop PySem.F.type_list_pop  mt_pop (pe_ix (ix_ltK (K := K) rfl) (pv 0) pe_int (fun _ _ => rfl))) pa_nil))) (pss_cons (ps_expr (pe_bm PySem.F.plainAttrs_list PySem.F.slot_list_append PySem.F.type_list_append  mt_append (pe_ix (ix_ltK (K := K) rfl) (pv 0) pe_int (fun _ _ => rfl)) (pa_cons (pe_op op_fdiv (pv 2) (pv 1)) pa_nil))) (pss_one (ps_ret (pe_op op_mod (pv 2) (pv 1)))))) pss_nil) (
      pss_cons (ps_asg (pe_op op_mod (pe_callTy call_int1 (by rfl) T.int (by decide +kernel) (pa_cons (pe_op op_add (pe_op op_mul (pe_ix (ix_ltK (K := K) rfl) (pv 0) pe_int (fun _ _ => rfl)) pe_int) pe_int) pa_nil)) pe_int) (pg_sub (pv 0) pe_int set_list)) (
      pss_one (ps_ret (pe_op op_mod (pe_callTy call_int1 (by rfl) T.int (by decide +kernel) (pa_cons (pe_op op_fdiv (pe_ix (ix_ltK (K := K) rfl) (pv 0) pe_int (fun _ _ => rfl)) pe_int) pa_nil)) (pv 1)))))), ?_⟩
    have ndp := D0.ne
    walk_at "lc"
    refine rd_whileF (fun σ H' => σ = [some (.ref d), some (.int (n : Nat)), none] ∧ Dl H' d p ∧ Kp (DP d p) H H') (fun σ H3 h => ?_) (fun fin => ?_)
    · obtain ⟨rfl, ⟨xs, b, hz, hd, hp⟩, k⟩ := h
      walk_at "lc"
      refine rd_neL hp fun c hc => ?_
      have s4 := same_new (o := .lst []) hc
      have hd4 := s4 _ _ hd
      have hp4 := s4 _ _ hp
      have k4 := k.then_same s4
      generalize upd H3 c (.lst []) = H4 at s4 hd4 hp4 k4
      walk_at "lc"
      refine by_test (fun h => ?_) (fun h => ?_)
      · have hne : xs ≠ [] := fun z => by
          rw [z] at h
          cases h
        walk_at "lc"
        refine rd_popI hp4 hne ?_
        have hd5 : upd H4 p (il xs.dropLast) d = some (.lst [.ref p, .int b]) := by rw [upd_ne ndp]; exact hd4
        have hp5 : upd H4 p (il xs.dropLast) p = some (il xs.dropLast) := upd_same
        have k5 : Kp (DP d p) H (upd H4 p (il xs.dropLast)) := k4.tr (kp_upd (.inr rfl))
        generalize upd H4 p (il xs.dropLast) = H5 at hd5 hp5 k5
        walk_at "lc"
        refine rd_fdiv (by omega) (by omega) ?_
        walk_at "lc"
        have l1 : xs.dropLast.length ≤ 99 := by rw [List.length_dropLast]; omega
        refine rd_append hp5 (Nat.lt_of_le_of_lt (show (xs.dropLast.map V.int).length ≤ 99 by rw [List.length_map]; exact l1) (by decide)) ?_
        walk_at "lc"
        refine rd_mod (by omega) ?_
        obtain ⟨r, hr1, hr2⟩ := mod_nat (x := top xs) hn
        rw [hr2]
        refine q _ r hr1 ⟨xs.dropLast ++ [top xs / (n : Nat)], b, by rw [List.length_append, List.length_singleton]; omega, ?_, ?_⟩ (k5.tr (kp_upd (.inr rfl)))
        · rw [upd_ne ndp]
          exact hd5
        · rw [upd_same]
          show _ = some (HO.lst (List.map V.int _))
          rw [List.map_append]
          rfl
      · walk_at "lc"
        refine rd_mul (.inr ⟨by decide, by decide⟩) ?_
        walk_at "lc"
        refine rd_mod (by decide) ?_
        walk_at "lc"
        refine rd_set1 hd4 (by show 1 < 2; decide) ?_
        have hd5 : upd H4 d (.lst (List.set [.ref p, .int b] 1 (.int ((b * 40693 + 71) % 2147483647)))) d = some (.lst [.ref p, .int ((b * 40693 + 71) % 2147483647)]) := upd_same
        have hp5 : upd H4 d (.lst (List.set [.ref p, .int b] 1 (.int ((b * 40693 + 71) % 2147483647)))) p = some (il xs) := by rw [upd_ne (Ne.symm ndp)]; exact hp4
        have k5 : Kp (DP d p) H (upd H4 d (.lst (List.set [.ref p, .int b] 1 (.int ((b * 40693 + 71) % 2147483647))))) := k4.tr (kp_upd (.inl rfl))
        generalize upd H4 d (.lst (List.set [.ref p, .int b] 1 (.int ((b * 40693 + 71) % 2147483647)))) = H5 at hd5 hp5 k5
        walk_at "lc"
        refine rd_fdiv (by decide) (by decide) ?_
        walk_at "lc"
        refine rd_mod (by omega) ?_
        obtain ⟨r, hr1, hr2⟩ := mod_nat (x := (b * 40693 + 71) % 2147483647 / 64) hn
        rw [hr2]
        exact q _ r hr1 ⟨xs, _, hz, hd5, hp5⟩ k5
    · refine rd_while (fun m σ H' => σ = [some (.ref d), some (.int (n : Nat)), none] ∧ (∃ (xs : List Int) (b : Int), m = xs.length ∧ xs.length ≤ 100 ∧ H' d = some (.lst [.ref p, .int b]) ∧ H' p = some (il xs)) ∧ Kp (DP d p) H H') ?_ (fun m σ H3 h => ?_)
      · obtain ⟨xs, b, z, h1, h2⟩ := D0
        exact ⟨xs.length, rfl, ⟨xs, b, rfl, z, h1, h2⟩, Kp.refl H⟩
      obtain ⟨rfl, ⟨xs, b, rfl, hz, hd, hp⟩, k⟩ := h
      walk_at "lc"
      refine rd_neL hp fun c hc => ?_
      have s4 := same_new (o := .lst []) hc
      have hd4 := s4 _ _ hd
      have hp4 := s4 _ _ hp
      have k4 := k.then_same s4
      generalize upd H3 c (.lst []) = H4 at s4 hd4 hp4 k4
      walk_at "lc"
      refine by_test (fun h => ?_) (fun h => ?_)
      · have hne : xs ≠ [] := fun z => by
          rw [z] at h
          cases h
        walk_at "lc"
        refine rd_neg ?_
        refine rd_ixl hp4 hne ?_
        walk_at "lc"
        refine by_test (fun h => ?_) (fun h => ?_)
        · refine ⟨fun σ H' => σ = [some (.ref d), some (.int (n : Nat)), none] ∧ (∃ (ys : List Int) (b : Int), ys.length < xs.length ∧ H' d = some (.lst [.ref p, .int b]) ∧ H' p = some (il ys)) ∧ Kp (DP d p) H H', fun σ' H' h => ?_, ?_⟩
          · obtain ⟨e, ⟨ys, b', l, h1, h2⟩, k'⟩ := h
            exact ⟨ys.length, l, e, ⟨ys, b', rfl, by omega, h1, h2⟩, k'⟩
          · walk_at "lc"
            refine rd_popI hp4 hne ?_
            walk_at "lc"
            refine ⟨rfl, ⟨xs.dropLast, b, ?_, ?_, upd_same⟩, k4.tr (kp_upd (.inr rfl))⟩
            · have := List.length_pos_iff.mpr hne
              rw [List.length_dropLast]
              omega
            · rw [upd_ne ndp]
              exact hd4
        · exact fin _ _ ⟨rfl, ⟨xs, b, hz, hd4, hp4⟩, k4⟩
      · refine rd_falsei ?_
        exact fin _ _ ⟨rfl, ⟨xs, b, hz, hd4, hp4⟩, k4⟩
end
end Lk
/-! Comprehensions and loops whose turns draw. -/
namespace Lk
open PySem PySem.Spec PyProof.Rows L2
section
variable {K : PySem.W.Frag} {ta : TA} {tl te : TE} {g : TG} {tt : TT} {tb : TS} {vs : List Nat} {σ : L2.St} {H : Hp} {Q : VK} {a d p : Addr} {xs : List V} {D : Ends}
theorem rd_lcR (h : ta σ H fun us H1 => ∃ j : Int, us = [.int j] ∧ -(2 ^ 62) ≤ j ∧ j < 2 ^ 62 ∧ tLc (kIt (Itr 0 j.toNat)) g tt te vs σ H1 Q) : tLc (iRng1 ta) g tt te vs σ H Q := h
theorem rd_rgn {n : Nat} {B : Int → Prop} (hn : n ≤ 100000000) (q : B (n : Nat)) : ∃ j : Int, [V.int (n : Nat)] = [.int j] ∧ -(2 ^ 62) ≤ j ∧ j < 2 ^ 62 ∧ B j := ⟨n, rfl, by omega, by omega, q⟩
theorem rd_forL (h : tl σ H fun x H1 => ∃ a, x = .ref a ∧ (∃ xs, SqL K H1 a xs) ∧ tFor (kIt (Itl K a)) g tb D σ H1) : tFor (iList K tl) g tb D σ H := h
theorem for_wkL (h : H a = some (.lst xs)) (Pv : Nat → L2.St → Hp → Prop) (h0 : Pv 0 σ H) (hl : ∀ i σ H, Pv i σ H → H a = some (.lst xs))
    (hs : ∀ i x σ H, xs[i]? = some x → Pv i σ H → g x σ H fun σ2 H2 => tb { D with nx := Pv (i + 1), ct := Pv (i + 1), bk := D.nx } σ2 H2) (hd : ∀ σ H, Pv xs.length σ H → D.nx σ H) : tFor (kIt (Itl K a)) g tb D σ H :=
  for_list Pv h0 (fun i σ H _ p => SqL.of (hl i σ H p)) hs hd
/-- a comprehension over range(n): a turn may draw; full: it always hands on -/
theorem lc_deal {β : Type} {n : Nat} (hn : n ≤ 100000) (full : Bool) (h : Dl H d p) (R : Hp → V → β → Prop) (hR : ∀ H H' v z, Ts H H' → R H v z → R H' v z)
    (hs : ∀ (i : Nat) H' (N : V → Hp → Prop) (M : Hp → Prop), i < n → Kp (DP d p) H H' → Dl H' d p → (∀ v z H4, Kp (DP d p) H' H4 → Dl H4 d p → R H4 v z → N v H4) → (full = false → ∀ H3, Kp (DP d p) H' H3 → Dl H3 d p → M H3) →
      g (.int (i : Nat)) (wipe σ vs) H' fun σ2 H2 => wipe σ2 vs = wipe σ vs ∧ tt σ2 H2 fun b H3 => if b = true then te σ2 H3 N else M H3)
    (hd : ∀ C acc (zs : List β) H', H C = none → Kp (DP d p) H H' → Dl H' d p → H' C = some (.lst acc) → F2 (R H') acc zs → acc.length ≤ n → (full = true → acc.length = n) → Q (.ref C) H') : tLc (kIt (Itr 0 n)) g tt te vs σ H Q := by
  refine fun C hC => lc_range (fun i H' => Kp (DP d p) H H' ∧ Dl H' d p ∧ ∃ acc, ∃ zs : List β, H' C = some (.lst acc) ∧ acc.length ≤ i ∧ (full = true → acc.length = i) ∧ F2 (R H') acc zs)
    ⟨Kp.same (same_new hC), h.same (same_new hC), [], [], upd_same, Nat.le_refl _, fun _ => rfl, F2.nil⟩ (fun i H' hi q => ?_) (fun H' q => ?_)
  · obtain ⟨k, dl, acc, zs, e, l, l2, f⟩ := q
    rw [Int.zero_add]
    have nC := h.new hC
    refine hs i H' _ _ hi k dl (fun v z H4 k4 d4 r => ?_) (fun hf H3 k3 d3 => ?_)
    · have e4 := kd_at k4 e nC
      have tsD : Ts H4 (upd H4 C (.lst (acc ++ [v]))) := ts_upd fun zs q => by
        rw [e4] at q
        cases q
      refine ⟨acc, e4, Nat.lt_of_le_of_lt (show acc.length ≤ 100000 by omega) (by decide), fun b o eb nb => ?_, d4.upd nC.1 nC.2, acc ++ [v], zs ++ [z], upd_same, by rw [List.length_append, List.length_singleton]; omega, fun hf => by rw [List.length_append, List.length_singleton, l2 hf],
        (f.imp fun u w => hR _ _ u w ((dl.ts k4).trans tsD)).snoc (hR _ _ v z tsD r)⟩
      rw [upd_ne (ne_of_none eb hC)]
      exact k4 b o (k b o eb nb) nb
    · refine ⟨k.tr k3, d3, acc, zs, kd_at k3 e nC, by omega, fun z => ?_, f.imp fun u w => hR _ _ u w (dl.ts k3)⟩
      rw [hf] at z
      cases z
  · obtain ⟨k, dl, acc, zs, e, l, l2, f⟩ := q
    exact hd C acc zs H' hC k dl e f l l2
end
theorem cutV_map {α : Type} {f : α → V} {xs : List α} (lo hi : Option Int) : ∃ ys : List α, cutV (xs.map f) lo hi = ys.map f ∧ ys.length ≤ xs.length := by
  unfold cutV
  refine ⟨(xs.drop (HT.sIx (xs.map f).length 0 lo)).take (HT.sIx (xs.map f).length (xs.map f).length hi - HT.sIx (xs.map f).length 0 lo), by rw [List.map_take, List.map_drop], ?_⟩
  rw [List.length_take, List.length_drop]
  omega
theorem seqIx_nat {r n : Nat} (h : r < n) : seqIndex? (r : Nat) n = some r := by
  unfold seqIndex?
  have e : ¬ ((r : Int) < 0) := by omega
  simp only [if_neg e]
  rw [if_pos (by simp [h])]
  rw [Int.toNat_natCast]
section
variable {K : PySem.W.Frag} {σ : L2.St} {H : Hp} {Q : VK} {a b : Addr} {xs ys : List V} {te : TE} {to ti : TO}
theorem rd_sl {r : V → Option Int → Option Int → Hp → VK → Prop} (h : te σ H fun x H1 => to σ H1 fun l H2 => ti σ H2 fun u H3 => r x l u H3 Q) : tSl r te to ti σ H Q := h
theorem rd_nopart {QO : Option Int → Hp → Prop} (h : QO none H) : tNoPart σ H QO := h
theorem rd_part {i : Int} {QO : Option Int → Hp → Prop} (h : te σ H fun x H1 => ∃ i, x = .int i ∧ QO (some i) H1) : tPart te σ H QO := h
theorem rd_cat (ha : H a = some (.lst xs)) (hb : H b = some (.lst ys)) (hz : xs.length + ys.length ≤ sizeLine) (q : ∀ c, H c = none → Q (.ref c) (upd H c (.lst (xs ++ ys)))) : rCat (.ref a) (.ref b) H Q := ⟨a, b, xs, ys, rfl, rfl, ha, hb, hz, q⟩
theorem rd_popAt {r : Nat} {y : V} (ha : H a = some (.lst xs)) (hr : r < 1000000) (hy : xs[r]? = some y) (q : Q y (upd H a (.lst (xs.eraseIdx r)))) : rPopAt (.ref a) [.int (r : Nat)] H Q :=
  ⟨a, xs, _, r, y, rfl, rfl, ha, by omega, by omega, seqIx_nat (List.getElem?_eq_some_iff.mp hy).1, hy, q⟩
theorem rd_pow {i j : Int} (hc : CPow i j) (h : Q (.int (i ^ j.toNat)) H) : rI CPow (fun i j => .int (i ^ j.toNat)) (.int i) (.int j) H Q := ⟨i, j, rfl, rfl, hc, h⟩
theorem rd_lrg {n : Nat} {te : L2.St → Hp → (Int → Int → Hp → Prop) → Prop} (ht : ∀ R : Int → Int → Hp → Prop, R 0 (n : Nat) H → te σ H R) (hn : n ≤ 1000) (q : ∀ c, H c = none → Q (.ref c) (upd H c (il ((List.range n).map Int.ofNat)))) : tLstRg te σ H Q := by
  refine ht _ ⟨RgOk.of_le (by omega) (by omega) (by omega) (by omega), fun c hc => ?_⟩
  have e : rgV 0 (n : Nat) = ((List.range n).map Int.ofNat).map V.int := by
    unfold rgV
    rw [List.map_map, Int.sub_zero, Int.toNat_natCast]
    refine List.map_congr_left fun i _ => ?_
    show V.int (0 + (i : Int)) = V.int (i : Int)
    rw [Int.zero_add]
  rw [e]
  exact q c hc
end
theorem inV_int {x : Int} {ys : List Int} : inV (.int x) (ys.map V.int) = decide (x ∈ ys) := by
  unfold inV
  rw [List.any_map]
  by_cases h : x ∈ ys
  · rw [decide_eq_true h]
    exact List.any_eq_true.mpr ⟨x, h, by show eqV (.int x) (.int x) = true; simp [eqV]⟩
  · rw [decide_eq_false h]
    refine List.any_eq_false.mpr fun y hy z => h ?_
    have z' : eqV (.int y) (.int x) = true := z
    have e : y = x := by simpa [eqV] using z'
    rw [← e]
    exact hy
theorem flat_ints (ys : List Int) : (ys.map V.int).all flatV = true := by
  rw [List.all_map]
  exact List.all_eq_true.mpr fun _ _ => rfl
/-- unlike numbers below m are at most m -/
theorem nodup_le : ∀ (m : Nat) {xs : List Int}, xs.Nodup → (∀ x, x ∈ xs → 0 ≤ x ∧ x < (m : Nat)) → xs.length ≤ m
  | 0, xs, _, h => by
    cases xs with
    | nil => exact Nat.le_refl _
    | cons x r =>
      have := h x List.mem_cons_self
      omega
  | m + 1, xs, nd, h => by
    by_cases hm : (m : Int) ∈ xs
    · have h2 := nodup_le m (xs := xs.erase (m : Int)) (nd.erase _) fun x hx => by
        have hx' := (List.Nodup.mem_erase_iff nd).mp hx
        have := h x hx'.2
        have n := hx'.1
        exact ⟨this.1, by omega⟩
      rw [List.length_erase_of_mem hm] at h2
      omega
    · have h2 := nodup_le m nd fun x hx => by
        have := h x hx
        have n : x ≠ (m : Int) := fun e => hm (e ▸ hx)
        exact ⟨this.1, by omega⟩
      omega
end Lk
/-! The law's drawings: one of some, a mix, the first deal, lots, an order. -/
namespace Lk
open PySem PySem.Spec PyProof.Rows L2
theorem map_erase : ∀ (ls : List Int) (r : Nat), (ls.map V.int).eraseIdx r = (ls.eraseIdx r).map V.int
  | [], _ => rfl
  | _ :: _, 0 => rfl
  | x :: t, r + 1 => congrArg (V.int x :: ·) (map_erase t r)
def spOf : Sp := fun vs H Q _ => ∃ (d p l : Addr) (xs : List V), vs = [.ref d, .ref l] ∧ Dl H d p ∧ H l = some (.lst xs) ∧ (l ≠ d ∧ l ≠ p) ∧ 0 < xs.length ∧ xs.length ≤ 1000 ∧ ∀ H' v, v ∈ xs → Dl H' d p → Kp (DP d p) H H' → Q v H'
def spMixed : Sp := fun vs H Q _ => ∃ (d p l : Addr) (ns : List Int), vs = [.ref d, .ref l] ∧ Dl H d p ∧ H l = some (il ns) ∧ ns.length ≤ 100 ∧ ∀ H' r ms, H' r = some (il ms) → ms.length = ns.length → (∀ y, y ∈ ms → y ∈ ns) → H r = none → Dl H' d p → Kp (DP d p) H H' → Q (.ref r) H'
def spDraw (K : PySem.W.Frag) : Sp := fun vs H Q _ => ∃ (sc : Addr) (ns : List Int) (k : Int), vs = [.ref sc, .int k] ∧ SqL K H sc (ns.map V.int) ∧ ns.length ≤ 100 ∧ ∀ H' d p, Dl H' d p → Same H H' → H d = none → H p = none → Q (.ref d) H'
def spLot : Sp := fun vs H Q _ => ∃ (d p : Addr) (m : Nat), vs = [.ref d, .int (m : Nat)] ∧ Dl H d p ∧ m ≤ 100 ∧ ∀ H' a, Dl H' d p → Kp (DP d p) H H' → Q (.ref a) H'
section
variable {P : Program} {w : World} {K : PySem.W.Frag} {mg : Str → Option Value} {base : Heap}
theorem sc_l_of : FnScope ["_law_deal", "_law_some"] ["_law_deal", "_law_some"] (defScope S_l_of) := ⟨rfl, rfl, rfl, by decide +kernel, rfl, by decide +kernel, by decide +kernel⟩
theorem ok_l_of {f : Addr} {fd : FuncData} (F : Fun K "_law_of" "_law_of" S_l_of f fd) (T : Tx mg) (c__law_any : Cl P w K mg base 1 "_law_any" ["_law_deal", "_law_bound"] spAny) : FnOk P w K mg base CX0 2 f fd ["_law_deal", "_law_some"] spOf := by
  refine F.ok sc_l_of (fun vs H Q E h => ?_) (fun cdv A outer s H vs Q E hr h => ?_)
  · obtain ⟨_, _, _, _, rfl, _⟩ := h
    rfl
  · obtain ⟨d, p, l, xs, rfl, D, hl, nl, h0, hz, q⟩ := h
    refine ⟨_, pss_one (ps_ret (pe_ix (ix_ltK (K := K) rfl) (pv 1) (pe_cl c__law_any hr (by decide) (by rfl) (pa_cons (pv 0) (pa_cons (pe_callB (call_lenK (K := K) rfl) (by rfl) T.len PySem.boot_len (pa_cons (pv 1) pa_nil)) pa_nil))) (fun _ _ => rfl))), ?_⟩
    walk_at "lc"
    refine ⟨d, p, xs.length, rfl, D, h0, hz, fun H1 r hr D1 k1 => ?_⟩
    have hl1 := kd_at k1 hl nl
    have hx : xs[r]? = some xs[r] := List.getElem?_eq_getElem hr
    walk_at "lc"
    exact q _ _ (List.mem_of_getElem? hx) D1 k1
theorem sc_l_mixed : FnScope ["_law_deal", "_law_some", "_law_left", "_law_found"] ["_law_deal", "_law_some"] (defScope S_l_mixed) := ⟨rfl, rfl, rfl, by decide +kernel, rfl, by decide +kernel, by decide +kernel⟩
theorem ok_l_mixed {f : Addr} {fd : FuncData} (F : Fun K "_law_mixed" "_law_mixed" S_l_mixed f fd) (T : Tx mg) (c__law_any : Cl P w K mg base 1 "_law_any" ["_law_deal", "_law_bound"] spAny) : FnOk P w K mg base CX0 2 f fd ["_law_deal", "_law_some"] spMixed := by
  refine F.ok sc_l_mixed (fun vs H Q E h => ?_) (fun cdv A outer s H vs Q E hr h => ?_)
  · obtain ⟨_, _, _, _, rfl, _⟩ := h
    rfl
  · obtain ⟨d, p, l, ns, rfl, D, hl, hz, q⟩ := h
    refine ⟨_, pss_cons (ps_par (i := 2) (j := 3) rfl sc_l_mixed.nd rfl rfl (by decide) rfl rfl (pa_cons (pe_callTy (call_listK (K := K) rfl) (by rfl) T.list (by decide +kernel) (pa_cons (pv 1) pa_nil)) (pa_cons (pe_lst pa_nil) pa_nil)) (by rfl)) (
      pss_cons (ps_while PassesOwn.never (pt_cmpR (op_neE hr.units0) (pv 2) (pe_lst pa_nil) (nomark _)) (pss_one (ps_expr (pe_bm PySem.F.plainAttrs_list PySem.F.slot_list_append PySem.F.type_list_append  mt_append (pv 3) (pa_cons (pe_bm PySem.F.plainAttrs_list PySem.F.slot_list_pop PySem.F.type_list_pop  mt_popAt (pv 2) (pa_cons (pe_cl c__law_any hr (by decide) (by rfl) (pa_cons (pv 0) (pa_cons (pe_callB (call_lenK (K := K) rfl) (by rfl) T.len PySem.boot_len (pa_cons (pv 2) pa_nil)) pa_nil))) pa_nil)) pa_nil))))) (
      pss_one (ps_ret (pv 3)))), ?_⟩
    walk_at "lc"
    intro a ha
    walk_at "lc"
    refine rd_lst ?_
    walk_at "lc"
    refine ⟨Nat.zero_le _, fun b hb => ?_⟩
    walk_at "lc"
    have na := D.new ha
    have sa : Same H (upd H a (il ns)) := same_new ha
    have hb0 := sa.free hb
    have nb := D.new hb0
    have hab : a ≠ b := ne_of_none upd_same hb
    refine rd_whileF (fun σ H' => σ = [some (.ref d), some (.ref l), some (.ref a), some (.ref b)] ∧ ∃ ms, H' b = some (il ms) ∧ ms.length = ns.length ∧ (∀ y, y ∈ ms → y ∈ ns) ∧ Dl H' d p ∧ Kp (DP d p) H H') (fun σ H3 h => ?_) (fun fin => ?_)
    · obtain ⟨rfl, ms, h1, h2, h3, h4, h5⟩ := h
      walk_at "lc"
      exact q _ b ms h1 h2 h3 hb0 h4 h5
    · refine rd_while (fun m σ H' => σ = [some (.ref d), some (.ref l), some (.ref a), some (.ref b)] ∧ ∃ ls ms, m = ls.length ∧ H' a = some (il ls) ∧ H' b = some (il ms) ∧ ms.length + ls.length = ns.length ∧ (∀ y, y ∈ ms → y ∈ ns) ∧ (∀ y, y ∈ ls → y ∈ ns) ∧ Dl H' d p ∧ Kp (DP d p) H H')
        ⟨ns.length, rfl, ns, [], rfl, by rw [upd_ne hab]; exact upd_same, upd_same, by simp, fun y h => absurd h List.not_mem_nil, fun y h => h, (D.same sa).same (same_new hb), Kp.same (sa.trans (same_new hb))⟩ (fun m σ H3 h => ?_)
      obtain ⟨rfl, ls, ms, rfl, h1, h2, h3, h4, h5, h6, h7⟩ := h
      walk_at "lc"
      refine rd_neL h1 fun c hc => ?_
      have s4 := same_new (o := .lst []) hc
      have h1' := s4 _ _ h1
      have h2' := s4 _ _ h2
      have h6' := h6.same s4
      have h7' := h7.then_same s4
      generalize upd H3 c (.lst []) = H4 at s4 h1' h2' h6' h7'
      walk_at "lc"
      refine by_test (fun h => ?_) (fun h => ?_)
      · have hne : ls ≠ [] := fun z => by
          rw [z] at h
          cases h
        have hlp := List.length_pos_iff.mpr hne
        refine ⟨fun σ H' => σ = [some (.ref d), some (.ref l), some (.ref a), some (.ref b)] ∧ ∃ ls' ms, ls'.length < ls.length ∧ H' a = some (il ls') ∧ H' b = some (il ms) ∧ ms.length + ls'.length = ns.length ∧ (∀ y, y ∈ ms → y ∈ ns) ∧ (∀ y, y ∈ ls' → y ∈ ns) ∧ Dl H' d p ∧ Kp (DP d p) H H', fun σ' H' h => ?_, ?_⟩
        · obtain ⟨e, ls', ms', l', r⟩ := h
          exact ⟨ls'.length, l', e, ls', ms', rfl, r⟩
        · walk_at "lc"
          rw [List.length_map]
          refine ⟨d, p, ls.length, rfl, h6', hlp, by omega, fun H5 r hr D5 k5 => ?_⟩
          have h1'' := kd_at k5 h1' na
          have h2'' := kd_at k5 h2' nb
          have hx : ls[r]? = some ls[r] := List.getElem?_eq_getElem hr
          have hxv : (ls.map V.int)[r]? = some (.int ls[r]) := by rw [List.getElem?_map, hx]; rfl
          walk_at "lc"
          refine rd_popAt h1'' (by omega) hxv ?_
          have e2 : ((ls.map V.int).eraseIdx r) = (ls.eraseIdx r).map V.int := map_erase ls r
          rw [e2]
          have hb6 : upd H5 a (il (ls.eraseIdx r)) b = some (il ms) := by rw [upd_ne (Ne.symm hab)]; exact h2''
          walk_at "lc"
          refine rd_append hb6 (Nat.lt_of_le_of_lt (show (ms.map V.int).length ≤ 100 by rw [List.length_map]; omega) (by decide)) ?_
          have le := List.length_eraseIdx_of_lt hr
          refine ⟨rfl, ls.eraseIdx r, ms ++ [ls[r]], by omega, by rw [upd_ne hab]; exact upd_same, ?_, by rw [List.length_append, List.length_singleton]; omega, fun y hy => ?_, fun y hy => h5 y (List.mem_of_mem_eraseIdx hy), (D5.upd na.1 na.2).upd nb.1 nb.2, fun x o e n => ?_⟩
          · rw [upd_same]
            show _ = some (HO.lst (List.map V.int _))
            rw [List.map_append]
            rfl
          · rcases List.mem_append.mp hy with z | z
            · exact h4 y z
            · rw [List.mem_singleton.mp z]
              exact h5 _ (List.getElem_mem hr)
          · rw [upd_ne (ne_of_none e hb0), upd_ne (ne_of_none e ha)]
            exact k5 x o (h7' x o e n) n
      · have e : ls = [] := by
          cases ls with
          | nil => rfl
          | cons x r => cases h
        subst e
        exact fin _ _ ⟨rfl, ms, h2', by simpa using h3, h4, h6', h7'⟩
theorem sc_l_draw : FnScope ["_law_script", "_law_salt", "_law_cells", "_law_blend", "_law_cell"] ["_law_script", "_law_salt"] (defScope S_l_draw) := ⟨rfl, rfl, rfl, by decide +kernel, rfl, by decide +kernel, by decide +kernel⟩
theorem ok_l_draw {f : Addr} {fd : FuncData} (F : Fun K "_law_draw" "_law_draw" S_l_draw f fd) (T : Tx mg) : FnOk P w K mg base CX0 1 f fd ["_law_script", "_law_salt"] (spDraw K) := by
  refine F.ok sc_l_draw (fun vs H Q E h => ?_) (fun cdv A outer s H vs Q E hr h => ?_)
  · obtain ⟨_, _, _, rfl, _⟩ := h
    rfl
  · obtain ⟨sc, ns, k, rfl, hsc, hz, q⟩ := h
    refine ⟨_, pss_cons (ps_setLc (i := 2) (own := [("_law_cell", 4)]) rfl sc_l_draw.nd rfl rfl (sw_true rfl rfl rfl (by decide +kernel)) (pi_listK (K := K) rfl (pe_slice sl_list (pv 0) po_none (po_some pe_int))) (blkOk_by (N := ["_law_script", "_law_salt", "_law_cells", "_law_blend", "_law_cell"]) (sc := defScope S_l_draw) (by decide +kernel)) (fun _ _ _ _ _ => (pg_name (i := 4) sc_l_draw.nd rfl (Or.inl rfl))) (fun _ _ _ _ _ => pts_nil) (fun _ _ _ _ _ => (pe_callB call_abs (by rfl) T.abs (by decide +kernel) (pa_cons (pe_callTy call_int1 (by rfl) T.int (by decide +kernel) (pa_cons (pv 4) pa_nil)) pa_nil)))) (
      pss_cons (ps_set (i := 3) sc_l_draw.nd rfl (Or.inl rfl) (pe_op op_add pe_int (pe_op op_mul pe_int (pv 1)))) (
      pss_cons (ps_for PassesOwn.never rfl (pi_listK (K := K) rfl (pv 2)) (pg_name (i := 4) sc_l_draw.nd rfl (Or.inl rfl)) (pss_one (ps_set (i := 3) sc_l_draw.nd rfl (Or.inl rfl) (pe_op op_mod (pe_callTy call_int1 (by rfl) T.int (by decide +kernel) (pa_cons (pe_op op_add (pe_op op_add (pe_op op_mul (pv 3) pe_int) (pe_op op_mod (pv 4) pe_int)) pe_int) pa_nil)) pe_int)))) (
      pss_one (ps_ret (pe_lst (pa_cons (pe_revLK (K := K) rfl (pe_lc (own := [("_law_cell", 4)]) rfl sc_l_draw.nd (pi_listK (K := K) rfl (pv 2)) (blkOk_by (N := ["_law_script", "_law_salt", "_law_cells", "_law_blend", "_law_cell"]) (sc := defScope S_l_draw) (by decide +kernel)) (fun _ _ _ _ _ => (pg_name (i := 4) sc_l_draw.nd rfl (Or.inl rfl))) (fun _ _ _ _ _ => (pts_one (pt_cmpR op_ge (pv 4) (pe_op op_pow pe_int pe_int) (nomark _)))) (fun _ _ _ _ _ => (pv 4)))) (pa_cons (pv 3) pa_nil))))))), ?_⟩
    walk_at "lc"
    refine rd_sl ?_
    walk_at "lc"
    refine rd_nopart ?_
    refine rd_part (i := 48) ?_
    walk_at "lc"
    refine ⟨48, rfl, sc, _, rfl, hsc, fun c hc => ?_⟩
    obtain ⟨ys, ey, ly⟩ := cutV_map (f := V.int) (xs := ns) none (some 48)
    rw [ey]
    have hc1 : upd H c (.lst (ys.map V.int)) c = some (.lst (ys.map V.int)) := upd_same
    have s1 : Same H (upd H c (.lst (ys.map V.int))) := same_new hc
    generalize upd H c (.lst (ys.map V.int)) = H1 at hc1 s1
    walk_at "lc"
    refine lc_all (wkL hc1) ys (fun _ v z => v = .int (if z < 0 then -z else z)) (fun _ _ _ _ _ h => h) (by rw [List.length_map]) (by rw [List.length_map]; omega) (fun i x y H' N hx hy sm kN => ?_) (fun D acc H2 hD sm e f => ?_)
    · rw [List.getElem?_map, hy] at hx
      cases hx
      walk_at "lc"
      refine ⟨wipe1 (by decide), ?_⟩
      walk_at "lc"
      exact ⟨_, rfl, kN _ _ (Same.refl _) rfl⟩
    · have ef := f2_map f
      have em : acc = (ys.map fun z => if z < 0 then -z else z).map V.int := by rw [ef, List.map_map]; rfl
      have lz : (ys.map fun z => if z < 0 then -z else z).length ≤ 100 := by rw [List.length_map]; omega
      generalize (ys.map fun z => if z < 0 then -z else z) = zs at em lz
      subst em
      have s2 := s1.trans sm
      walk_at "lc"
      refine rd_mul (.inl ⟨by decide, by decide⟩) ?_
      walk_at "lc"
      refine rd_forL ?_
      walk_at "lc"
      refine for_wkL e (fun i σ H' => (∃ (b : Int) (t4 : Option V), σ = [some (.ref sc), some (.int k), some (.ref D), some (.int b), t4]) ∧ H' = H2) ⟨⟨_, _, rfl⟩, rfl⟩ (fun i σ H' h => by rw [h.2]; exact e) (fun i x σ H' hx h => ?_) (fun σ H' h => ?_)
      · obtain ⟨⟨b, t4, rfl⟩, rfl⟩ := h
        rw [List.getElem?_map] at hx
        obtain ⟨z, _, rfl⟩ := Option.map_eq_some_iff.mp hx
        walk_at "lc"
        refine rd_mul (.inr ⟨by decide, by decide⟩) ?_
        walk_at "lc"
        refine rd_mod (by decide) ?_
        walk_at "lc"
        refine rd_mod (by decide) ?_
        exact ⟨⟨_, _, rfl⟩, rfl⟩
      · obtain ⟨⟨b, t4, rfl⟩, rfl⟩ := h
        walk_at "lc"
        refine rd_lst ?_
        walk_at "lc"
        refine lc_filt (wkL e) zs (fun z => if (10 : Int) ^ (18 : Int).toNat ≤ z then some z else none) (fun _ v z => v = .int z) (fun _ _ _ _ _ h => h) (by rw [List.length_map]) (by rw [List.length_map]; omega) (fun i x y H' N M hx hy sm3 kN kM => ?_) (fun C acc3 H3 hC sm3 e3 f3 => ?_)
        · rw [List.getElem?_map, hy] at hx
          cases hx
          walk_at "lc"
          refine ⟨wipe1 (by decide), ?_⟩
          walk_at "lc"
          refine rd_pow ⟨by decide, by decide, by decide⟩ ?_
          walk_at "lc"
          refine by_test (fun h => ?_) (fun h => ?_)
          · walk_at "lc"
            exact kN _ _ _ (if_pos (of_decide_eq_true h)) (Same.refl _) rfl
          · exact kM _ (if_neg (of_decide_eq_false h)) (Same.refl _)
        · have l3 := f3.1
          have ef3 := f2_map f3
          have l4 : (zs.filterMap fun z => if (10 : Int) ^ (18 : Int).toNat ≤ z then some z else none).length ≤ 100 := Nat.le_trans (List.length_filterMap_le _ _) lz
          generalize (zs.filterMap fun z => if (10 : Int) ^ (18 : Int).toNat ≤ z then some z else none) = us at ef3 l4
          subst ef3
          refine rd_rev e3 fun p hp => ?_
          walk_at "lc"
          refine ⟨(by show 2 ≤ sizeLine; decide), fun d hd => ?_⟩
          have s4 := s2.trans sm3
          have s5 := s4.trans (same_new (o := .lst (us.map V.int).reverse) hp)
          refine q _ d p ⟨us.reverse, b, by rw [List.length_reverse]; exact l4, upd_same, ?_⟩ (s5.trans (same_new hd)) (s5.free hd) (s4.free hp)
          rw [upd_ne (ne_of_none upd_same hd), upd_same]
          show _ = some (HO.lst (List.map V.int _))
          rw [List.map_reverse]
theorem sc_l_lot : FnScope ["_law_deal", "_law_many", "_law_level"] ["_law_deal", "_law_many"] (defScope S_l_lot) := ⟨rfl, rfl, rfl, by decide +kernel, rfl, by decide +kernel, by decide +kernel⟩
theorem ok_l_lot {f : Addr} {fd : FuncData} (F : Fun K "_law_lot" "_law_lot" S_l_lot f fd) (T : Tx mg) (c__law_any : Cl P w K mg base 1 "_law_any" ["_law_deal", "_law_bound"] spAny) : FnOk P w K mg base CX0 2 f fd ["_law_deal", "_law_many"] spLot := by
  refine F.ok sc_l_lot (fun vs H Q E h => ?_) (fun cdv A outer s H vs Q E hr h => ?_)
  · obtain ⟨_, _, _, rfl, _⟩ := h
    rfl
  · obtain ⟨d, p, m, rfl, D, hm, q⟩ := h
    refine ⟨_, pss_one (ps_ret (pe_callTy (call_tupleK (K := K) rfl) (by rfl) T.tuple (by decide +kernel) (pa_cons (pe_lc (own := [("_law_level", 2)]) rfl sc_l_lot.nd (pi_range1 (by rfl) T.range (pa_cons (pv 1) pa_nil)) (blkOk_by (N := ["_law_deal", "_law_many", "_law_level"]) (sc := defScope S_l_lot) (by decide +kernel)) (fun _ _ _ _ _ => (pg_name (i := 2) sc_l_lot.nd rfl (Or.inl rfl))) (fun _ _ _ _ _ => (pts_one (pt_cmpR op_eq (pe_cl c__law_any hr (by decide) (by rfl) (pa_cons (pv 0) (pa_cons pe_int pa_nil))) pe_int (nomark _)))) (fun _ _ _ _ _ => (pv 2))) pa_nil))), ?_⟩
    walk_at "lc"
    refine rd_lcR ?_
    walk_at "lc"
    refine rd_rgn (n := m) (by omega) ?_
    refine lc_deal (n := m) (by omega) false D (fun _ _ (_ : Unit) => True) (fun _ _ _ _ _ h => h) (fun i H' N M hi k D' kN kM => ?_) (fun C acc zs H' hC k D' e _ _ _ => ?_)
    · walk_at "lc"
      refine ⟨wipe1 (by decide), ?_⟩
      walk_at "lc"
      refine ⟨d, p, 3, rfl, D', by decide, by decide, fun H1 r hr D1 k1 => ?_⟩
      walk_at "lc"
      refine by_test (fun h => ?_) (fun h => ?_)
      · walk_at "lc"
        exact kN _ () _ k1 D1 trivial
      · exact kM rfl _ k1 D1
    · walk_at "lc"
      refine rd_tupleL e fun t ht => ?_
      exact q _ t (D'.same (same_new ht)) (k.then_same (same_new ht))
end
end Lk
/-! The law's drawings: an order. -/
namespace Lk
open PySem PySem.Spec PyProof.Rows L2
def PairAt (m : Nat) (H : Hp) (v : V) : Prop := ∃ (a : Addr) (lo hi : Nat), v = .ref a ∧ H a = some (.tup [.int (lo : Nat), .int (hi : Nat)]) ∧ lo < m ∧ hi < m
theorem PairAt.ts {m : Nat} {H H' : Hp} (t : Ts H H') {v : V} (h : PairAt m H v) : PairAt m H' v := let ⟨a, lo, hi, e, h1, h2⟩ := h; ⟨a, lo, hi, e, t _ _ h1, h2⟩
/-- numbers below m, all unlike, in a list of their own -/
def LvAt (m : Nat) (b : Addr) (H : Hp) (v : V) : Prop := ∃ (a : Addr) (xs : List Int), v = .ref a ∧ a ≠ b ∧ H a = some (il xs) ∧ xs.Nodup ∧ ∀ x, x ∈ xs → 0 ≤ x ∧ x < (m : Nat)
theorem LvAt.kp {m : Nat} {b : Addr} {H H' : Hp} (k : Kp (· = b) H H') {v : V} (h : LvAt m b H v) : LvAt m b H' v := let ⟨a, xs, e, n, h1, h2⟩ := h; ⟨a, xs, e, n, k _ _ h1 n, h2⟩
theorem filt_new (ys : List Int) : ∀ xs : List Int, (xs.filterMap fun x => if x ∈ ys then none else some x) = xs.filter fun x => !decide (x ∈ ys)
  | [] => rfl
  | x :: t => by
    rw [List.filterMap_cons, List.filter_cons, filt_new ys t]
    by_cases h : x ∈ ys
    · simp [h]
    · simp [h]
theorem nodup_new {xs ys : List Int} (h1 : xs.Nodup) (h2 : ys.Nodup) : (ys ++ xs.filterMap fun x => if x ∈ ys then none else some x).Nodup := by
  rw [filt_new]
  refine List.nodup_append.mpr ⟨h2, h1.filter _, fun a ha b hb q => ?_⟩
  subst q
  have := (List.mem_filter.mp hb).2
  simp [ha] at this
def spClosed : Sp := fun vs H Q _ => ∃ (m : Nat) (pr : Addr) (ps : List V), vs = [.int (m : Nat), .ref pr] ∧ 1 ≤ m ∧ m ≤ 60 ∧ H pr = some (.lst ps) ∧ (∀ v, v ∈ ps → PairAt m H v) ∧ ∀ H' a os, Same H H' → H' a = some (.tup os) → os.length = m → Q (.ref a) H'
def spOrder : Sp := fun vs H Q _ => ∃ (d p : Addr), vs = [.ref d] ∧ Dl H d p ∧ ∀ H' a os m, 1 ≤ m → m ≤ 4 → H' a = some (.tup os) → os.length = m → Dl H' d p → Kp (DP d p) H H' → Q (.ref a) H'
theorem min_nat {i j : Nat} : (if (j : Int) < (i : Int) then ((j : Nat) : Int) else ((i : Nat) : Int)) = ((if j < i then j else i : Nat) : Int) := by
  by_cases h : j < i
  · rw [if_pos h, if_pos (by omega)]
  · rw [if_neg h, if_neg (by omega)]
theorem max_nat {i j : Nat} : (if (j : Int) > (i : Int) then ((j : Nat) : Int) else ((i : Nat) : Int)) = ((if j > i then j else i : Nat) : Int) := by
  by_cases h : j > i
  · rw [if_pos h, if_pos (by omega)]
  · rw [if_neg h, if_neg (by omega)]
section
variable {P : Program} {w : World} {K : PySem.W.Frag} {mg : Str → Option Value} {base : Heap}
theorem sc_l_closed : FnScope ["_law_many", "_law_pairs", "_law_below", "_law_turn", "_law_low", "_law_high", "_law_level", "_law_one", "_law_lot_here"] ["_law_many", "_law_pairs"] (defScope S_l_closed) := ⟨rfl, rfl, rfl, by decide +kernel, rfl, by decide +kernel, by decide +kernel⟩
theorem ok_l_closed {f : Addr} {fd : FuncData} (F : Fun K "_law_closed" "_law_closed" S_l_closed f fd) (T : Tx mg) : FnOk P w K mg base CX0 1 f fd ["_law_many", "_law_pairs"] spClosed := by
  refine F.ok sc_l_closed (fun vs H Q E h => ?_) (fun cdv A outer s H vs Q E hr h => ?_)
  · obtain ⟨_, _, _, rfl, _⟩ := h
    rfl
  · obtain ⟨m, pr, ps, rfl, hm1, hm, hpr, hps, q⟩ := h
    refine ⟨_, pss_cons (ps_set (i := 2) sc_l_closed.nd rfl (Or.inr rfl) (pe_lc (own := [("_law_level", 6)]) rfl sc_l_closed.nd (pi_range1 (by rfl) T.range (pa_cons (pv 0) pa_nil)) (blkOk_by (N := ["_law_many", "_law_pairs", "_law_below", "_law_turn", "_law_low", "_law_high", "_law_level", "_law_one", "_law_lot_here"]) (sc := defScope S_l_closed) (by decide +kernel)) (fun _ _ _ _ _ => (pg_name (i := 6) sc_l_closed.nd rfl (Or.inl rfl))) (fun _ _ _ _ _ => pts_nil) (fun _ _ _ _ _ => (pe_lst (pa_cons (pv 6) pa_nil))))) (
      pss_cons (ps_for PassesOwn.never rfl (pi_range1 (by rfl) T.range (pa_cons (pv 0) pa_nil)) (pg_name (i := 3) sc_l_closed.nd rfl (Or.inl rfl)) (pss_one (ps_for PassesOwn.never rfl (pi_listK (K := K) rfl (pv 1)) (pg_tupK (K := K) (n := 2) rfl rfl (pgs_cons (pg_name (i := 4) sc_l_closed.nd rfl (Or.inl rfl)) (pgs_cons (pg_name (i := 5) sc_l_closed.nd rfl (Or.inr rfl)) pgs_nil))) (pss_one (ps_asg (pe_callB cr_sorted (by rfl) T.sorted (by decide +kernel) (pa_cons (pe_op op_cat (pe_ix (ix_ltK (K := K) rfl) (pv 2) (pv 5) (fun _ _ => rfl)) (pe_lc (own := [("_law_one", 7)]) rfl sc_l_closed.nd (pi_listK (K := K) rfl (pe_ix (ix_ltK (K := K) rfl) (pv 2) (pv 4) (fun _ _ => rfl))) (blkOk_by (N := ["_law_many", "_law_pairs", "_law_below", "_law_turn", "_law_low", "_law_high", "_law_level", "_law_one", "_law_lot_here"]) (sc := defScope S_l_closed) (by decide +kernel)) (fun _ _ _ _ _ => (pg_name (i := 7) sc_l_closed.nd rfl (Or.inl rfl))) (fun _ _ _ _ _ => (pts_one (pt_cmpR (op_ninK (K := K) rfl) (pv 7) (pe_ix (ix_ltK (K := K) rfl) (pv 2) (pv 5) (fun _ _ => rfl)) rfl))) (fun _ _ _ _ _ => (pv 7)))) pa_nil)) (pg_sub (pv 2) (pv 5) set_list)))))) (
      pss_one (ps_ret (pe_callTy (call_tupleK (K := K) rfl) (by rfl) T.tuple (by decide +kernel) (pa_cons (pe_lc (own := [("_law_lot_here", 8)]) rfl sc_l_closed.nd (pi_listK (K := K) rfl (pv 2)) (blkOk_by (N := ["_law_many", "_law_pairs", "_law_below", "_law_turn", "_law_low", "_law_high", "_law_level", "_law_one", "_law_lot_here"]) (sc := defScope S_l_closed) (by decide +kernel)) (fun _ _ _ _ _ => (pg_name (i := 8) sc_l_closed.nd rfl (Or.inl rfl))) (fun _ _ _ _ _ => pts_nil) (fun _ _ _ _ _ => (pe_callTy (call_tupleK (K := K) rfl) (by rfl) T.tuple (by decide +kernel) (pa_cons (pv 8) pa_nil)))) pa_nil))))), ?_⟩
    walk_at "lc"
    refine rd_lcR ?_
    walk_at "lc"
    refine rd_rgn (n := m) (by omega) ?_
    refine fun b hb => lc_range (n := m) (fun i H' => Same H H' ∧ ∃ bs, H' b = some (.lst bs) ∧ bs.length = i ∧ ∀ v, v ∈ bs → LvAt m b H' v) ⟨same_new hb, [], upd_same, rfl, fun v h => absurd h List.not_mem_nil⟩ (fun i H' hi h => ?_) (fun H1 h => ?_)
    · obtain ⟨s1, bs, e, l, g⟩ := h
      rw [Int.zero_add]
      walk_at "lc"
      refine ⟨wipe1 (by decide), ?_⟩
      refine rd_yes ?_
      walk_at "lc"
      refine rd_lst ?_
      walk_at "lc"
      refine ⟨(by show 1 ≤ sizeLine; decide), fun c hc => ?_⟩
      have ncb : c ≠ b := fun z => by
        rw [z, e] at hc
        cases hc
      have s2 : Same H' (upd H' c (il [(i : Int)])) := same_new hc
      have kb : Kp (· = b) H' (upd (upd H' c (il [(i : Int)])) b (.lst (bs ++ [.ref c]))) := same_then s2 (kp_upd rfl)
      refine ⟨bs, s2 _ _ e, Nat.lt_of_le_of_lt (show bs.length ≤ 100 by omega) (by decide), fun x o ex => ?_, bs ++ [.ref c], upd_same, by rw [List.length_append, List.length_singleton, l], fun v hv => ?_⟩
      · rw [upd_ne (ne_of_none ex hb)]
        exact s2 _ _ (s1 _ _ ex)
      · rcases List.mem_append.mp hv with z | z
        · exact (g v z).kp kb
        · rw [List.mem_singleton.mp z]
          refine ⟨c, [(i : Int)], rfl, ncb, ?_, List.nodup_cons.mpr ⟨List.not_mem_nil, List.nodup_nil⟩, fun x hx => ?_⟩
          · rw [upd_ne ncb, upd_same]
            rfl
          · rw [List.mem_singleton.mp hx]
            omega
    · walk_at "lc"
      refine rd_for1 ?_
      walk_at "lc"
      refine rd_rng (n := m) (by omega) (fun _ σ H' => (∃ t3 t4 t5 t6 t7 t8, σ = [some (.int (m : Nat)), some (.ref pr), some (.ref b), t3, t4, t5, t6, t7, t8]) ∧ Same H H' ∧ ∃ bs, H' b = some (.lst bs) ∧ bs.length = m ∧ ∀ v, v ∈ bs → LvAt m b H' v) ⟨⟨_, _, _, _, _, _, rfl⟩, h⟩ (fun i σ H2 hi h => ?_) (fun σ H2 h => ?_)
      · obtain ⟨⟨t3, t4, t5, t6, t7, t8, rfl⟩, h2⟩ := h
        have hpr2 := h2.1 _ _ hpr
        walk_at "lc"
        refine rd_forL ?_
        walk_at "lc"
        refine for_wkL hpr2 (fun _ σ H' => (∃ t3 t4 t5 t6 t7 t8, σ = [some (.int (m : Nat)), some (.ref pr), some (.ref b), t3, t4, t5, t6, t7, t8]) ∧ Same H H' ∧ ∃ bs, H' b = some (.lst bs) ∧ bs.length = m ∧ ∀ v, v ∈ bs → LvAt m b H' v) ⟨⟨_, _, _, _, _, _, rfl⟩, h2⟩ (fun _ _ H' h => h.2.1 _ _ hpr) (fun j x σ H3 hx h => ?_) (fun σ H3 h => h)
        obtain ⟨⟨t3, t4, t5, t6, t7, t8, rfl⟩, s3, bs, e3, l3, g3⟩ := h
        obtain ⟨xa, lo, hi', rfl, hxa, hlo, hhi⟩ := hps x (List.mem_of_getElem? hx)
        have hxa3 := s3 _ _ hxa
        have glo : bs[lo]? = some bs[lo] := List.getElem?_eq_getElem (by omega)
        have ghi : bs[hi']? = some bs[hi'] := List.getElem?_eq_getElem (by omega)
        obtain ⟨la, ls, el, nlb, hla, ndl, bdl⟩ := g3 _ (List.mem_of_getElem? glo)
        obtain ⟨ra, rs, er, nrb, hra, ndr, bdr⟩ := g3 _ (List.mem_of_getElem? ghi)
        rw [el] at glo
        rw [er] at ghi
        walk_at "lc"
        refine lc_filt (wkL hla) ls (fun x => if x ∈ rs then none else some x) (fun _ v x => v = .int x) (fun _ _ _ _ _ h => h) (by rw [List.length_map]) (by rw [List.length_map]; have := nodup_le m ndl bdl; omega) (fun i x y H' N M hx hy sm kN kM => ?_) (fun D acc H4 hD sm e f => ?_)
        · rw [List.getElem?_map, hy] at hx
          cases hx
          have e3' := sm _ _ e3
          have hra' := sm _ _ hra
          walk_at "lc"
          refine ⟨wipe1 (by decide), ?_⟩
          walk_at "lc"
          refine rd_nin (decide (y ∈ rs)) (.inl hra') rfl (flat_ints rs) inV_int ?_
          by_cases hy2 : y ∈ rs
          · rw [decide_eq_true hy2]
            walk_at "lc"
            exact kM _ (if_pos hy2) (Same.refl _)
          · rw [decide_eq_false hy2]
            walk_at "lc"
            exact kN _ _ _ (if_neg hy2) (Same.refl _) rfl
        · have ef := f2_map f
          have nd := nodup_new ndl ndr
          have bd : ∀ x, x ∈ (rs ++ ls.filterMap fun x => if x ∈ rs then none else some x) → 0 ≤ x ∧ x < (m : Nat) := fun x hx => by
            rcases List.mem_append.mp hx with z | z
            · exact bdr x z
            · rw [filt_new] at z
              exact bdl x (List.mem_filter.mp z).1
          generalize (ls.filterMap fun x => if x ∈ rs then none else some x) = us at ef nd bd
          have lz := nodup_le m nd bd
          rw [List.length_append] at lz
          subst ef
          have hra4 := sm _ _ hra
          refine rd_cat hra4 e (Nat.le_trans (show (rs.map V.int).length + (us.map V.int).length ≤ 100 by rw [List.length_map, List.length_map]; omega) (by decide)) fun c hc => ?_
          rw [← List.map_append]
          have sc := sm.trans (same_new (o := .lst ((rs ++ us).map V.int)) hc)
          walk_at "lc"
          refine ⟨c, rs ++ us, rfl, SqL.of upd_same, by rw [List.length_append]; omega, fun ns' p2 pm _ hp2 => ?_⟩
          have sp := sc.trans (same_new (o := .lst (ns'.map V.int)) hp2)
          have hbp : p2 ≠ b := fun z => by
            rw [z, sc _ _ e3] at hp2
            cases hp2
          have hp2' : upd (upd H4 c (.lst ((rs ++ us).map V.int))) p2 (.lst (ns'.map V.int)) p2 = some (il ns') := upd_same
          generalize upd (upd H4 c (.lst ((rs ++ us).map V.int))) p2 (.lst (ns'.map V.int)) = H5 at sp hp2'
          have e5 := sp _ _ e3
          walk_at "lc"
          refine rd_set e5 (by omega) ?_
          have kb : Kp (· = b) H3 (upd H5 b (.lst (bs.set hi' (.ref p2)))) := same_then sp (kp_upd rfl)
          refine ⟨⟨_, _, _, _, _, _, rfl⟩, fun x o ex => kb _ _ (s3 _ _ ex) (ne_of_none ex hb), bs.set hi' (.ref p2), upd_same, by rw [List.length_set, l3], fun v hv => ?_⟩
          rcases List.mem_or_eq_of_mem_set hv with z | z
          · exact (g3 v z).kp kb
          · rw [z]
            refine ⟨p2, ns', rfl, hbp, by rw [upd_ne hbp]; exact hp2', pm.nodup_iff.mpr nd, fun x hx => bd x (pm.mem_iff.mp hx)⟩
      · obtain ⟨⟨t3, t4, t5, t6, t7, t8, rfl⟩, s2, bs, e2, l2, g2⟩ := h
        walk_at "lc"
        refine lc_all (wkL e2) bs (fun _ _ _ => True) (fun _ _ _ _ _ h => h) rfl (by omega) (fun i x y H' N hx hy sm kN => ?_) (fun D acc H4 hD sm e f => ?_)
        · obtain ⟨xa, xs, rfl, _, hxa, _⟩ := g2 x (List.mem_of_getElem? hx)
          have hxa' := sm _ _ hxa
          walk_at "lc"
          refine ⟨wipe1 (by decide), ?_⟩
          walk_at "lc"
          exact rd_tupleL hxa' fun l hl => kN _ _ (same_new hl) trivial
        · walk_at "lc"
          refine rd_tupleL e fun t ht => ?_
          exact q _ t acc ((s2.trans sm).trans (same_new ht)) upd_same (by rw [f.1, l2])
theorem sc_l_order : FnScope ["_law_deal", "_law_many", "_law_row", "_law_pairs", "_law_turn", "_law_a", "_law_b"] ["_law_deal"] (defScope S_l_order) := ⟨rfl, rfl, rfl, by decide +kernel, rfl, by decide +kernel, by decide +kernel⟩
theorem ok_l_order {f : Addr} {fd : FuncData} (F : Fun K "_law_order" "_law_order" S_l_order f fd) (T : Tx mg) (c__law_any : Cl P w K mg base 1 "_law_any" ["_law_deal", "_law_bound"] spAny) (c__law_mixed : Cl P w K mg base 2 "_law_mixed" ["_law_deal", "_law_some"] spMixed)
    (c__law_closed : Cl P w K mg base 1 "_law_closed" ["_law_many", "_law_pairs"] spClosed) : FnOk P w K mg base CX0 3 f fd ["_law_deal"] spOrder := by
  refine F.ok sc_l_order (fun vs H Q E h => ?_) (fun cdv A outer s H vs Q E hr h => ?_)
  · obtain ⟨_, _, rfl, _⟩ := h
    rfl
  · obtain ⟨d, p, rfl, D, q⟩ := h
    refine ⟨_, pss_cons (ps_set (i := 1) sc_l_order.nd rfl (Or.inl rfl) (pe_op op_add pe_int (pe_cl c__law_any hr (by decide) (by rfl) (pa_cons (pv 0) (pa_cons pe_int pa_nil))))) (
      pss_cons (ps_par (i := 2) (j := 3) rfl sc_l_order.nd rfl rfl (by decide) rfl rfl (pa_cons (pe_cl c__law_mixed hr (by decide) (by rfl) (pa_cons (pv 0) (pa_cons (pe_listRg rfl (by rfl) T.list (prg_1 (by rfl) T.range (pv 1))) pa_nil))) (pa_cons (pe_lst pa_nil) pa_nil)) (by rfl)) (
      pss_cons (ps_for PassesOwn.never rfl (pi_range1 (by rfl) T.range (pa_cons (pe_cl c__law_any hr (by decide) (by rfl) (pa_cons (pv 0) (pa_cons (pe_op op_mul pe_int (pv 1)) pa_nil))) pa_nil)) (pg_name (i := 4) sc_l_order.nd rfl (Or.inl rfl)) (pss_cons (ps_par (i := 5) (j := 6) rfl sc_l_order.nd rfl rfl (by decide) rfl rfl (pa_cons (pe_cl c__law_any hr (by decide) (by rfl) (pa_cons (pv 0) (pa_cons (pv 1) pa_nil))) (pa_cons (pe_cl c__law_any hr (by decide) (by rfl) (pa_cons (pv 0) (pa_cons (pv 1) pa_nil))) pa_nil)) (by rfl)) (pss_one (ps_expr (pe_bm PySem.F.plainAttrs_list PySem.F.slot_list_append PySem.F.type_list_append  mt_append (pv 3) (pa_cons (pe_tup (pa_cons (pe_ix (ix_ltK (K := K) rfl) (pv 2) (pe_callB (call_min2 rfl) (by rfl) T.min (by decide +kernel) (pa_cons (pv 5) (pa_cons (pv 6) pa_nil))) (fun _ _ => rfl)) (pa_cons (pe_ix (ix_ltK (K := K) rfl) (pv 2) (pe_callB (call_max2 rfl) (by rfl) T.max (by decide +kernel) (pa_cons (pv 5) (pa_cons (pv 6) pa_nil))) (fun _ _ => rfl)) pa_nil))) pa_nil)))))) (
      pss_one (ps_ret (pe_cl c__law_closed hr (by decide) (by rfl) (pa_cons (pv 1) (pa_cons (pv 3) pa_nil))))))), ?_⟩
    walk_at "lc"
    refine ⟨d, p, 4, rfl, D, by decide, by decide, fun H1 r hr1 D1 k1 => ?_⟩
    walk_at "lc"
    have em : (1 : Int) + ((r : Nat) : Int) = ((1 + r : Nat) : Int) := by omega
    rw [em]
    have hm1 : 1 ≤ 1 + r := by omega
    have hm4 : 1 + r ≤ 4 := by omega
    generalize 1 + r = m at hm1 hm4
    refine rd_lrg (n := m) (fun R h => ⟨_, rfl, _, rfl, h⟩) (by omega) fun l hl => ?_
    walk_at "lc"
    have sl : Same H1 (upd H1 l (il ((List.range m).map Int.ofNat))) := same_new hl
    refine ⟨d, p, l, (List.range m).map Int.ofNat, rfl, D1.same sl, upd_same, by rw [List.length_map, List.length_range]; omega, fun H2 row ms hrow lms bms hrow0 D2 k2 => ?_⟩
    have nr := (D1.same sl).new hrow0
    have k12 := (k1.then_same sl).tr k2
    rw [List.length_map, List.length_range] at lms
    walk_at "lc"
    refine rd_lst ?_
    walk_at "lc"
    refine ⟨Nat.zero_le _, fun b hb => ?_⟩
    have nb := D2.new hb
    have nrb : row ≠ b := ne_of_none hrow hb
    walk_at "lc"
    refine rd_for1 ?_
    walk_at "lc"
    refine rd_mul (.inl ⟨by decide, by decide⟩) ?_
    have em2 : (2 : Int) * ((m : Nat) : Int) = ((2 * m : Nat) : Int) := by omega
    rw [em2]
    walk_at "lc"
    refine ⟨d, p, 2 * m, rfl, D2.same (same_new hb), by omega, by omega, fun H3 t ht D3 k3 => ?_⟩
    have hb3 : H3 b = some (.lst []) := kd_at k3 upd_same nb
    have hrow3 : H3 row = some (il ms) := kd_at k3 (same_new hb _ _ hrow) nr
    have k13 := (k12.then_same (same_new hb)).tr k3
    have hb0 : H b = none := by
      cases z : H b with
      | none => rfl
      | some o =>
        have := k12 b o z fun y => y.elim nb.1 nb.2
        rw [this] at hb
        cases hb
    walk_at "lc"
    refine rd_rng (n := t) (by omega) (fun i σ H' => (∃ t4 t5 t6, σ = [some (.ref d), some (.int (m : Nat)), some (.ref row), some (.ref b), t4, t5, t6]) ∧ Dl H' d p ∧ Kp (DP d p) H H' ∧ H' row = some (il ms) ∧ ∃ ps, H' b = some (.lst ps) ∧ ps.length = i ∧ ∀ v, v ∈ ps → PairAt m H' v)
      ⟨⟨_, _, _, rfl⟩, D3, k13, hrow3, [], hb3, rfl, fun v h => absurd h List.not_mem_nil⟩ (fun i σ H4 hi h => ?_) (fun σ H4 h => ?_)
    · obtain ⟨⟨t4, t5, t6, rfl⟩, D4, k4, hrow4, ps, hb4, lps, gps⟩ := h
      walk_at "lc"
      refine ⟨d, p, m, rfl, D4, by omega, by omega, fun H5 x hx D5 k5 => ?_⟩
      walk_at "lc"
      refine ⟨d, p, m, rfl, D5, by omega, by omega, fun H6 y hy D6 k6 => ?_⟩
      have k46 := k5.tr k6
      have hb6 := kd_at k46 hb4 nb
      have hrow6 := kd_at k46 hrow4 nr
      walk_at "lc"
      refine rd_tup ?_
      walk_at "lc"
      refine ⟨_, _, rfl, ?_⟩
      rw [min_nat]
      have hlo : (if y < x then y else x) < ms.length := by rw [lms]; split <;> omega
      have hhi : (if y > x then y else x) < ms.length := by rw [lms]; split <;> omega
      generalize (if y < x then y else x) = lo at hlo
      have e1 : (ms.map V.int)[lo]? = some (.int ms[lo]) := by rw [List.getElem?_map, List.getElem?_eq_getElem hlo]; rfl
      walk_at "lc"
      refine ⟨_, _, rfl, ?_⟩
      rw [max_nat]
      generalize (if y > x then y else x) = hi' at hhi
      have e2 : (ms.map V.int)[hi']? = some (.int ms[hi']) := by rw [List.getElem?_map, List.getElem?_eq_getElem hhi]; rfl
      walk_at "lc"
      refine ⟨(by show 2 ≤ sizeLine; decide), fun c hc => ?_⟩
      have fromR : ∀ z : Int, z ∈ ms → ∃ n : Nat, z = (n : Nat) ∧ n < m := fun z hz => by
        obtain ⟨n, h1, h2⟩ := List.mem_map.mp (bms z hz)
        exact ⟨n, h2.symm, List.mem_range.mp h1⟩
      obtain ⟨n1, z1, z2⟩ := fromR ms[lo] (List.getElem_mem hlo)
      obtain ⟨n2, z3, z4⟩ := fromR ms[hi'] (List.getElem_mem hhi)
      have sc : Same H6 (upd H6 c (.tup [.int ms[lo], .int ms[hi']])) := same_new hc
      have hbc := sc _ _ hb6
      have nbc : b ≠ c := ne_of_none hb6 hc
      walk_at "lc"
      refine rd_append hbc (Nat.lt_of_le_of_lt (show ps.length ≤ 100 by omega) (by decide)) ?_
      have tsb : Ts (upd H6 c (.tup [.int ms[lo], .int ms[hi']])) (upd (upd H6 c (.tup [.int ms[lo], .int ms[hi']])) b (.lst (ps ++ [.ref c]))) := ts_upd fun xs q => by
        rw [hbc] at q
        cases q
      refine ⟨⟨_, _, _, rfl⟩, (D6.same sc).upd nb.1 nb.2, fun x o e n => ?_, by rw [upd_ne nrb]; exact sc _ _ hrow6, ps ++ [.ref c], upd_same, by rw [List.length_append, List.length_singleton, lps], fun v hv => ?_⟩
      · rw [upd_ne (ne_of_none e hb0)]
        exact sc _ _ (k46 x o (k4 x o e n) n)
      · rcases List.mem_append.mp hv with z | z
        · exact (gps v z).ts (((D4.ts k46).trans (Ts.same sc)).trans tsb)
        · rw [List.mem_singleton.mp z]
          refine ⟨c, n1, n2, rfl, ?_, z2, z4⟩
          rw [upd_ne (Ne.symm nbc), upd_same, z1, z3]
    · obtain ⟨⟨t4, t5, t6, rfl⟩, D4, k4, hrow4, ps, hb4, lps, gps⟩ := h
      walk_at "lc"
      refine ⟨m, b, ps, rfl, hm1, by omega, hb4, gps, fun H5 a os s5 ha lo => ?_⟩
      exact q _ a os m hm1 hm4 ha lo (D4.same s5) (k4.then_same s5)
end
end Lk
/-! The law's drawings: an instruction. -/
namespace Lk
open PySem PySem.Spec PyProof.Rows L2
/-- an instruction's numbers are in range -/
def InsB (h b r lv m : Nat) : Ins → Prop
  | .push _ n => 0 ≤ n ∧ n < 256
  | .op o w => o < 12 ∧ 1 ≤ w ∧ w ≤ 8
  | .out l => l < lv
  | .take l w => l < lv ∧ w ≤ 8
  | .loc i | .keep i => i < h
  | .box i | .fill i => i < b
  | .cell i | .cells i => i < r
  | .els j | .jump j => j < m
  | _ => True
theorem InsB.arg {h b r lv m : Nat} {c : Ins} (z : InsB h b r lv m c) {I : Img} {T : Thr} (e1 : T.ws.length = h) (e2 : I.boxes.length = b) (e3 : I.rows.length = r) (e4 : I.lv = lv) (l4 : lv ≤ 4) (e5 : T.code.length = m) : InsArg I T c := by
  subst e1 e2 e3 e4 e5
  cases c <;> first
    | exact z
    | trivial
    | exact Nat.lt_of_lt_of_le z l4
def Cand (h b r lv m : Nat) (H : Hp) (v : V) : Prop := ∃ c, InsAt H v c ∧ InsB h b r lv m c
theorem Cand.ts {h b r lv m : Nat} {H H' : Hp} (t : Ts H H') {v : V} (z : Cand h b r lv m H v) : Cand h b r lv m H' v := let ⟨c, x, y⟩ := z; ⟨c, x.ts t, y⟩
/-- an element that draws and gives a thing of G -/
def Ye (G : Hp → V → Prop) (d p : Addr) (te : TE) (σ : L2.St) : Prop := ∀ H Q, Dl H d p → (∀ H' v, Dl H' d p → Kp (DP d p) H H' → G H' v → Q v H') → te σ H Q
def Yl (G : Hp → V → Prop) (d p : Addr) (t : TA) (σ : L2.St) (n : Nat) : Prop := ∀ H QA, Dl H d p → (∀ H' xs, Dl H' d p → Kp (DP d p) H H' → xs.length = n → (∀ v, v ∈ xs → G H' v) → QA xs H') → t σ H QA
section
variable {G : Hp → V → Prop} {d p : Addr} {te : TE} {t : TA} {σ : L2.St} {n : Nat}
theorem yl_nil : Yl G d p tNil σ 0 := fun H QA D q => q H [] D (Kp.refl H) rfl fun v h => absurd h List.not_mem_nil
theorem yl_cons (hG : ∀ H H' v, Ts H H' → G H v → G H' v) (he : Ye G d p te σ) (ht : Yl G d p t σ n) : Yl G d p (tCons te t) σ (n + 1) := fun H QA D q =>
  he H _ D fun H1 v D1 k1 g1 => ht H1 _ D1 fun H2 xs D2 k2 l2 g2 => q H2 (v :: xs) D2 (k1.tr k2) (by rw [List.length_cons, l2]) fun u hu => by
    rcases List.mem_cons.mp hu with z | z
    · rw [z]
      exact hG _ _ v (D1.ts k2) g1
    · exact g2 u z
theorem ye_new {xs : List V} (hz : xs.length ≤ 100) (ht : ∀ H QA, Dl H d p → (∀ H', Dl H' d p → Kp (DP d p) H H' → QA xs H') → t σ H QA) (g : ∀ H a, H a = some (.tup xs) → G H (.ref a)) : Ye G d p (tTup t) σ := fun H Q D q =>
  ht H _ D fun H1 D1 k1 => ⟨Nat.le_trans hz (by decide), fun a ha => q _ _ (D1.same (same_new ha)) (k1.then_same (same_new ha)) (g _ a upd_same)⟩
/-- a tuple of written things -/
theorem ye_1 {x : V} (g : ∀ H a, H a = some (.tup [x]) → G H (.ref a)) : Ye G d p (tTup (tCons (tC x) tNil)) σ := ye_new (by show 1 ≤ 100; decide) (fun H QA D q => q H D (Kp.refl H)) g
/-- (x, any(n)) -/
theorem ye_any {x : V} {tn : TE} {N : Nat} (h0 : σ[0]? = some (some (.ref d))) (htn : ∀ H Q, Q (.int (N : Nat)) H → tn σ H Q) (hN : 0 < N) (hN2 : N ≤ 1000) (g : ∀ (r : Nat) H a, r < N → H a = some (.tup [x, .int (r : Nat)]) → G H (.ref a)) :
    Ye G d p (tTup (tCons (tC x) (tCons (tCall spAny [] E0 (tCons (tVar 0) (tCons tn tNil))) tNil))) σ := fun H Q D q => by
  refine rd_tup (rd_cons (rd_c (rd_cons (rd_call (rd_cons (rd_var h0 (rd_cons (htn _ _ (rd_nil ?_)))))))))
  refine ⟨d, p, N, rfl, D, hN, hN2, fun H1 r hr D1 k1 => ⟨(show 2 ≤ sizeLine by decide), fun a ha => ?_⟩⟩
  exact q _ _ (D1.same (same_new ha)) (k1.then_same (same_new ha)) (g r _ a hr upd_same)
/-- (x, any(n), v) -/
theorem ye_any2 {x v : V} {tn : TE} {N j : Nat} (h0 : σ[0]? = some (some (.ref d))) (htn : ∀ H Q, Q (.int (N : Nat)) H → tn σ H Q) (hv : σ[j]? = some (some v)) (hN : 0 < N) (hN2 : N ≤ 1000) (g : ∀ (r : Nat) H a, r < N → H a = some (.tup [x, .int (r : Nat), v]) → G H (.ref a)) :
    Ye G d p (tTup (tCons (tC x) (tCons (tCall spAny [] E0 (tCons (tVar 0) (tCons tn tNil))) (tCons (tVar j) tNil)))) σ := fun H Q D q => by
  refine rd_tup (rd_cons (rd_c (rd_cons (rd_call (rd_cons (rd_var h0 (rd_cons (htn _ _ (rd_nil ?_)))))))))
  refine ⟨d, p, N, rfl, D, hN, hN2, fun H1 r hr D1 k1 => rd_cons (rd_var hv ⟨(show 3 ≤ sizeLine by decide), fun a ha => ?_⟩)⟩
  exact q _ _ (D1.same (same_new ha)) (k1.then_same (same_new ha)) (g r _ a hr upd_same)
/-- (x, v, any(n)) -/
theorem ye_any3 {x v : V} {tn : TE} {N j : Nat} (h0 : σ[0]? = some (some (.ref d))) (htn : ∀ H Q, Q (.int (N : Nat)) H → tn σ H Q) (hv : σ[j]? = some (some v)) (hN : 0 < N) (hN2 : N ≤ 1000) (g : ∀ (r : Nat) H a, r < N → H a = some (.tup [x, v, .int (r : Nat)]) → G H (.ref a)) :
    Ye G d p (tTup (tCons (tC x) (tCons (tVar j) (tCons (tCall spAny [] E0 (tCons (tVar 0) (tCons tn tNil))) tNil)))) σ := fun H Q D q => by
  refine rd_tup (rd_cons (rd_c (rd_cons (rd_var hv (rd_cons (rd_call (rd_cons (rd_var h0 (rd_cons (htn _ _ (rd_nil ?_)))))))))))
  refine ⟨d, p, N, rfl, D, hN, hN2, fun H1 r hr D1 k1 => ⟨(show 3 ≤ sizeLine by decide), fun a ha => ?_⟩⟩
  exact q _ _ (D1.same (same_new ha)) (k1.then_same (same_new ha)) (g r _ a hr upd_same)
/-- (x, of([..]), v) -/
theorem ye_op {x v : V} {tl : TA} {j : Nat} (h0 : σ[0]? = some (some (.ref d))) (ht : ∀ H QA, QA (opns.map V.str) H → tl σ H QA) (hv : σ[j]? = some (some v)) (g : ∀ (o : Nat) H a, o < 12 → H a = some (.tup [x, .str (opn o), v]) → G H (.ref a)) :
    Ye G d p (tTup (tCons (tC x) (tCons (tCall spOf [] E0 (tCons (tVar 0) (tCons (tLst tl) tNil))) (tCons (tVar j) tNil)))) σ := fun H Q D q => by
  refine rd_tup (rd_cons (rd_c (rd_cons (rd_call (rd_cons (rd_var h0 (rd_cons (rd_lst (ht _ _ ⟨(show 12 ≤ sizeLine by decide), fun c hc => rd_nil ?_⟩)))))))))
  refine ⟨d, p, c, _, rfl, D.same (same_new hc), upd_same, D.new hc, by decide, by decide, fun H1 u hu D1 k1 => rd_cons (rd_var hv ⟨(show 3 ≤ sizeLine by decide), fun a ha => ?_⟩)⟩
  obtain ⟨z, hz, rfl⟩ := List.mem_map.mp hu
  obtain ⟨o, ho⟩ := List.getElem?_of_mem hz
  have ho2 : o < 12 := (List.getElem?_eq_some_iff.mp ho).1
  rw [opn_at ho2] at ho
  cases ho
  exact q _ _ (D1.same (same_new ha)) ((same_then (same_new hc) k1).then_same (same_new ha)) (g o _ a ho2 upd_same)
/-- a list of them -/
theorem yl_lst {H : Hp} {Q : VK} (Y : Yl G d p t σ n) (hG : ∀ H H' v, Ts H H' → G H v → G H' v) (hn : n ≤ 100) (D : Dl H d p) (q : ∀ H' c xs, Dl H' d p → Kp (DP d p) H H' → (c ≠ d ∧ c ≠ p) → H' c = some (.lst xs) → xs.length = n → (∀ v, v ∈ xs → G H' v) → Q (.ref c) H') : tLst t σ H Q :=
  Y H _ D fun H1 xs D1 k1 l1 g1 => ⟨Nat.le_trans (show xs.length ≤ 100 by omega) (by decide), fun c hc => q _ c xs (D1.same (same_new hc)) (k1.then_same (same_new hc)) (D1.new hc) upd_same l1 fun v hv => hG _ _ v (ts_new hc) (g1 v hv)⟩
/-- a list of some candidates at l -/
def Bg (G : Hp → V → Prop) (H : Hp) (d p l : Addr) (n : Nat) : Prop := Dl H d p ∧ (l ≠ d ∧ l ≠ p) ∧ ∃ xs, H l = some (.lst xs) ∧ xs.length = n ∧ ∀ v, v ∈ xs → G H v
theorem yl_cat {H : Hp} {Q : VK} {l : Addr} {m : Nat} (Y : Yl G d p t σ n) (hG : ∀ H H' v, Ts H H' → G H v → G H' v) (hn : n ≤ 100) (hm : m ≤ 100) (B : Bg G H d p l m) (q : ∀ H' c, Bg G H' d p c (m + n) → Kp (DP d p) H H' → Q (.ref c) H') :
    tLst t σ H fun y H2 => rCat (.ref l) y H2 Q := by
  obtain ⟨D, nl, xs, hl, lx, gx⟩ := B
  refine yl_lst Y hG hn D fun H1 c ys D1 k1 nc hc ly gy => ?_
  have hl1 := kd_at k1 hl nl
  refine rd_cat hl1 hc (Nat.le_trans (show xs.length + ys.length ≤ 200 by omega) (by decide)) fun e he => ?_
  refine q _ e ⟨D1.same (same_new he), D1.new he, xs ++ ys, upd_same, by rw [List.length_append, lx, ly], fun v hv => hG _ _ v (ts_new he) ?_⟩ (k1.then_same (same_new he))
  rcases List.mem_append.mp hv with z | z
  · exact hG _ _ v (D.ts k1) (gx v z)
  · exact gy v z
/-- l + [..] * 2 -/
theorem yl_cat2 {H : Hp} {Q : VK} {l : Addr} {m : Nat} (Y : Yl G d p t σ n) (hG : ∀ H H' v, Ts H H' → G H v → G H' v) (hn : n ≤ 100) (hm : m ≤ 100) (B : Bg G H d p l m) (q : ∀ H' c, Bg G H' d p c (m + (n + n)) → Kp (DP d p) H H' → Q (.ref c) H') :
    tLst t σ H fun y H2 => rRep y (.int 2) H2 fun y H2 => rCat (.ref l) y H2 Q := by
  obtain ⟨D, nl, xs, hl, lx, gx⟩ := B
  refine yl_lst Y hG hn D fun H1 c ys D1 k1 nc hc ly gy => ?_
  have hl1 := kd_at k1 hl nl
  refine ⟨c, 2, ys, rfl, rfl, hc, by omega, by omega, Nat.le_trans (show ys.length * 2 ≤ 200 by omega) (by decide), fun e he => ?_⟩
  have e2 : (List.replicate (2 : Int).toNat ys).flatten = ys ++ ys := by
    show (List.replicate 2 ys).flatten = ys ++ ys
    simp [List.replicate]
  rw [e2]
  have hl2 := same_new (o := .lst (ys ++ ys)) he _ _ hl1
  refine rd_cat hl2 upd_same (Nat.le_trans (show xs.length + (ys ++ ys).length ≤ 300 by rw [List.length_append]; omega) (by decide)) fun f hf => ?_
  have s2 := (same_new (o := .lst (ys ++ ys)) he).trans (same_new (o := .lst (xs ++ (ys ++ ys))) hf)
  have D2 := D1.same (same_new (o := .lst (ys ++ ys)) he)
  refine q _ f ⟨D1.same s2, D2.new hf, xs ++ (ys ++ ys), upd_same, by rw [List.length_append, List.length_append, lx, ly], fun v hv => hG _ _ v (Ts.same s2) ?_⟩ (k1.then_same s2)
  rcases List.mem_append.mp hv with z | z
  · exact hG _ _ v (D.ts k1) (gx v z)
  · rcases List.mem_append.mp z with z | z <;> exact gy v z
end
theorem rd_ifF {tt : TT} {tu tw : TS} {D : Ends} {σ : L2.St} {H : Hp} (Fv : L2.St → Hp → Prop) (hf : ∀ σ H, Fv σ H → D.nx σ H) (hw : (∀ σ H, Fv σ H → D.nx σ H) → tIfS tt tu tw D σ H) : tIfS tt tu tw D σ H := hw hf
theorem shl_nat (w : Nat) : (1 : Int) * 2 ^ ((w : Nat) : Int).toNat = ((2 ^ w : Nat) : Int) := by
  rw [Int.one_mul, Int.toNat_natCast]
  simp
theorem pow_256 {w : Nat} (h : w ≤ 8) : 0 < 2 ^ w ∧ 2 ^ w ≤ 256 := ⟨Nat.pow_pos (by decide), Nat.pow_le_pow_right (n := 2) (by decide) h⟩
def spInstr : Sp := fun vs H Q _ => ∃ (d p ba : Addr) (h b r lv at_ m : Nat), vs = [.ref d, .ref ba, .int (at_ : Nat), .int (m : Nat)] ∧ Dl H d p ∧ H ba = some (.tup [.int (h : Nat), .int (b : Nat), .int (r : Nat), .int (lv : Nat)]) ∧ h ≤ 100 ∧ b ≤ 100 ∧ r ≤ 100 ∧ 1 ≤ lv ∧ lv ≤ 4 ∧ 1 ≤ m ∧ m ≤ 100 ∧
  ∀ H' v, Cand h b r lv m H' v → Dl H' d p → Kp (DP d p) H H' → Q v H'
section
variable {P : Program} {w : World} {K : PySem.W.Frag} {mg : Str → Option Value} {base : Heap}
theorem sc_l_instruction : FnScope ["_law_deal", "_law_bounds", "_law_at", "_law_many", "_law_held", "_law_boxes", "_law_rows", "_law_levels", "_law_w", "_law_some"] ["_law_deal", "_law_bounds", "_law_at", "_law_many"] (defScope S_l_instruction) := ⟨rfl, rfl, rfl, by decide +kernel, rfl, by decide +kernel, by decide +kernel⟩
theorem ok_l_instruction {f : Addr} {fd : FuncData} (F : Fun K "_law_instruction" "_law_instruction" S_l_instruction f fd) (T : Tx mg) (c__law_any : Cl P w K mg base 1 "_law_any" ["_law_deal", "_law_bound"] spAny) (c__law_of : Cl P w K mg base 2 "_law_of" ["_law_deal", "_law_some"] spOf) :
    FnOk P w K mg base CX0 3 f fd ["_law_deal", "_law_bounds", "_law_at", "_law_many"] spInstr := by
  refine F.ok sc_l_instruction (fun vs H Q E h => ?_) (fun cdv A outer s H vs Q E hr h => ?_)
  · obtain ⟨_, _, _, _, _, _, _, _, _, rfl, _⟩ := h
    rfl
  · obtain ⟨d, p, ba, h, b, r, lv, at_, m, rfl, D, hba, h1, h2, h3, h4, h5, h6, h7, q⟩ := h
    refine ⟨_, pss_cons (ps_asg (pv 1) (pg_tupK (K := K) (n := 4) rfl rfl (pgs_cons (pg_name (i := 4) sc_l_instruction.nd rfl (Or.inl rfl)) (pgs_cons (pg_name (i := 5) sc_l_instruction.nd rfl (Or.inl rfl)) (pgs_cons (pg_name (i := 6) sc_l_instruction.nd rfl (Or.inl rfl)) (pgs_cons (pg_name (i := 7) sc_l_instruction.nd rfl (Or.inl rfl)) pgs_nil)))))) (
      pss_cons (ps_set (i := 8) sc_l_instruction.nd rfl (Or.inl rfl) (pe_cl c__law_of hr (by decide) (by rfl) (pa_cons (pv 0) (pa_cons (pe_lst (pa_cons pe_int (pa_cons pe_int (pa_cons pe_int (pa_cons pe_int pa_nil))))) pa_nil)))) (
      pss_cons (ps_set (i := 9) sc_l_instruction.nd rfl (Or.inl rfl) (pe_lst (pa_cons (pe_tup (pa_cons pe_str (pa_cons (pv 8) (pa_cons (pe_cl c__law_any hr (by decide) (by rfl) (pa_cons (pv 0) (pa_cons (pe_op op_shl pe_int (pv 8)) pa_nil))) pa_nil)))) (pa_cons (pe_tup (pa_cons pe_str (pa_cons (pv 8) (pa_cons (pe_cl c__law_any hr (by decide) (by rfl) (pa_cons (pv 0) (pa_cons (pe_op op_shl pe_int (pv 8)) pa_nil))) pa_nil)))) (pa_cons (pe_tup (pa_cons pe_str pa_nil)) pa_nil))))) (
      pss_cons (ps_set (i := 9) sc_l_instruction.nd rfl (Or.inl rfl) (pe_op op_cat (pv 9) (pe_op op_rep (pe_lst (pa_cons (pe_tup (pa_cons pe_str (pa_cons (pe_cl c__law_of hr (by decide) (by rfl) (pa_cons (pv 0) (pa_cons (pe_lst (pa_cons pe_str (pa_cons pe_str (pa_cons pe_str (pa_cons pe_str (pa_cons pe_str (pa_cons pe_str (pa_cons pe_str (pa_cons pe_str (pa_cons pe_str (pa_cons pe_str (pa_cons pe_str (pa_cons pe_str pa_nil))))))))))))) pa_nil))) (pa_cons (pv 8) pa_nil)))) pa_nil)) pe_int))) (
      pss_cons (ps_set (i := 9) sc_l_instruction.nd rfl (Or.inl rfl) (pe_op op_cat (pv 9) (pe_lst (pa_cons (pe_tup (pa_cons pe_str (pa_cons (pe_cl c__law_any hr (by decide) (by rfl) (pa_cons (pv 0) (pa_cons (pv 7) pa_nil))) pa_nil))) (pa_cons (pe_tup (pa_cons pe_str (pa_cons (pe_cl c__law_any hr (by decide) (by rfl) (pa_cons (pv 0) (pa_cons (pv 7) pa_nil))) pa_nil))) (pa_cons (pe_tup (pa_cons pe_str (pa_cons (pe_cl c__law_any hr (by decide) (by rfl) (pa_cons (pv 0) (pa_cons (pv 7) pa_nil))) (pa_cons (pv 8) pa_nil)))) pa_nil)))))) (
      pss_cons (ps_if (pt_cmpR op_gt (pv 4) pe_int (nomark _)) (pss_one (ps_set (i := 9) sc_l_instruction.nd rfl (Or.inl rfl) (pe_op op_cat (pv 9) (pe_lst (pa_cons (pe_tup (pa_cons pe_str (pa_cons (pe_cl c__law_any hr (by decide) (by rfl) (pa_cons (pv 0) (pa_cons (pv 4) pa_nil))) pa_nil))) (pa_cons (pe_tup (pa_cons pe_str (pa_cons (pe_cl c__law_any hr (by decide) (by rfl) (pa_cons (pv 0) (pa_cons (pv 4) pa_nil))) pa_nil))) pa_nil)))))) pss_nil) (
      pss_cons (ps_if (pt_cmpR op_gt (pv 5) pe_int (nomark _)) (pss_one (ps_set (i := 9) sc_l_instruction.nd rfl (Or.inl rfl) (pe_op op_cat (pv 9) (pe_lst (pa_cons (pe_tup (pa_cons pe_str (pa_cons (pe_cl c__law_any hr (by decide) (by rfl) (pa_cons (pv 0) (pa_cons (pv 5) pa_nil))) pa_nil))) (pa_cons (pe_tup (pa_cons pe_str (pa_cons (pe_cl c__law_any hr (by decide) (by rfl) (pa_cons (pv 0) (pa_cons (pv 5) pa_nil))) pa_nil))) pa_nil)))))) pss_nil) (
      pss_cons (ps_if (pt_cmpR op_gt (pv 6) pe_int (nomark _)) (pss_one (ps_set (i := 9) sc_l_instruction.nd rfl (Or.inl rfl) (pe_op op_cat (pv 9) (pe_lst (pa_cons (pe_tup (pa_cons pe_str (pa_cons (pe_cl c__law_any hr (by decide) (by rfl) (pa_cons (pv 0) (pa_cons (pv 6) pa_nil))) pa_nil))) (pa_cons (pe_tup (pa_cons pe_str (pa_cons (pe_cl c__law_any hr (by decide) (by rfl) (pa_cons (pv 0) (pa_cons (pv 6) pa_nil))) pa_nil))) pa_nil)))))) pss_nil) (
      pss_cons (ps_set (i := 9) sc_l_instruction.nd rfl (Or.inl rfl) (pe_op op_cat (pv 9) (pe_lst (pa_cons (pe_tup (pa_cons pe_str (pa_cons (pe_cl c__law_any hr (by decide) (by rfl) (pa_cons (pv 0) (pa_cons (pv 3) pa_nil))) pa_nil))) (pa_cons (pe_tup (pa_cons pe_str (pa_cons (pe_callB (call_min2 rfl) (by rfl) T.min (by decide +kernel) (pa_cons (pe_op op_sub (pv 3) pe_int) (pa_cons (pe_op op_add (pe_op op_add (pv 2) pe_int) (pe_cl c__law_any hr (by decide) (by rfl) (pa_cons (pv 0) (pa_cons pe_int pa_nil)))) pa_nil))) pa_nil))) (pa_cons (pe_tup (pa_cons pe_str pa_nil)) pa_nil)))))) (
      pss_one (ps_ret (pe_cl c__law_of hr (by decide) (by rfl) (pa_cons (pv 0) (pa_cons (pv 9) pa_nil))))))))))))), ?_⟩
    have hG : ∀ H H' v, Ts H H' → Cand h b r lv m H v → Cand h b r lv m H' v := fun _ _ _ t z => z.ts t
    walk_at "lc"
    refine rd_lst ?_
    walk_at "lc"
    refine ⟨(by show 4 ≤ sizeLine; decide), fun c hc => ?_⟩
    refine ⟨d, p, c, _, rfl, D.same (same_new hc), upd_same, D.new hc, by decide, by decide, fun H1 v hv D1 k1 => ?_⟩
    obtain ⟨wd, rfl, w1, w2⟩ : ∃ wd : Nat, v = .int (wd : Nat) ∧ 1 ≤ wd ∧ wd ≤ 8 := by
      simp only [List.mem_cons, List.not_mem_nil, or_false] at hv
      rcases hv with rfl | rfl | rfl | rfl
      · exact ⟨1, rfl, by decide, by decide⟩
      · exact ⟨2, rfl, by decide, by decide⟩
      · exact ⟨4, rfl, by decide, by decide⟩
      · exact ⟨8, rfl, by decide, by decide⟩
    have K1 : Kp (DP d p) H H1 := same_then (same_new hc) k1
    obtain ⟨p0, p1⟩ := pow_256 w2
    walk_at "lc"
    have ew : ∀ {σ : L2.St} {i : Nat} {H : Hp} {Q : VK}, σ[i]? = some (some (.int (wd : Nat))) → Q (.int ((2 ^ wd : Nat) : Int)) H → tOp (rI CPow fun i j => .int (i * 2 ^ j.toNat)) (tC (.int 1)) (tVar i) σ H Q := fun e q => by
      refine rd_op (rd_c (rd_var e ?_))
      refine rd_shl ⟨by omega, by omega, by decide⟩ ?_
      rw [shl_nat]
      exact q
    have yp : ∀ (z : Nat) (H : Hp) (a : Addr), z < 2 ^ wd → H a = some (.tup [.str "push", .int (wd : Nat), .int (z : Nat)]) → Cand h b r lv m H (.ref a) := fun z H a hz ha => ⟨.push wd z, ⟨a, rfl, ha⟩, by omega, by omega⟩
    refine yl_lst (G := Cand h b r lv m) (n := 3) (yl_cons hG (ye_any3 (N := 2 ^ wd) (j := 8) rfl (fun H Q q => ew rfl q) rfl p0 (by omega) yp) (yl_cons hG (ye_any3 (N := 2 ^ wd) (j := 8) rfl (fun H Q q => ew rfl q) rfl p0 (by omega) yp) (yl_cons hG (ye_1 fun H a ha => ⟨.rest, ⟨a, rfl, ha⟩, trivial⟩) yl_nil))) hG (by decide) D1 fun H2 l2 xs D2 k2 nl2 hl2 lx2 gx2 => ?_
    have B2 : Bg (Cand h b r lv m) H2 d p l2 3 := ⟨D2, nl2, xs, hl2, lx2, gx2⟩
    walk_at "lc"
    refine yl_cat2 (G := Cand h b r lv m) (n := 1) (yl_cons hG (ye_op (j := 8) rfl (fun H QA q => q) rfl fun o H a ho ha => ⟨.op o wd, ⟨a, rfl, ha⟩, ho, w1, w2⟩) yl_nil) hG (by decide) (by decide) B2 fun H3 l3 B3 k3 => ?_
    walk_at "lc"
    refine yl_cat (G := Cand h b r lv m) (n := 3) (yl_cons hG (ye_any (N := lv) rfl (fun H Q q => rd_var rfl q) (by omega) (by omega) fun z H a hz ha => ⟨.out z, ⟨a, rfl, ha⟩, hz⟩) (yl_cons hG (ye_any (N := lv) rfl (fun H Q q => rd_var rfl q) (by omega) (by omega) fun z H a hz ha => ⟨.out z, ⟨a, rfl, ha⟩, hz⟩)
      (yl_cons hG (ye_any2 (N := lv) (j := 8) rfl (fun H Q q => rd_var rfl q) rfl (by omega) (by omega) fun z H a hz ha => ⟨.take z wd, ⟨a, rfl, ha⟩, hz, w2⟩) yl_nil))) hG (by decide) (by decide) B3 fun H4 l4 B4 k4 => ?_
    have KK4 := ((K1.tr k2).tr k3).tr k4
    with_reducible refine rd_gname ?_
    with_reducible refine rd_seq ?_
    refine rd_ifF (fun σ H' => ∃ l n, σ = [some (.ref d), some (.ref ba), some (.int (at_ : Nat)), some (.int (m : Nat)), some (.int (h : Nat)), some (.int (b : Nat)), some (.int (r : Nat)), some (.int (lv : Nat)), some (.int (wd : Nat)), some (.ref l)] ∧ 1 ≤ n ∧ n ≤ 20 ∧ Bg (Cand h b r lv m) H' d p l n ∧ Kp (DP d p) H H') (fun σ H5 hF => ?_) (fun fin => ?_)
    · obtain ⟨l, n, rfl, n1, n2, B, KK⟩ := hF
      with_reducible refine rd_seq ?_
      refine rd_ifF (fun σ H' => ∃ l n, σ = [some (.ref d), some (.ref ba), some (.int (at_ : Nat)), some (.int (m : Nat)), some (.int (h : Nat)), some (.int (b : Nat)), some (.int (r : Nat)), some (.int (lv : Nat)), some (.int (wd : Nat)), some (.ref l)] ∧ 1 ≤ n ∧ n ≤ 30 ∧ Bg (Cand h b r lv m) H' d p l n ∧ Kp (DP d p) H H') (fun σ H5 hF => ?_) (fun fin => ?_)
      · obtain ⟨l, n, rfl, n1, n2, B, KK⟩ := hF
        with_reducible refine rd_seq ?_
        refine rd_ifF (fun σ H' => ∃ l n, σ = [some (.ref d), some (.ref ba), some (.int (at_ : Nat)), some (.int (m : Nat)), some (.int (h : Nat)), some (.int (b : Nat)), some (.int (r : Nat)), some (.int (lv : Nat)), some (.int (wd : Nat)), some (.ref l)] ∧ 1 ≤ n ∧ n ≤ 40 ∧ Bg (Cand h b r lv m) H' d p l n ∧ Kp (DP d p) H H') (fun σ H5 hF => ?_) (fun fin => ?_)
        · obtain ⟨l, n, rfl, n1, n2, B, KK⟩ := hF
          walk_at "lc"
          refine yl_cat (G := Cand h b r lv m) (n := 3) (yl_cons hG (ye_any (N := m) rfl (fun H Q q => rd_var rfl q) (by omega) (by omega) fun z H a hz ha => ⟨.els z, ⟨a, rfl, ha⟩, hz⟩) (yl_cons hG (fun H Q D q => ?_)
            (yl_cons hG (ye_1 fun H a ha => ⟨.fin, ⟨a, rfl, ha⟩, trivial⟩) yl_nil))) hG (by decide) (by omega) B fun H6 l6 B6 k6 => ?_
          · refine rd_tup ?_
            walk_at "lc"
            refine ⟨d, p, 4, rfl, D, by decide, by decide, fun H1 z hz D1 k1 => ?_⟩
            walk_at "lc"
            refine ⟨_, _, rfl, ?_⟩
            have ek : (if ((at_ : Nat) : Int) + 1 + ((z : Nat) : Int) < ((m : Nat) : Int) - 1 then ((at_ : Nat) : Int) + 1 + ((z : Nat) : Int) else ((m : Nat) : Int) - 1) = ((if at_ + 1 + z < m - 1 then at_ + 1 + z else m - 1 : Nat) : Int) := by
              by_cases y : at_ + 1 + z < m - 1
              · rw [if_pos y, if_pos (by omega)]
                omega
              · rw [if_neg y, if_neg (by omega)]
                omega
            rw [ek]
            have hk : (if at_ + 1 + z < m - 1 then at_ + 1 + z else m - 1) < m := by split <;> omega
            generalize (if at_ + 1 + z < m - 1 then at_ + 1 + z else m - 1) = k at hk
            walk_at "lc"
            refine ⟨(by show 2 ≤ sizeLine; decide), fun a ha => ?_⟩
            exact q _ _ (D1.same (same_new ha)) (k1.then_same (same_new ha)) ⟨.jump k, ⟨a, rfl, upd_same⟩, hk⟩
          · walk_at "lc"
            obtain ⟨D6, nl6, xs6, hl6, lx6, gx6⟩ := B6
            refine ⟨d, p, l6, xs6, rfl, D6, hl6, nl6, by omega, by omega, fun H7 v hv D7 k7 => ?_⟩
            exact q _ v ((gx6 v hv).ts (D6.ts k7)) D7 ((KK.tr k6).tr k7)
        · walk_at "lc"
          refine by_test (fun hh => ?_) (fun hh => ?_)
          · have hh := of_decide_eq_true hh
            walk_at "lc"
            refine yl_cat (G := Cand h b r lv m) (n := 2) (yl_cons hG (ye_any (N := r) rfl (fun H Q q => rd_var rfl q) (by omega) (by omega) fun z H a hz ha => ⟨.cell z, ⟨a, rfl, ha⟩, hz⟩) (yl_cons hG (ye_any (N := r) rfl (fun H Q q => rd_var rfl q) (by omega) (by omega) fun z H a hz ha => ⟨.cells z, ⟨a, rfl, ha⟩, hz⟩) yl_nil)) hG (by decide) (by omega) B fun H' c B' k' => ?_
            exact fin _ _ ⟨c, _, rfl, by omega, by omega, B', KK.tr k'⟩
          · exact fin _ _ ⟨l, n, rfl, n1, by omega, B, KK⟩
      · walk_at "lc"
        refine by_test (fun hh => ?_) (fun hh => ?_)
        · have hh := of_decide_eq_true hh
          walk_at "lc"
          refine yl_cat (G := Cand h b r lv m) (n := 2) (yl_cons hG (ye_any (N := b) rfl (fun H Q q => rd_var rfl q) (by omega) (by omega) fun z H a hz ha => ⟨.box z, ⟨a, rfl, ha⟩, hz⟩) (yl_cons hG (ye_any (N := b) rfl (fun H Q q => rd_var rfl q) (by omega) (by omega) fun z H a hz ha => ⟨.fill z, ⟨a, rfl, ha⟩, hz⟩) yl_nil)) hG (by decide) (by omega) B fun H' c B' k' => ?_
          exact fin _ _ ⟨c, _, rfl, by omega, by omega, B', KK.tr k'⟩
        · exact fin _ _ ⟨l, n, rfl, n1, by omega, B, KK⟩
    · have B := B4
      have KK := KK4
      have n1 : 1 ≤ 3 + (1 + 1) + 3 := by decide
      have n2 : 3 + (1 + 1) + 3 ≤ 20 := by decide
      walk_at "lc"
      refine by_test (fun hh => ?_) (fun hh => ?_)
      · have hh := of_decide_eq_true hh
        walk_at "lc"
        refine yl_cat (G := Cand h b r lv m) (n := 2) (yl_cons hG (ye_any (N := h) rfl (fun H Q q => rd_var rfl q) (by omega) (by omega) fun z H a hz ha => ⟨.loc z, ⟨a, rfl, ha⟩, hz⟩) (yl_cons hG (ye_any (N := h) rfl (fun H Q q => rd_var rfl q) (by omega) (by omega) fun z H a hz ha => ⟨.keep z, ⟨a, rfl, ha⟩, hz⟩) yl_nil)) hG (by decide) (by omega) B fun H' c B' k' => ?_
        exact fin _ _ ⟨c, _, rfl, by omega, by omega, B', KK.tr k'⟩
      · exact fin _ _ ⟨l4, _, rfl, n1, by omega, B, KK⟩
end
end Lk
/-! The law's drawings: an image, its inputs. -/
namespace Lk
open PySem PySem.Spec PyProof.Rows L2
theorem rd_par3 {i j l : Nat} {t : TA} {D : Ends} {σ : L2.St} {H : Hp} (h : t σ H fun vs H1 => ∃ u v w, vs = [u, v, w] ∧ D.nx (((σ.set i (some u)).set j (some v)).set l (some w)) H1) : tPar3 i j l t D σ H := h
/-- the image as far as it is built -/
structure Bld (H0 H : Hp) (d p oa b r t : Addr) (os : List V) (bx : List (Nat × Int)) (rw_ : List (Nat × Nat)) (th : List Thr) : Prop where
  dl : Dl H d p
  kp : Kp (DP d p) H0 H
  o : H oa = some (.tup os)
  hb : ∃ vs, H b = some (.lst vs) ∧ F2 (BoxAt H) vs bx
  hr : ∃ vs, H r = some (.lst vs) ∧ F2 (RowAt H) vs rw_
  ht : ∃ vs, H t = some (.lst vs) ∧ F2 (ThrAt H) vs th
  nb : b ≠ d ∧ b ≠ p
  nr : r ≠ d ∧ r ≠ p
  nt : t ≠ d ∧ t ≠ p
  br : b ≠ r
  bt : b ≠ t
  rt : r ≠ t
  b0 : H0 b = none
  r0 : H0 r = none
  t0 : H0 t = none
section
variable {H0 H H' : Hp} {d p oa b r t : Addr} {os : List V} {bx : List (Nat × Int)} {rw_ : List (Nat × Nat)} {th : List Thr}
theorem Bld.draw (B : Bld H0 H d p oa b r t os bx rw_ th) (k : Kp (DP d p) H H') (D : Dl H' d p) : Bld H0 H' d p oa b r t os bx rw_ th := by
  have T := B.dl.ts k
  obtain ⟨vb, b1, b2⟩ := B.hb
  obtain ⟨vr, r1, r2⟩ := B.hr
  obtain ⟨vt, t1, t2⟩ := B.ht
  exact ⟨D, B.kp.tr k, T _ _ B.o, ⟨vb, kd_at k b1 B.nb, b2.imp fun _ _ => BoxAt.ts T⟩, ⟨vr, kd_at k r1 B.nr, r2.imp fun _ _ => RowAt.ts T⟩, ⟨vt, kd_at k t1 B.nt, t2.imp fun _ _ => ThrAt.ts T⟩, B.nb, B.nr, B.nt, B.br, B.bt, B.rt, B.b0, B.r0, B.t0⟩
theorem Bld.same (B : Bld H0 H d p oa b r t os bx rw_ th) (s : Same H H') : Bld H0 H' d p oa b r t os bx rw_ th := B.draw (Kp.same s) (B.dl.same s)
theorem kp_new {S : Addr → Prop} {a : Addr} {o : HO} (k : Kp S H0 H) (h : H0 a = none) : Kp S H0 (upd H a o) := fun x u e n => by
  rw [upd_ne (ne_of_none e h)]
  exact k x u e n
theorem Bld.addB (B : Bld H0 H d p oa b r t os bx rw_ th) {v : V} {x : Nat × Int} (hx : BoxAt H v x) {vs : List V} (hv : H b = some (.lst vs)) : Bld H0 (upd H b (.lst (vs ++ [v]))) d p oa b r t os (bx ++ [x]) rw_ th := by
  have T : Ts H (upd H b (.lst (vs ++ [v]))) := ts_upd fun xs q => by
    rw [hv] at q
    cases q
  obtain ⟨vb, b1, b2⟩ := B.hb
  obtain ⟨vr, r1, r2⟩ := B.hr
  obtain ⟨vt, t1, t2⟩ := B.ht
  rw [hv] at b1
  cases b1
  exact ⟨B.dl.upd B.nb.1 B.nb.2, kp_new B.kp B.b0, T _ _ B.o, ⟨_, upd_same, (b2.snoc hx).imp fun _ _ => BoxAt.ts T⟩, ⟨vr, by rw [upd_ne (Ne.symm B.br)]; exact r1, r2.imp fun _ _ => RowAt.ts T⟩, ⟨vt, by rw [upd_ne (Ne.symm B.bt)]; exact t1, t2.imp fun _ _ => ThrAt.ts T⟩, B.nb, B.nr, B.nt, B.br, B.bt, B.rt, B.b0, B.r0, B.t0⟩
theorem Bld.addR (B : Bld H0 H d p oa b r t os bx rw_ th) {v : V} {x : Nat × Nat} (hx : RowAt H v x) {vs : List V} (hv : H r = some (.lst vs)) : Bld H0 (upd H r (.lst (vs ++ [v]))) d p oa b r t os bx (rw_ ++ [x]) th := by
  have T : Ts H (upd H r (.lst (vs ++ [v]))) := ts_upd fun xs q => by
    rw [hv] at q
    cases q
  obtain ⟨vb, b1, b2⟩ := B.hb
  obtain ⟨vr, r1, r2⟩ := B.hr
  obtain ⟨vt, t1, t2⟩ := B.ht
  rw [hv] at r1
  cases r1
  exact ⟨B.dl.upd B.nr.1 B.nr.2, kp_new B.kp B.r0, T _ _ B.o, ⟨vb, by rw [upd_ne B.br]; exact b1, b2.imp fun _ _ => BoxAt.ts T⟩, ⟨_, upd_same, (r2.snoc hx).imp fun _ _ => RowAt.ts T⟩, ⟨vt, by rw [upd_ne (Ne.symm B.rt)]; exact t1, t2.imp fun _ _ => ThrAt.ts T⟩, B.nb, B.nr, B.nt, B.br, B.bt, B.rt, B.b0, B.r0, B.t0⟩
theorem Bld.addT (B : Bld H0 H d p oa b r t os bx rw_ th) {v : V} {x : Thr} (hx : ThrAt H v x) {vs : List V} (hv : H t = some (.lst vs)) : Bld H0 (upd H t (.lst (vs ++ [v]))) d p oa b r t os bx rw_ (th ++ [x]) := by
  have T : Ts H (upd H t (.lst (vs ++ [v]))) := ts_upd fun xs q => by
    rw [hv] at q
    cases q
  obtain ⟨vb, b1, b2⟩ := B.hb
  obtain ⟨vr, r1, r2⟩ := B.hr
  obtain ⟨vt, t1, t2⟩ := B.ht
  rw [hv] at t1
  cases t1
  exact ⟨B.dl.upd B.nt.1 B.nt.2, kp_new B.kp B.t0, T _ _ B.o, ⟨vb, by rw [upd_ne B.bt]; exact b1, b2.imp fun _ _ => BoxAt.ts T⟩, ⟨vr, by rw [upd_ne B.rt]; exact r1, r2.imp fun _ _ => RowAt.ts T⟩, ⟨_, upd_same, (t2.snoc hx).imp fun _ _ => ThrAt.ts T⟩, B.nb, B.nr, B.nt, B.br, B.bt, B.rt, B.b0, B.r0, B.t0⟩
end
/-- the threads do not matter to a thread's own rightness -/
theorem ThrOk.ths {m : Nat} {bx : List (Nat × Int)} {rw_ : List (Nat × Nat)} {t1 t2 : List Thr} {T : Thr} (h : ThrOk ⟨m, bx, rw_, t1⟩ T) : ThrOk ⟨m, bx, rw_, t2⟩ T :=
  ⟨h.ws, h.wl, h.ne, fun j c hj => ⟨by
    have := (h.arg j c hj).1
    cases c <;> exact this, (h.arg j c hj).2⟩⟩
theorem drawn_thr {m : Nat} {bx : List (Nat × Int)} {rw_ : List (Nat × Nat)} {ws : List Nat} {cs : List Ins} {c : Ins} {mm : Nat} (hm : 1 ≤ mm) (hl : cs.length = mm - 1) (m4 : m ≤ 4) (hw : ∀ w, w ∈ ws → w ≤ 8) (wl : ws.length ≤ 100)
    (hcs : ∀ x, x ∈ cs → InsB ws.length bx.length rw_.length m mm x) (hc : c = .fin ∨ ∃ z, c = .jump z ∧ z < mm) : ThrOk ⟨m, bx, rw_, []⟩ ⟨ws, cs ++ [c]⟩ := by
  have L : (cs ++ [c]).length = mm := by rw [List.length_append, List.length_singleton]; omega
  refine ⟨fun k w h => hw w (List.mem_of_getElem? h), wl, by show 0 < (cs ++ [c]).length; omega, fun j x hj => ?_⟩
  have hj' : (cs ++ [c])[j]? = some x := hj
  by_cases q : j < cs.length
  · rw [List.getElem?_append_left q] at hj'
    refine ⟨(hcs x (List.mem_of_getElem? hj')).arg rfl rfl rfl rfl m4 L, ?_⟩
    show InsNext (cs ++ [c]).length j x
    rw [L]
    have : j + 1 < mm := by omega
    cases x <;> first | exact this | trivial
  · rw [List.getElem?_append_right (by omega)] at hj'
    have : j - cs.length < 1 := (List.getElem?_eq_some_iff.mp hj').1
    have e0 : j - cs.length = 0 := by omega
    rw [e0] at hj'
    have e1 : c = x := by simpa using hj'
    subst e1
    rcases hc with rfl | ⟨z, rfl, hz⟩
    · exact ⟨trivial, trivial⟩
    · refine ⟨?_, trivial⟩
      show z < (cs ++ [Ins.jump z]).length
      rw [L]
      exact hz
theorem w4_of {v : V} (hv : v ∈ [V.int 1, V.int 2, V.int 4, V.int 8]) : ∃ wd : Nat, v = .int (wd : Nat) ∧ 1 ≤ wd ∧ wd ≤ 8 := by
  simp only [List.mem_cons, List.not_mem_nil, or_false] at hv
  rcases hv with rfl | rfl | rfl | rfl
  · exact ⟨1, rfl, by decide, by decide⟩
  · exact ⟨2, rfl, by decide, by decide⟩
  · exact ⟨4, rfl, by decide, by decide⟩
  · exact ⟨8, rfl, by decide, by decide⟩
theorem w3_of {v : V} (hv : v ∈ [V.int 1, V.int 2, V.int 4]) : ∃ wd : Nat, v = .int (wd : Nat) ∧ 1 ≤ wd ∧ wd ≤ 8 := by
  simp only [List.mem_cons, List.not_mem_nil, or_false] at hv
  rcases hv with rfl | rfl | rfl
  · exact ⟨1, rfl, by decide, by decide⟩
  · exact ⟨2, rfl, by decide, by decide⟩
  · exact ⟨4, rfl, by decide, by decide⟩
theorem at_snoc {α : Type} {xs : List α} {x y : α} {k : Nat} (h : (xs ++ [x])[k]? = some y) : xs[k]? = some y ∨ x = y := by
  by_cases q : k < xs.length
  · rw [List.getElem?_append_left q] at h
    exact .inl h
  · rw [List.getElem?_append_right (by omega)] at h
    have : k - xs.length < 1 := (List.getElem?_eq_some_iff.mp h).1
    have e0 : k - xs.length = 0 := by omega
    rw [e0] at h
    exact .inr (by simpa using h)
def LastAt (mm : Nat) (H : Hp) (v : V) : Prop := ∃ c, InsAt H v c ∧ (c = .fin ∨ ∃ z, c = .jump z ∧ z < mm)
theorem LastAt.ts {mm : Nat} {H H' : Hp} (t : Ts H H') {v : V} (h : LastAt mm H v) : LastAt mm H' v := let ⟨c, h1, h2⟩ := h; ⟨c, h1.ts t, h2⟩
def spImage : Sp := fun vs H Q _ => ∃ (d p : Addr), vs = [.ref d] ∧ Dl H d p ∧ ∀ H' ia I, ImgAt H' ia I → ImgOk I → I.boxes.length ≤ 100 → I.rows.length ≤ 100 → I.ths.length ≤ 3 → (∀ (k : Nat) T, I.ths[k]? = some T → T.code.length ≤ 100) → Dl H' d p → Kp (DP d p) H H' → Q (.ref ia) H'
def spInputs : Sp := fun vs H Q _ => ∃ (d p oa : Addr) (os : List V), vs = [.ref d, .ref oa] ∧ Dl H d p ∧ H oa = some (.tup os) ∧ os.length ≤ 100 ∧ ∀ H' na inp, InpAt H' na inp → inp.length = os.length → (∀ (k : Nat) cs, inp[k]? = some cs → Woks cs) → Dl H' d p → Kp (DP d p) H H' → Q (.ref na) H'
section
variable {P : Program} {w : World} {K : PySem.W.Frag} {mg : Str → Option Value} {base : Heap}
theorem sc_l_inputs : FnScope ["_law_deal", "_law_order_here", "_law_level", "_law_turn"] ["_law_deal", "_law_order_here"] (defScope S_l_inputs) := ⟨rfl, rfl, rfl, by decide +kernel, rfl, by decide +kernel, by decide +kernel⟩
theorem ok_l_inputs {f : Addr} {fd : FuncData} (F : Fun K "_law_inputs" "_law_inputs" S_l_inputs f fd) (T : Tx mg) (c__law_any : Cl P w K mg base 1 "_law_any" ["_law_deal", "_law_bound"] spAny) : FnOk P w K mg base CX0 2 f fd ["_law_deal", "_law_order_here"] spInputs := by
  refine F.ok sc_l_inputs (fun vs H Q E h => ?_) (fun cdv A outer s H vs Q E hr h => ?_)
  · obtain ⟨_, _, _, _, rfl, _⟩ := h
    rfl
  · obtain ⟨d, p, oa, os, rfl, D, ho, hz, q⟩ := h
    refine ⟨_, pss_one (ps_ret (pe_callTy (call_tupleK (K := K) rfl) (by rfl) T.tuple (by decide +kernel) (pa_cons (pe_lc (own := [("_law_level", 2)]) rfl sc_l_inputs.nd (pi_range1 (by rfl) T.range (pa_cons (pe_callB (call_lenK (K := K) rfl) (by rfl) T.len PySem.boot_len (pa_cons (pv 1) pa_nil)) pa_nil)) (blkOk_by (N := ["_law_deal", "_law_order_here", "_law_level", "_law_turn"]) (sc := defScope S_l_inputs) (by decide +kernel)) (fun _ _ _ _ _ => (pg_name (i := 2) sc_l_inputs.nd rfl (Or.inl rfl))) (fun _ _ _ _ _ => pts_nil) (fun _ _ _ _ _ => (pe_callTy (call_tupleK (K := K) rfl) (by rfl) T.tuple (by decide +kernel) (pa_cons (pe_lc (own := [("_law_turn", 3)]) rfl sc_l_inputs.nd (pi_range1 (by rfl) T.range (pa_cons (pe_cl c__law_any hr (by decide) (by rfl) (pa_cons (pv 0) (pa_cons pe_int pa_nil))) pa_nil)) (blkOk_by (N := ["_law_deal", "_law_order_here", "_law_level", "_law_turn"]) (sc := ⟨.function, [(".0", .local), ("_law_level", .local), ("tuple", .globalImplicit), ("range", .globalImplicit), ("_law_any", .globalImplicit), ("_law_deal", .cell)], false, false, []⟩) (by decide +kernel)) (fun _ _ _ _ _ => (pg_name (i := 3) sc_l_inputs.nd rfl (Or.inl rfl))) (fun _ _ _ _ _ => pts_nil) (fun _ _ _ _ _ => (pe_cl c__law_any hr (by decide) (by rfl) (pa_cons (pv 0) (pa_cons pe_int pa_nil))))) pa_nil)))) pa_nil))), ?_⟩
    walk_at "lc"
    refine rd_lcR ?_
    walk_at "lc"
    refine rd_rgn (n := os.length) (by omega) ?_
    refine lc_deal (n := os.length) (β := List Int) (by omega) true D (fun H v cs => IntsAt H v cs ∧ Woks cs) (fun _ _ _ _ t h => ⟨h.1.ts t, h.2⟩) (fun i H' N M hi k D' kN kM => ?_) (fun C acc zs H' hC k D' e f l l2 => ?_)
    · walk_at "lc"
      refine ⟨wipe1 (by decide), ?_⟩
      walk_at "lc"
      refine rd_lcR ?_
      walk_at "lc"
      refine ⟨d, p, 4, rfl, D', by decide, by decide, fun H1 r hr D1 k1 => ?_⟩
      walk_at "lc"
      refine rd_rgn (n := r) (by omega) ?_
      refine lc_deal (n := r) (β := Int) (by omega) true D1 (fun _ v z => v = .int z ∧ Wok z) (fun _ _ _ _ _ h => h) (fun i H' N M hi k D' kN2 kM2 => ?_) (fun C2 acc2 zs2 H2 hC2 k2 D2 e2 f2 l3 l4 => ?_)
      · walk_at "lc"
        refine ⟨wipe1 (by decide), ?_⟩
        walk_at "lc"
        exact ⟨d, p, 20, rfl, D', by decide, by decide, fun H1 z hz D1 k1 => kN2 _ _ _ k1 D1 ⟨rfl, by omega, by omega⟩⟩
      · walk_at "lc"
        have ef := f2_map (f2.imp fun _ _ h => h.1)
        refine rd_tupleL e2 fun t ht => ?_
        refine kN _ zs2 _ ((k1.tr k2).then_same (same_new ht)) (D2.same (same_new ht)) ⟨⟨t, rfl, by rw [upd_same, ef]⟩, fun x hx => ?_⟩
        obtain ⟨j, hj⟩ := List.getElem?_of_mem hx
        obtain ⟨v, _, h2⟩ := f2.at hj
        exact h2.2
    · walk_at "lc"
      refine rd_tupleL e fun t ht => ?_
      refine q _ t zs ⟨acc, upd_same, f.imp fun _ _ h => h.1.ts (ts_new ht)⟩ (by rw [← f.1]; exact l2 rfl) (fun j cs hj => ?_) (D'.same (same_new ht)) (k.then_same (same_new ht))
      obtain ⟨v, _, h2⟩ := f.at hj
      exact h2.2
theorem sc_l_image : FnScope ["_law_deal", "_law_order_here", "_law_levels", "_law_boxes", "_law_rows", "_law_threads", "_law_turn", "_law_w", "_law_widths", "_law_many", "_law_bounds", "_law_code", "_law_held", "_law_at"] ["_law_deal"] (defScope S_l_image) := ⟨rfl, rfl, rfl, by decide +kernel, rfl, by decide +kernel, by decide +kernel⟩
theorem ok_l_image {f : Addr} {fd : FuncData} (F : Fun K "_law_image" "_law_image" S_l_image f fd) (T : Tx mg) (c__law_any : Cl P w K mg base 1 "_law_any" ["_law_deal", "_law_bound"] spAny) (c__law_of : Cl P w K mg base 2 "_law_of" ["_law_deal", "_law_some"] spOf)
    (c__law_lot : Cl P w K mg base 2 "_law_lot" ["_law_deal", "_law_many"] spLot) (c__law_order : Cl P w K mg base 3 "_law_order" ["_law_deal"] spOrder) (c__law_instruction : Cl P w K mg base 3 "_law_instruction" ["_law_deal", "_law_bounds", "_law_at", "_law_many"] spInstr) :
    FnOk P w K mg base CX0 4 f fd ["_law_deal"] spImage := by
  refine F.ok sc_l_image (fun vs H Q E h => ?_) (fun cdv A outer s H vs Q E hr h => ?_)
  · obtain ⟨_, _, rfl, _⟩ := h
    rfl
  · obtain ⟨d, p, rfl, D, q⟩ := h
    refine ⟨_, pss_cons (ps_set (i := 1) sc_l_image.nd rfl (Or.inl rfl) (pe_cl c__law_order hr (by decide) (by rfl) (pa_cons (pv 0) pa_nil))) (
      pss_cons (ps_set (i := 2) sc_l_image.nd rfl (Or.inl rfl) (pe_callB (call_lenK (K := K) rfl) (by rfl) T.len PySem.boot_len (pa_cons (pv 1) pa_nil))) (
      pss_cons (ps_par3 (i := 3) (j := 4) (l := 5) rfl sc_l_image.nd rfl rfl rfl (by decide) (by decide) (by decide) rfl rfl rfl (pa_cons (pe_lst pa_nil) (pa_cons (pe_lst pa_nil) (pa_cons (pe_lst pa_nil) pa_nil))) (by rfl)) (
      pss_cons (ps_for PassesOwn.never rfl (pi_range1 (by rfl) T.range (pa_cons (pe_cl c__law_any hr (by decide) (by rfl) (pa_cons (pv 0) (pa_cons pe_int pa_nil))) pa_nil)) (pg_name (i := 6) sc_l_image.nd rfl (Or.inl rfl)) (pss_cons (ps_set (i := 7) sc_l_image.nd rfl (Or.inl rfl) (pe_cl c__law_of hr (by decide) (by rfl) (pa_cons (pv 0) (pa_cons (pe_lst (pa_cons pe_int (pa_cons pe_int (pa_cons pe_int (pa_cons pe_int pa_nil))))) pa_nil)))) (pss_one (ps_expr (pe_bm PySem.F.plainAttrs_list PySem.F.slot_list_append PySem.F.type_list_append  mt_append (pv 3) (pa_cons (pe_tup (pa_cons (pe_cl c__law_lot hr (by decide) (by rfl) (pa_cons (pv 0) (pa_cons (pv 2) pa_nil))) (pa_cons (pv 7) (pa_cons (pe_cl c__law_any hr (by decide) (by rfl) (pa_cons (pv 0) (pa_cons (pe_op op_shl pe_int (pv 7)) pa_nil))) pa_nil)))) pa_nil)))))) (
      pss_cons (ps_for PassesOwn.never rfl (pi_range1 (by rfl) T.range (pa_cons (pe_cl c__law_any hr (by decide) (by rfl) (pa_cons (pv 0) (pa_cons pe_int pa_nil))) pa_nil)) (pg_name (i := 6) sc_l_image.nd rfl (Or.inl rfl)) (pss_one (ps_expr (pe_bm PySem.F.plainAttrs_list PySem.F.slot_list_append PySem.F.type_list_append  mt_append (pv 4) (pa_cons (pe_tup (pa_cons (pe_cl c__law_lot hr (by decide) (by rfl) (pa_cons (pv 0) (pa_cons (pv 2) pa_nil))) (pa_cons (pe_cl c__law_of hr (by decide) (by rfl) (pa_cons (pv 0) (pa_cons (pe_lst (pa_cons pe_int (pa_cons pe_int (pa_cons pe_int pa_nil)))) pa_nil))) (pa_cons (pe_op op_add pe_int (pe_cl c__law_any hr (by decide) (by rfl) (pa_cons (pv 0) (pa_cons pe_int pa_nil)))) pa_nil)))) pa_nil))))) (
      pss_cons (ps_for PassesOwn.never rfl (pi_range1 (by rfl) T.range (pa_cons (pe_op op_add pe_int (pe_cl c__law_any hr (by decide) (by rfl) (pa_cons (pv 0) (pa_cons pe_int pa_nil)))) pa_nil)) (pg_name (i := 6) sc_l_image.nd rfl (Or.inl rfl)) (pss_cons (ps_set (i := 8) sc_l_image.nd rfl (Or.inl rfl) (pe_callTy (call_tupleK (K := K) rfl) (by rfl) T.tuple (by decide +kernel) (pa_cons (pe_lc (own := [("_law_held", 12)]) rfl sc_l_image.nd (pi_range1 (by rfl) T.range (pa_cons (pe_cl c__law_any hr (by decide) (by rfl) (pa_cons (pv 0) (pa_cons pe_int pa_nil))) pa_nil)) (blkOk_by (N := ["_law_deal", "_law_order_here", "_law_levels", "_law_boxes", "_law_rows", "_law_threads", "_law_turn", "_law_w", "_law_widths", "_law_many", "_law_bounds", "_law_code", "_law_held", "_law_at"]) (sc := defScope S_l_image) (by decide +kernel)) (fun _ _ _ _ _ => (pg_name (i := 12) sc_l_image.nd rfl (Or.inl rfl))) (fun _ _ _ _ _ => pts_nil) (fun _ _ _ _ _ => (pe_cl c__law_of hr (by decide) (by rfl) (pa_cons (pv 0) (pa_cons (pe_lst (pa_cons pe_int (pa_cons pe_int (pa_cons pe_int pa_nil)))) pa_nil))))) pa_nil))) (pss_cons (ps_set (i := 9) sc_l_image.nd rfl (Or.inr rfl) (pe_op op_add pe_int (pe_cl c__law_any hr (by decide) (by rfl) (pa_cons (pv 0) (pa_cons pe_int pa_nil))))) (pss_cons (ps_set (i := 10) sc_l_image.nd rfl (Or.inr rfl) (pe_tup (pa_cons (pe_callB (call_lenK (K := K) rfl) (by rfl) T.len PySem.boot_len (pa_cons (pv 8) pa_nil)) (pa_cons (pe_callB (call_lenK (K := K) rfl) (by rfl) T.len PySem.boot_len (pa_cons (pv 3) pa_nil)) (pa_cons (pe_callB (call_lenK (K := K) rfl) (by rfl) T.len PySem.boot_len (pa_cons (pv 4) pa_nil)) (pa_cons (pv 2) pa_nil)))))) (pss_cons (ps_setLc (i := 11) (own := [("_law_at", 13)]) rfl sc_l_image.nd rfl rfl (sw_true rfl rfl rfl (by decide +kernel)) (pi_range1 (by rfl) T.range (pa_cons (pe_op op_sub (pv 9) pe_int) pa_nil)) (blkOk_by (N := ["_law_deal", "_law_order_here", "_law_levels", "_law_boxes", "_law_rows", "_law_threads", "_law_turn", "_law_w", "_law_widths", "_law_many", "_law_bounds", "_law_code", "_law_held", "_law_at"]) (sc := defScope S_l_image) (by decide +kernel)) (fun _ _ _ _ _ => (pg_name (i := 13) sc_l_image.nd rfl (Or.inl rfl))) (fun _ _ _ _ _ => pts_nil) (fun _ _ _ _ _ => (pe_cl c__law_instruction hr (by decide) (by rfl) (pa_cons (pv 0) (pa_cons (pv 10) (pa_cons (pv 13) (pa_cons (pv 9) pa_nil))))))) (pss_one (ps_expr (pe_bm PySem.F.plainAttrs_list PySem.F.slot_list_append PySem.F.type_list_append  mt_append (pv 5) (pa_cons (pe_tup (pa_cons (pv 8) (pa_cons (pe_callTy (call_tupleK (K := K) rfl) (by rfl) T.tuple (by decide +kernel) (pa_cons (pe_op op_cat (pv 11) (pe_lst (pa_cons (pe_ifExp (pt_cmpR op_gt (pe_cl c__law_any hr (by decide) (by rfl) (pa_cons (pv 0) (pa_cons pe_int pa_nil))) pe_int (nomark _)) (pe_tup (pa_cons pe_str pa_nil)) (pe_tup (pa_cons pe_str (pa_cons (pe_cl c__law_any hr (by decide) (by rfl) (pa_cons (pv 0) (pa_cons (pv 9) pa_nil))) pa_nil)))) pa_nil))) pa_nil)) pa_nil))) pa_nil))))))))) (
      pss_one (ps_ret (pe_tup (pa_cons (pv 1) (pa_cons (pe_callTy (call_tupleK (K := K) rfl) (by rfl) T.tuple (by decide +kernel) (pa_cons (pv 3) pa_nil)) (pa_cons (pe_callTy (call_tupleK (K := K) rfl) (by rfl) T.tuple (by decide +kernel) (pa_cons (pv 4) pa_nil)) (pa_cons (pe_callTy (call_tupleK (K := K) rfl) (by rfl) T.tuple (by decide +kernel) (pa_cons (pv 5) pa_nil)) pa_nil)))))))))))), ?_⟩
    walk_at "lc"
    refine ⟨d, p, rfl, D, fun H1 oa os m hm1 hm4 ho lo D1 k1 => ?_⟩
    walk_at "lc"
    rw [lo]
    refine rd_par3 ?_
    walk_at "lc"
    refine rd_lst ?_
    walk_at "lc"
    refine ⟨Nat.zero_le _, fun b hb => ?_⟩
    walk_at "lc"
    refine rd_lst ?_
    walk_at "lc"
    refine ⟨Nat.zero_le _, fun r hr0 => ?_⟩
    walk_at "lc"
    refine rd_lst ?_
    walk_at "lc"
    refine ⟨Nat.zero_le _, fun t ht => ?_⟩
    have B0 : Bld H (upd (upd (upd H1 b (.lst [])) r (.lst [])) t (.lst [])) d p oa b r t os [] [] [] := by
      have s1 : Same H1 (upd H1 b (.lst [])) := same_new hb
      have s2 : Same H1 (upd (upd H1 b (.lst [])) r (.lst [])) := s1.trans (same_new hr0)
      have s3 : Same H1 (upd (upd (upd H1 b (.lst [])) r (.lst [])) t (.lst [])) := s2.trans (same_new ht)
      have br : b ≠ r := ne_of_none upd_same hr0
      have bt : b ≠ t := ne_of_none (same_new hr0 _ _ upd_same) ht
      have rt : r ≠ t := ne_of_none upd_same ht
      have fr : ∀ {a : Addr}, H1 a = none → (a ≠ d ∧ a ≠ p) ∧ H a = none := fun {a} h => by
        have n := D1.new h
        refine ⟨n, ?_⟩
        cases z : H a with
        | none => rfl
        | some o =>
          rw [kd_at k1 z n] at h
          cases h
      refine ⟨D1.same s3, k1.then_same s3, s3 _ _ ho, ⟨[], ?_, F2.nil⟩, ⟨[], ?_, F2.nil⟩, ⟨[], upd_same, F2.nil⟩, (fr hb).1, (fr (s1.free hr0)).1, (fr (s2.free ht)).1, br, bt, rt, (fr hb).2, (fr (s1.free hr0)).2, (fr (s2.free ht)).2⟩
      · rw [upd_ne bt, upd_ne br, upd_same]
      · rw [upd_ne rt, upd_same]
    generalize upd (upd (upd H1 b (.lst [])) r (.lst [])) t (.lst []) = H2 at B0
    walk_at "lc"
    refine ⟨_, _, _, rfl, ?_⟩
    walk_at "lc"
    refine rd_for1 ?_
    walk_at "lc"
    refine ⟨d, p, 3, rfl, B0.dl, by decide, by decide, fun H3 n hn D3 k3 => ?_⟩
    have B3 := B0.draw k3 D3
    walk_at "lc"
    refine rd_rng (n := n) (by omega) (fun i σ H' => (∃ t6 t7, σ = [some (.ref d), some (.ref oa), some (.int (m : Nat)), some (.ref b), some (.ref r), some (.ref t), t6, t7, none, none, none, none, none, none]) ∧ ∃ bx, Bld H H' d p oa b r t os bx [] [] ∧ bx.length = i ∧ ∀ (k : Nat) w n, bx[k]? = some (w, n) → w ≤ 8 ∧ 0 ≤ n ∧ n < 256)
      ⟨⟨_, _, rfl⟩, [], B3, rfl, fun k w n h => by simp at h⟩ (fun i σ H4 hi h => ?_) (fun σ H4 h => ?_)
    · obtain ⟨⟨t6, t7, rfl⟩, bx, B, lb, ab⟩ := h
      walk_at "lc"
      refine rd_lst ?_
      walk_at "lc"
      refine ⟨(by show 4 ≤ sizeLine; decide), fun c hc => ?_⟩
      have Bc := B.same (same_new (o := .lst [.int 1, .int 2, .int 4, .int 8]) hc)
      refine ⟨d, p, c, _, rfl, Bc.dl, upd_same, B.dl.new hc, by decide, by decide, fun H5 v hv D5 k5 => ?_⟩
      obtain ⟨wd, rfl, w1, w2⟩ := w4_of hv
      obtain ⟨p0, p1⟩ := pow_256 w2
      have B5 := Bc.draw k5 D5
      obtain ⟨vb, hb5, fb5⟩ := B5.hb
      walk_at "lc"
      refine rd_tup ?_
      walk_at "lc"
      refine ⟨d, p, m, rfl, B5.dl, by omega, fun H6 la D6 k6 => ?_⟩
      have B6 := B5.draw k6 D6
      walk_at "lc"
      refine rd_shl ⟨by omega, by omega, by decide⟩ ?_
      rw [shl_nat]
      walk_at "lc"
      refine ⟨d, p, 2 ^ wd, rfl, B6.dl, p0, by omega, fun H7 z hz D7 k7 => ?_⟩
      have B7 := B6.draw k7 D7
      walk_at "lc"
      refine ⟨(by show 3 ≤ sizeLine; decide), fun x hx => ?_⟩
      have B8 := B7.same (same_new (o := .tup [.ref la, .int (wd : Nat), .int (z : Nat)]) hx)
      obtain ⟨vb8, hb8, fb8⟩ := B8.hb
      walk_at "lc"
      refine rd_append hb8 (Nat.lt_of_le_of_lt (show vb8.length ≤ 100 by rw [fb8.1]; omega) (by decide)) ?_
      refine ⟨⟨_, _, rfl⟩, bx ++ [(wd, ((z : Nat) : Int))], B8.addB (x := (wd, ((z : Nat) : Int))) ⟨x, .ref la, rfl, upd_same⟩ hb8, by rw [List.length_append, List.length_singleton, lb], fun k w n h => ?_⟩
      rcases at_snoc h with h | h
      · exact ab k w n h
      · cases h
        exact ⟨w2, by omega, by omega⟩
    · obtain ⟨⟨t6, t7, rfl⟩, bx, B4, lb, ab⟩ := h
      walk_at "lc"
      refine rd_for1 ?_
      walk_at "lc"
      refine ⟨d, p, 2, rfl, B4.dl, by decide, by decide, fun H5 n2 hn2 D5 k5 => ?_⟩
      have B5 := B4.draw k5 D5
      walk_at "lc"
      refine rd_rng (n := n2) (by omega) (fun i σ H' => (∃ t6 t7, σ = [some (.ref d), some (.ref oa), some (.int (m : Nat)), some (.ref b), some (.ref r), some (.ref t), t6, t7, none, none, none, none, none, none]) ∧ ∃ rx, Bld H H' d p oa b r t os bx rx [] ∧ rx.length = i ∧ ∀ (k : Nat) w n, rx[k]? = some (w, n) → w ≤ 8 ∧ 1 ≤ n ∧ n ≤ 64)
        ⟨⟨_, _, rfl⟩, [], B5, rfl, fun k w n h => by simp at h⟩ (fun i σ H4 hi h => ?_) (fun σ H6 h => ?_)
      · obtain ⟨⟨t6, t7, rfl⟩, rx, B, lr, ar⟩ := h
        obtain ⟨vr, hr5, fr5⟩ := B.hr
        walk_at "lc"
        refine rd_tup ?_
        walk_at "lc"
        refine ⟨d, p, m, rfl, B.dl, by omega, fun H6 la D6 k6 => ?_⟩
        have B6 := B.draw k6 D6
        walk_at "lc"
        refine rd_lst ?_
        walk_at "lc"
        refine ⟨(by show 3 ≤ sizeLine; decide), fun c hc => ?_⟩
        have Bc := B6.same (same_new (o := .lst [.int 1, .int 2, .int 4]) hc)
        refine ⟨d, p, c, _, rfl, Bc.dl, upd_same, B6.dl.new hc, by decide, by decide, fun H7 v hv D7 k7 => ?_⟩
        obtain ⟨wd, rfl, w1, w2⟩ := w3_of hv
        have B7 := Bc.draw k7 D7
        walk_at "lc"
        refine ⟨d, p, 4, rfl, B7.dl, by decide, by decide, fun H8 z hz D8 k8 => ?_⟩
        have B8 := B7.draw k8 D8
        walk_at "lc"
        have ez : (1 : Int) + ((z : Nat) : Int) = ((1 + z : Nat) : Int) := by omega
        rw [ez]
        refine ⟨(by show 3 ≤ sizeLine; decide), fun x hx => ?_⟩
        have B9 := B8.same (same_new (o := .tup [.ref la, .int (wd : Nat), .int ((1 + z : Nat) : Int)]) hx)
        obtain ⟨vr9, hr9, fr9⟩ := B9.hr
        walk_at "lc"
        refine rd_append hr9 (Nat.lt_of_le_of_lt (show vr9.length ≤ 100 by rw [fr9.1]; omega) (by decide)) ?_
        refine ⟨⟨_, _, rfl⟩, rx ++ [(wd, 1 + z)], B9.addR (x := (wd, 1 + z)) ⟨x, .ref la, rfl, upd_same⟩ hr9, by rw [List.length_append, List.length_singleton, lr], fun k w n h => ?_⟩
        rcases at_snoc h with h | h
        · exact ar k w n h
        · cases h
          exact ⟨w2, by omega, by omega⟩
      · obtain ⟨⟨t6, t7, rfl⟩, rx, B6, lr, ar⟩ := h
        walk_at "lc"
        refine rd_for1 ?_
        walk_at "lc"
        refine ⟨d, p, 3, rfl, B6.dl, by decide, by decide, fun H7 n3 hn3 D7 k7 => ?_⟩
        have B7 := B6.draw k7 D7
        walk_at "lc"
        have e3 : (1 : Int) + ((n3 : Nat) : Int) = ((1 + n3 : Nat) : Int) := by omega
        rw [e3]
        refine rd_rng (n := 1 + n3) (by omega) (fun i σ H' => (∃ t6 t7 t8 t9 t10 t11 t12 t13, σ = [some (.ref d), some (.ref oa), some (.int (m : Nat)), some (.ref b), some (.ref r), some (.ref t), t6, t7, t8, t9, t10, t11, t12, t13]) ∧ ∃ ths, Bld H H' d p oa b r t os bx rx ths ∧ ths.length = i ∧ ∀ (k : Nat) T, ths[k]? = some T → ThrOk ⟨m, bx, rx, []⟩ T ∧ T.code.length ≤ 100)
          ⟨⟨_, _, _, _, _, _, _, _, rfl⟩, [], B7, rfl, fun k T h => by simp at h⟩ (fun i σ H8 hi h => ?_) (fun σ H8 h => ?_)
        · obtain ⟨⟨t6, t7, t8, t9, t10, t11, t12, t13, rfl⟩, ths, B8, lt8, at8⟩ := h
          walk_at "lc"
          refine rd_lcR ?_
          walk_at "lc"
          refine ⟨d, p, 3, rfl, B8.dl, by decide, by decide, fun H9 nw hnw D9 k9 => ?_⟩
          have B9 := B8.draw k9 D9
          walk_at "lc"
          refine rd_rgn (n := nw) (by omega) ?_
          refine lc_deal (n := nw) (β := Nat) (by omega) true B9.dl (fun _ v z => v = .int (z : Nat) ∧ z ≤ 8) (fun _ _ _ _ _ h => h) (fun j H' N M hj k D' kN kM => ?_) (fun C acc ws H10 hC k10 D10 e10 f10 l10 l10' => ?_)
          · walk_at "lc"
            refine ⟨wipe1 (by decide), ?_⟩
            walk_at "lc"
            refine rd_lst ?_
            walk_at "lc"
            refine ⟨(by show 3 ≤ sizeLine; decide), fun c hc => ?_⟩
            refine ⟨d, p, c, _, rfl, D'.same (same_new hc), upd_same, D'.new hc, by decide, by decide, fun H11 v hv D11 k11 => ?_⟩
            obtain ⟨wd, rfl, w1, w2⟩ := w3_of hv
            exact kN _ wd _ (same_then (same_new hc) k11) D11 ⟨rfl, w2⟩
          · have ef := f2_map (f10.imp fun _ _ h => h.1)
            have bw : ∀ w, w ∈ ws → w ≤ 8 := fun w hw => by
              obtain ⟨j, hj⟩ := List.getElem?_of_mem hw
              obtain ⟨_, _, h2⟩ := f10.at hj
              exact h2.2
            have lw : ws.length = nw := by rw [← f10.1]; exact l10' rfl
            subst ef
            have B10 := B9.draw k10 D10
            walk_at "lc"
            refine rd_tupleL e10 fun wa hwa => ?_
            have Bw := B10.same (same_new (o := .tup (ws.map fun w => V.int (w : Nat))) hwa)
            have hw1 : upd H10 wa (.tup (ws.map fun w => V.int (w : Nat))) wa = some (.tup (ws.map fun w => V.int (w : Nat))) := upd_same
            generalize upd H10 wa (.tup (ws.map fun w => V.int (w : Nat))) = H11 at Bw hw1
            walk_at "lc"
            refine ⟨d, p, 9, rfl, Bw.dl, by decide, by decide, fun H12 m0 hm0 D12 k12 => ?_⟩
            have B12 := Bw.draw k12 D12
            have hw2 := Bw.dl.ts k12 _ _ hw1
            walk_at "lc"
            have em : (1 : Int) + ((m0 : Nat) : Int) = ((1 + m0 : Nat) : Int) := by omega
            rw [em]
            have hmm1 : 1 ≤ 1 + m0 := by omega
            have hmm9 : 1 + m0 ≤ 9 := by omega
            generalize 1 + m0 = mm at hmm1 hmm9
            refine rd_tup ?_
            obtain ⟨vb, hvb, fvb⟩ := B12.hb
            obtain ⟨vr, hvr, fvr⟩ := B12.hr
            walk_at "lc"
            rw [List.length_map, fvb.1, fvr.1]
            refine ⟨(by show 4 ≤ sizeLine; decide), fun ba hba => ?_⟩
            have B13 := B12.same (same_new (o := .tup [.int (ws.length : Nat), .int (bx.length : Nat), .int (rx.length : Nat), .int (m : Nat)]) hba)
            have hw3 := same_new (o := .tup [.int (ws.length : Nat), .int (bx.length : Nat), .int (rx.length : Nat), .int (m : Nat)]) hba _ _ hw2
            have hba1 : upd H12 ba (.tup [.int (ws.length : Nat), .int (bx.length : Nat), .int (rx.length : Nat), .int (m : Nat)]) ba = some (.tup [.int (ws.length : Nat), .int (bx.length : Nat), .int (rx.length : Nat), .int (m : Nat)]) := upd_same
            generalize upd H12 ba (.tup [.int (ws.length : Nat), .int (bx.length : Nat), .int (rx.length : Nat), .int (m : Nat)]) = H13 at B13 hw3 hba1
            walk_at "lc"
            refine rd_lcR ?_
            walk_at "lc"
            have em1 : ((mm : Nat) : Int) - 1 = ((mm - 1 : Nat) : Int) := by omega
            rw [em1]
            refine rd_rgn (n := mm - 1) (by omega) ?_
            refine lc_deal (n := mm - 1) (β := Ins) (by omega) true B13.dl (fun H v c => InsAt H v c ∧ InsB ws.length bx.length rx.length m mm c) (fun _ _ _ _ t h => ⟨h.1.ts t, h.2⟩) (fun j H' N M hj k D' kN kM => ?_) (fun C2 acc2 cs H14 hC2 k14 D14 e14 f14 l14 l14' => ?_)
            · walk_at "lc"
              refine ⟨wipe1 (by decide), ?_⟩
              walk_at "lc"
              refine ⟨d, p, ba, ws.length, bx.length, rx.length, m, j, mm, rfl, D', B13.dl.ts k _ _ hba1, by omega, by omega, by omega, hm1, hm4, hmm1, by omega, fun H15 v hv D15 k15 => ?_⟩
              obtain ⟨c, hc1, hc2⟩ := hv
              exact kN v c _ k15 D15 ⟨hc1, hc2⟩
            · have B14 := B13.draw k14 D14
              have hw4 := B13.dl.ts k14 _ _ hw3
              have lcs : cs.length = mm - 1 := by rw [← f14.1]; exact l14' rfl
              have bcs : ∀ x, x ∈ cs → InsB ws.length bx.length rx.length m mm x := fun x hx => by
                obtain ⟨j, hj⟩ := List.getElem?_of_mem hx
                obtain ⟨_, _, h2⟩ := f14.at hj
                exact h2.2
              obtain ⟨vt14, hvt14, fvt14⟩ := B14.ht
              have nC2 := B13.dl.new hC2
              walk_at "lc"
              refine rd_tup ?_
              walk_at "lc"
              -- the last instruction
              refine yl_lst (G := LastAt mm) (n := 1) (yl_cons (fun _ _ _ t h => LastAt.ts t h) (fun Hx Qx Dx qx => ?_) yl_nil) (fun _ _ _ t h => LastAt.ts t h) (by decide) B14.dl fun H15 c15 ys D15 k15 n15 hc15 ly gy => ?_
              · walk_at "lc"
                refine ⟨d, p, 4, rfl, Dx, by decide, by decide, fun Hy y hy Dy ky => ?_⟩
                walk_at "lc"
                refine by_test (fun _ => ?_) (fun _ => ?_)
                · refine rd_tup ?_
                  walk_at "lc"
                  refine ⟨(by show 1 ≤ sizeLine; decide), fun a ha => ?_⟩
                  exact qx _ _ (Dy.same (same_new ha)) (ky.then_same (same_new ha)) ⟨.fin, ⟨a, rfl, upd_same⟩, .inl rfl⟩
                · refine rd_tup ?_
                  walk_at "lc"
                  refine ⟨d, p, mm, rfl, Dy, by omega, by omega, fun Hz z hz Dz kz => ?_⟩
                  walk_at "lc"
                  refine ⟨(by show 2 ≤ sizeLine; decide), fun a ha => ?_⟩
                  exact qx _ _ (Dz.same (same_new ha)) ((ky.tr kz).then_same (same_new ha)) ⟨.jump z, ⟨a, rfl, upd_same⟩, .inr ⟨z, rfl, hz⟩⟩
              · obtain ⟨v, rfl⟩ : ∃ v, ys = [v] := List.length_eq_one_iff.mp ly
                obtain ⟨c, hc1, hc2⟩ := gy v List.mem_cons_self
                have B15 := B14.draw k15 D15
                have hw5 := B14.dl.ts k15 _ _ hw4
                have hC15 := kd_at k15 e14 nC2
                have f15 : F2 (InsAt H15) (acc2 ++ [v]) (cs ++ [c]) := (f14.imp fun _ _ h => h.1.ts (B14.dl.ts k15)).snoc hc1
                have lac : acc2.length ≤ 9 := by rw [f14.1]; omega
                refine rd_cat hC15 hc15 (Nat.le_trans (show acc2.length + [v].length ≤ 20 by rw [List.length_singleton]; omega) (by decide)) fun e he => ?_
                walk_at "lc"
                refine rd_tupleL upd_same fun ca hca => ?_
                have s16 := (same_new (o := .lst (acc2 ++ [v])) he).trans (same_new (o := .tup (acc2 ++ [v])) hca)
                have hca1 : upd (upd H15 e (.lst (acc2 ++ [v]))) ca (.tup (acc2 ++ [v])) ca = some (.tup (acc2 ++ [v])) := upd_same
                generalize upd (upd H15 e (.lst (acc2 ++ [v]))) ca (.tup (acc2 ++ [v])) = H16 at s16 hca1
                have B16 := B15.same s16
                have hw6 := s16 _ _ hw5
                have f16 := f15.imp fun _ _ h => InsAt.ts (Ts.same s16) h
                walk_at "lc"
                refine ⟨(by show 2 ≤ sizeLine; decide), fun x hx => ?_⟩
                have sx : Same H16 (upd H16 x (.tup [.ref wa, .ref ca])) := same_new hx
                have B17 := B16.same sx
                obtain ⟨vt17, hvt17, fvt17⟩ := B17.ht
                walk_at "lc"
                refine rd_append hvt17 (Nat.lt_of_le_of_lt (show vt17.length ≤ 100 by rw [fvt17.1]; omega) (by decide)) ?_
                refine ⟨⟨_, _, _, _, _, _, _, _, rfl⟩, ths ++ [⟨ws, cs ++ [c]⟩], B17.addT (x := ⟨ws, cs ++ [c]⟩) ⟨x, wa, ca, rfl, upd_same, sx _ _ hw6, acc2 ++ [v], sx _ _ hca1, f16.imp fun _ _ h => InsAt.ts (Ts.same sx) h⟩ hvt17, by rw [List.length_append, List.length_singleton, lt8], fun k T h => ?_⟩
                rcases at_snoc h with h | h
                · exact at8 k T h
                · rw [← h]
                  exact ⟨drawn_thr hmm1 lcs hm4 bw (by omega) bcs hc2, by show (cs ++ [c]).length ≤ 100; rw [List.length_append, List.length_singleton]; omega⟩
        · obtain ⟨⟨t6, t7, t8, t9, t10, t11, t12, t13, rfl⟩, ths, B8, lt8, at8⟩ := h
          obtain ⟨vb, hvb, fvb⟩ := B8.hb
          obtain ⟨vr, hvr, fvr⟩ := B8.hr
          obtain ⟨vt, hvt, fvt⟩ := B8.ht
          walk_at "lc"
          refine rd_tup ?_
          walk_at "lc"
          refine rd_tupleL hvb fun tb htb => ?_
          have s1 : Same H8 (upd H8 tb (.tup vb)) := same_new htb
          have hb1 : upd H8 tb (.tup vb) tb = some (.tup vb) := upd_same
          generalize upd H8 tb (.tup vb) = H9 at s1 hb1
          have hvr1 := s1 _ _ hvr
          walk_at "lc"
          refine rd_tupleL hvr1 fun tr htr => ?_
          have s2 := s1.trans (same_new (o := .tup vr) htr)
          have hb2 := same_new (o := .tup vr) htr _ _ hb1
          have hr2 : upd H9 tr (.tup vr) tr = some (.tup vr) := upd_same
          generalize upd H9 tr (.tup vr) = H10 at s2 hb2 hr2
          have hvt2 := s2 _ _ hvt
          walk_at "lc"
          refine rd_tupleL hvt2 fun tt htt => ?_
          have s3 := s2.trans (same_new (o := .tup vt) htt)
          have hb3 := same_new (o := .tup vt) htt _ _ hb2
          have hr3 := same_new (o := .tup vt) htt _ _ hr2
          have ht3 : upd H10 tt (.tup vt) tt = some (.tup vt) := upd_same
          generalize upd H10 tt (.tup vt) = H11 at s3 hb3 hr3 ht3
          walk_at "lc"
          refine ⟨(by show 4 ≤ sizeLine; decide), fun ia hia => ?_⟩
          have s4 := s3.trans (same_new (o := .tup [.ref oa, .ref tb, .ref tr, .ref tt]) hia)
          have sI := same_new (o := .tup [.ref oa, .ref tb, .ref tr, .ref tt]) hia
          have T4 := Ts.same s4
          refine q _ ia ⟨m, bx, rx, ths⟩ ⟨oa, tb, tr, tt, os, upd_same, s4 _ _ B8.o, lo, ⟨vb, sI _ _ hb3, fvb.imp fun _ _ => BoxAt.ts T4⟩, ⟨vr, sI _ _ hr3, fvr.imp fun _ _ => RowAt.ts T4⟩, ⟨vt, sI _ _ ht3, fvt.imp fun _ _ => ThrAt.ts T4⟩⟩
            ⟨⟨hm1, hm4⟩, ab, ar, by show 1 ≤ ths.length ∧ ths.length ≤ 8; omega, fun k T h => (at8 k T h).1.ths⟩ (by show bx.length ≤ 100; omega) (by show rx.length ≤ 100; omega) (by show ths.length ≤ 3; omega) (fun k T h => (at8 k T h).2) (B8.dl.same s4) (B8.kp.then_same s4)
end
end Lk
/-! The law's own machine: its beginning; what holds a word. -/
namespace Lk
open PySem PySem.Spec PyProof.Rows L2
/-- the law's world at lw -/
structure LAt (H : Hp) (lw : Addr) (A : Lay) (s : MSt) : Prop where
  at_ : H lw = some (.lst [.int (s.tick : Nat), .ref (A .bx), .ref (A .rw), .ref (A .sm), .ref (A .th)])
  wd : Wd H A s
  nf : ¬ Fp A s lw
def spBegin : Sp := fun vs H Q _ => ∃ (ia na : Addr) (I : Img) (inp : List (List Int)), vs = [.ref ia, .ref na] ∧ ImgAt H ia I ∧ InpAt H na inp ∧ ImgOk I ∧ I.boxes.length ≤ 100000 ∧ I.rows.length ≤ 100000 ∧ inp.length ≤ 100000 ∧
  ∀ H' lw A, LAt H' lw A (begun I inp) → Same H H' → H lw = none → (∀ a, Fp A (begun I inp) a → H a = none) → Q (.ref lw) H'
def spHold : Sp := fun vs H Q _ => ∃ (ia lw : Addr) (A : Lay) (I : Img) (s : MSt) (T : Thr) (i : Nat) (t : Th) (c : Ins) (xa wa : Addr) (k : Nat), vs = [.ref ia, .ref lw, .ref (A (.thr i)), .ref xa, .ref wa] ∧ LAt H lw A s ∧ ImgAt H ia I ∧ ImgOk I ∧ StOk I s ∧ tht s i = some t ∧
  H xa = some (.tup c.vs) ∧ H wa = some (.tup (T.ws.map fun w => V.int (w : Nat))) ∧ (((c = .loc k ∨ c = .keep k) ∧ k < T.ws.length ∧ T.ws.getD k 0 ≤ 8) ∨ ((c = .box k ∨ c = .fill k) ∧ k < I.boxes.length) ∨ ((c = .cell k ∨ c = .cells k) ∧ k < I.rows.length)) ∧ t.loc.length = T.ws.length ∧ t.stk.length ≤ 100000 ∧
  ∀ H', Wd H' A (eff I T i t s c) → Kp (Fp A s) H H' → Q .non H'
theorem rd_rep {H : Hp} {Q : VK} {c : Addr} {n : Nat} (hc : H c = some (.lst [.int 0])) (hn : n ≤ 1000) (q : ∀ e, H e = none → Q (.ref e) (upd H e (il (List.replicate n 0)))) : rRep (.ref c) (.int (n : Nat)) H Q := by
  refine ⟨c, n, [.int 0], rfl, rfl, hc, by omega, by omega, Nat.le_trans (show [V.int 0].length * (n : Int).toNat ≤ 1000 by rw [List.length_singleton, Int.toNat_natCast]; omega) (by decide), fun e he => ?_⟩
  rw [Int.toNat_natCast, flat_rep, ← il_rep]
  exact q e he
theorem some_ne {H : Hp} {a b : Addr} (h : ∃ o, H a = some o) (h2 : H b = none) : a ≠ b := fun z => by
  obtain ⟨o, h⟩ := h
  rw [z, h2] at h
  cases h
section
variable {P : Program} {w : World} {K : PySem.W.Frag} {mg : Str → Option Value} {base : Heap}
theorem sc_l_begin : FnScope ["_law_image_here", "_law_inputs_here", "_law_threads", "_law_told", "_law_box", "_law_row"] ["_law_image_here", "_law_inputs_here"] (defScope S_l_begin) := ⟨rfl, rfl, rfl, by decide +kernel, rfl, by decide +kernel, by decide +kernel⟩
theorem ok_l_begin {f : Addr} {fd : FuncData} (F : Fun K "_law_begin" "_law_begin" S_l_begin f fd) (T : Tx mg) : FnOk P w K mg base CX0 1 f fd ["_law_image_here", "_law_inputs_here"] spBegin := by
  refine F.ok sc_l_begin (fun vs H Q E h => ?_) (fun cdv A outer s H vs Q E hr h => ?_)
  · obtain ⟨_, _, _, _, rfl, _⟩ := h
    rfl
  · obtain ⟨ia, na, I, inp, rfl, M, Np, O, zb, zr, zi, q⟩ := h
    refine ⟨_, pss_cons (ps_setLc (i := 2) (own := [("_law_told", 3)]) rfl sc_l_begin.nd rfl rfl (sw_true rfl rfl rfl (by decide +kernel)) (pi_tupK (K := K) rfl (pe_ix (ix_ltK (K := K) rfl) (pv 0) pe_int (fun _ _ => rfl))) (blkOk_by (N := ["_law_image_here", "_law_inputs_here", "_law_threads", "_law_told", "_law_box", "_law_row"]) (sc := defScope S_l_begin) (by decide +kernel)) (fun _ _ _ _ _ => (pg_name (i := 3) sc_l_begin.nd rfl (Or.inl rfl))) (fun _ _ _ _ _ => pts_nil) (fun _ _ _ _ _ => (pe_lst (pa_cons pe_int (pa_cons (pe_lst pa_nil) (pa_cons (pe_op op_rep (pe_lst (pa_cons pe_int pa_nil)) (pe_callB (call_lenK (K := K) rfl) (by rfl) T.len PySem.boot_len (pa_cons (pe_ix (ix_ltK (K := K) rfl) (pv 3) pe_int (fun _ _ => rfl)) pa_nil))) pa_nil)))))) (
      pss_one (ps_ret (pe_lst (pa_cons pe_int (pa_cons (pe_lc (own := [("_law_box", 4)]) rfl sc_l_begin.nd (pi_tupK (K := K) rfl (pe_ix (ix_ltK (K := K) rfl) (pv 0) pe_int (fun _ _ => rfl))) (blkOk_by (N := ["_law_image_here", "_law_inputs_here", "_law_threads", "_law_told", "_law_box", "_law_row"]) (sc := defScope S_l_begin) (by decide +kernel)) (fun _ _ _ _ _ => (pg_name (i := 4) sc_l_begin.nd rfl (Or.inl rfl))) (fun _ _ _ _ _ => pts_nil) (fun _ _ _ _ _ => (pe_ix (ix_ltK (K := K) rfl) (pv 4) pe_int (fun _ _ => rfl)))) (pa_cons (pe_lc (own := [("_law_row", 5)]) rfl sc_l_begin.nd (pi_tupK (K := K) rfl (pe_ix (ix_ltK (K := K) rfl) (pv 0) pe_int (fun _ _ => rfl))) (blkOk_by (N := ["_law_image_here", "_law_inputs_here", "_law_threads", "_law_told", "_law_box", "_law_row"]) (sc := defScope S_l_begin) (by decide +kernel)) (fun _ _ _ _ _ => (pg_name (i := 5) sc_l_begin.nd rfl (Or.inl rfl))) (fun _ _ _ _ _ => pts_nil) (fun _ _ _ _ _ => (pe_op op_rep (pe_lst (pa_cons pe_int pa_nil)) (pe_ix (ix_ltK (K := K) rfl) (pv 5) pe_int (fun _ _ => rfl))))) (pa_cons (pe_lc (own := [("_law_told", 3)]) rfl sc_l_begin.nd (pi_tupK (K := K) rfl (pv 1)) (blkOk_by (N := ["_law_image_here", "_law_inputs_here", "_law_threads", "_law_told", "_law_box", "_law_row"]) (sc := defScope S_l_begin) (by decide +kernel)) (fun _ _ _ _ _ => (pg_name (i := 3) sc_l_begin.nd rfl (Or.inl rfl))) (fun _ _ _ _ _ => pts_nil) (fun _ _ _ _ _ => (pe_revLK (K := K) rfl (pe_callTy (call_listK (K := K) rfl) (by rfl) T.list (by decide +kernel) (pa_cons (pv 3) pa_nil))))) (pa_cons (pv 2) pa_nil)))))))), ?_⟩
    obtain ⟨oa, ba, ra, ta, os, m1, m2, m3, ⟨bs, b1, b2⟩, ⟨rs, r1, r2⟩, ⟨ts, t1, t2⟩⟩ := M.ex
    obtain ⟨ns, n1, n2⟩ := Np
    walk_at "lc"
    refine lc_new (wkT t1) I.ths ThR (fun H H' v l z hl h => ?_) t2.1 (by rw [t2.1]; exact Nat.le_trans O.ne.2 (by decide)) (fun i x y H' N hx hy sm kN => ?_) (fun Dt ct at_ H1 hDt sm1 ht1 lt1 lt2 ft ndt nwt => ?_)
    · obtain ⟨k, l', t, rfl, rfl, h1, h2, h3⟩ := h
      exact ⟨k, l', t, rfl, rfl, by rw [hl t (by simp)]; exact h1, by rw [hl k (by simp)]; exact h2, by rw [hl l' (by simp)]; exact h3⟩
    · obtain ⟨xa, wa, ca, rfl, hxa, hwa, hca⟩ := t2.2 i x y hx hy
      have hxa' := sm _ _ hxa
      have hwa' := sm _ _ hwa
      walk_at "lc"
      refine ⟨wipe1 (by decide), ?_⟩
      walk_at "lc"
      refine rd_lst ?_
      walk_at "lc"
      refine rd_lst ?_
      walk_at "lc"
      refine ⟨Nat.zero_le _, fun kn hkn => ?_⟩
      have hxa2 := same_new (o := .lst []) hkn _ _ hxa'
      have hwa2 := same_new (o := .lst []) hkn _ _ hwa'
      have hk1 : upd H' kn (.lst []) kn = some (il []) := upd_same
      have s1 : Same H' (upd H' kn (.lst [])) := same_new hkn
      generalize upd H' kn (.lst []) = H2 at hxa2 hwa2 hk1 s1
      walk_at "lc"
      refine rd_lst ?_
      walk_at "lc"
      refine ⟨(by show 1 ≤ sizeLine; decide), fun c hc => ?_⟩
      have hxa3 := same_new (o := .lst [.int 0]) hc _ _ hxa2
      have hwa3 := same_new (o := .lst [.int 0]) hc _ _ hwa2
      have hk2 := same_new (o := .lst [.int 0]) hc _ _ hk1
      have hc1 : upd H2 c (.lst [.int 0]) c = some (.lst [.int 0]) := upd_same
      have s2 := s1.trans (same_new (o := .lst [.int 0]) hc)
      generalize upd H2 c (.lst [.int 0]) = H3 at hxa3 hwa3 hk2 hc1 s2
      walk_at "lc"
      rw [List.length_map]
      refine rd_rep hc1 (Nat.le_trans (O.thr i y hy).wl (by decide)) fun ln hln => ?_
      walk_at "lc"
      refine ⟨(by show 3 ≤ sizeLine; decide), fun tn htn => ?_⟩
      have s3 := s2.trans (same_new (o := il (List.replicate y.ws.length 0)) hln)
      have hk3 := same_new (o := il (List.replicate y.ws.length 0)) hln _ _ hk2
      have hkt : kn ≠ tn := ne_of_none hk3 htn
      have hlt : ln ≠ tn := ne_of_none upd_same htn
      have hkl : kn ≠ ln := ne_of_none hk2 hln
      refine kN _ _ [kn, ln, tn] (s3.trans (same_new htn)) ⟨kn, ln, tn, rfl, rfl, upd_same, same_new htn _ _ hk3, same_new htn _ _ upd_same⟩ ?_ fun x hx => ?_
      · exact List.nodup_cons.mpr ⟨by simp [hkl, hkt], List.nodup_cons.mpr ⟨by simp [hlt], nod1 _⟩⟩
      · have cases3 : x = kn ∨ x = ln ∨ x = tn := by simpa using hx
        rcases cases3 with z | z | z
        · rw [z]
          exact ⟨hkn, _, same_new htn _ _ hk3⟩
        · rw [z]
          exact ⟨s2.free hln, _, same_new htn _ _ upd_same⟩
        · rw [z]
          exact ⟨s3.free htn, _, upd_same⟩
    · have Mt1 : Made ThR H1 Dt ct at_ I.ths := ⟨ht1, lt1, lt2, ft⟩
      have gT : ∀ a, a ∈ Dt :: at_.flatten → H a = none ∧ ∃ o, H1 a = some o := fun a ha => by
        rcases List.mem_cons.mp ha with z | z
        · rw [z]
          exact ⟨hDt, _, ht1⟩
        · exact nwt a z
      have hm1 := sm1 _ _ m1
      have hb1 := sm1 _ _ b1
      walk_at "lc"
      refine rd_lst ?_
      walk_at "lc"
      refine lc_all (wkT hb1) I.boxes (fun _ v x => v = .int x.2) (fun _ _ _ _ _ h => h) b2.1 (by rw [b2.1]; exact zb) (fun i x y H' N hx hy sm kN => ?_) (fun Db accb H2 hDb sm2 eb fb => ?_)
      · obtain ⟨xa, l, rfl, hxa⟩ := b2.2 i x y hx hy
        have hxa' := sm _ _ (sm1 _ _ hxa)
        walk_at "lc"
        refine ⟨wipe1 (by decide), ?_⟩
        walk_at "lc"
        exact kN _ _ (Same.refl _) rfl
      · have hbD : H2 Db = some (il (I.boxes.map (·.2))) := by
          rw [eb, f2_map fb]
          show _ = some (HO.lst _)
          rw [List.map_map]
          rfl
        have s12 := sm1.trans sm2
        have hm2 := s12 _ _ m1
        have hr2 := s12 _ _ r1
        walk_at "lc"
        refine lc_new (wkT hr2) I.rows RwR (fun H H' v l z hl h => ?_) r2.1 (by rw [r2.1]; exact zr) (fun i x y H' N hx hy sm kN => ?_) (fun Dr cr ar H3 hDr sm3 hr1 lr1 lr2 fr ndr nwr => ?_)
        · obtain ⟨a, rfl, rfl, ha⟩ := h
          exact ⟨a, rfl, rfl, by rw [hl a (List.mem_singleton.mpr rfl)]; exact ha⟩
        · obtain ⟨xa, l, rfl, hxa⟩ := r2.2 i x y hx hy
          have hxa' := sm _ _ (s12 _ _ hxa)
          walk_at "lc"
          refine ⟨wipe1 (by decide), ?_⟩
          walk_at "lc"
          refine rd_lst ?_
          walk_at "lc"
          refine ⟨(by show 1 ≤ sizeLine; decide), fun c hc => ?_⟩
          have hxa2 := same_new (o := .lst [.int 0]) hc _ _ hxa'
          walk_at "lc"
          have hn := (O.row i y.1 y.2 hy).2.2
          refine rd_rep upd_same (by omega) fun a ha => ?_
          exact kN _ _ [a] ((same_new hc).trans (same_new ha)) ⟨a, rfl, rfl, upd_same⟩ (nod1 _) fun x hx => by
            rw [List.mem_singleton.mp hx]
            exact ⟨(same_new hc).free ha, _, upd_same⟩
        · have Mr3 : Made RwR H3 Dr cr ar I.rows := ⟨hr1, lr1, lr2, fr⟩
          have gR : ∀ a, a ∈ Dr :: ar.flatten → H2 a = none ∧ ∃ o, H3 a = some o := fun a ha => by
            rcases List.mem_cons.mp ha with z | z
            · rw [z]
              exact ⟨hDr, _, hr1⟩
            · exact nwr a z
          have s13 := s12.trans sm3
          have hn3 := s13 _ _ n1
          walk_at "lc"
          refine lc_new (wkT hn3) inp SmR (fun H H' v l z hl h => ?_) n2.1 (by rw [n2.1]; exact zi) (fun i x y H' N hx hy sm kN => ?_) (fun Ds cs as_ H4 hDs sm4 hs1 ls1 ls2 fs nds nws => ?_)
          · obtain ⟨a, rfl, rfl, ha⟩ := h
            exact ⟨a, rfl, rfl, by rw [hl a (List.mem_singleton.mpr rfl)]; exact ha⟩
          · obtain ⟨xa, rfl, hxa⟩ := n2.2 i x y hx hy
            have hxa' := sm _ _ (s13 _ _ hxa)
            walk_at "lc"
            refine ⟨wipe1 (by decide), ?_⟩
            walk_at "lc"
            intro a0 ha0
            refine rd_rev upd_same fun a ha => ?_
            refine kN _ _ [a] ((same_new ha0).trans (same_new ha)) ⟨a, rfl, rfl, by rw [upd_same, il_rev]⟩ (nod1 _) fun c hc => by
              rw [List.mem_singleton.mp hc]
              exact ⟨(same_new ha0).free ha, _, upd_same⟩
          · have Ms4 : Made SmR H4 Ds cs as_ inp := ⟨hs1, ls1, ls2, fs⟩
            have gS : ∀ a, a ∈ Ds :: as_.flatten → H3 a = none ∧ ∃ o, H4 a = some o := fun a ha => by
              rcases List.mem_cons.mp ha with z | z
              · rw [z]
                exact ⟨hDs, _, hs1⟩
              · exact nws a z
            walk_at "lc"
            refine ⟨(by show 5 ≤ sizeLine; decide), fun lw hlw => ?_⟩
            have s24 := sm3.trans sm4
            have s14 := sm2.trans s24
            have s04 := sm1.trans s14
            have sw : Same H4 (upd H4 lw (.lst [.int 0, .ref Db, .ref Dr, .ref Ds, .ref Dt])) := same_new hlw
            have Mr : Made RwR (upd H4 lw (.lst [.int 0, .ref Db, .ref Dr, .ref Ds, .ref Dt])) Dr cr ar I.rows := ⟨sw _ _ (sm4 _ _ hr1), lr1, lr2, fun i v l y h1 h2 h3 => by
              obtain ⟨a, rfl, rfl, ha⟩ := fr i v l y h1 h2 h3
              exact ⟨a, rfl, rfl, sw _ _ (sm4 _ _ ha)⟩⟩
            have Ms : Made SmR (upd H4 lw (.lst [.int 0, .ref Db, .ref Dr, .ref Ds, .ref Dt])) Ds cs as_ inp := ⟨sw _ _ hs1, ls1, ls2, fun i v l y h1 h2 h3 => by
              obtain ⟨a, rfl, rfl, ha⟩ := fs i v l y h1 h2 h3
              exact ⟨a, rfl, rfl, sw _ _ ha⟩⟩
            have Mt : Made ThR (upd H4 lw (.lst [.int 0, .ref Db, .ref Dr, .ref Ds, .ref Dt])) Dt ct at_ I.ths := ⟨sw _ _ (s14 _ _ ht1), lt1, lt2, fun i v l y h1 h2 h3 => by
              obtain ⟨k, l', t, rfl, rfl, z1, z2, z3⟩ := ft i v l y h1 h2 h3
              exact ⟨k, l', t, rfl, rfl, sw _ _ (s14 _ _ z1), sw _ _ (s14 _ _ z2), sw _ _ (s14 _ _ z3)⟩⟩
            have ex : ∀ {a : Addr} {G G' : Hp}, Same G G' → (∃ o, G a = some o) → ∃ o, G' a = some o := fun s ⟨o, h⟩ => ⟨o, s _ _ h⟩
            have eB : ∃ o, H2 Db = some o := ⟨_, hbD⟩
            have c1 : ∀ a, a ∈ gAll Db Dr Ds Dt ar as_ at_ 0 → a = Db := fun a h => List.mem_singleton.mp h
            have inG : ∀ n a, n < 4 → a ∈ gAll Db Dr Ds Dt ar as_ at_ n → H a = none ∧ ∃ o, H4 a = some o := fun n a hn ha => by
              match n, hn, ha with
              | 0, _, ha =>
                rw [c1 a ha]
                exact ⟨sm1.free hDb, ex s24 eB⟩
              | 1, _, ha => exact ⟨s12.free (gR a ha).1, ex sm4 (gR a ha).2⟩
              | 2, _, ha => exact ⟨s13.free (gS a ha).1, (gS a ha).2⟩
              | 3, _, ha => exact ⟨(gT a ha).1, ex s14 (gT a ha).2⟩
            have g4 : ∀ z : Sl, grp z < 4 := fun z => by cases z <;> (show _ < 4; simp [grp])
            refine q _ lw (mkA Db Dr Ds Dt ar as_ at_) ⟨upd_same, mk_wd (sw _ _ (s24 _ _ hbD)) Mr Ms Mt (fun n => ?_) (fun n m a hnm hm h1 h2 => ?_), fun hF => ?_⟩ (s04.trans sw) (s04.free hlw) (fun a ha => ?_)
            · match n with
              | 0 => exact nod1 _
              | 1 => exact ndr
              | 2 => exact nds
              | n + 3 => exact ndt
            · match n, m, hnm, hm, h1, h2 with
              | 0, 1, _, _, h1, h2 =>
                rw [c1 a h1] at h2
                exact some_ne eB (gR Db h2).1 rfl
              | 0, 2, _, _, h1, h2 =>
                rw [c1 a h1] at h2
                exact some_ne (ex sm3 eB) (gS Db h2).1 rfl
              | 0, 3, _, _, h1, h2 =>
                rw [c1 a h1] at h2
                exact some_ne (gT Db h2).2 hDb rfl
              | 1, 2, _, _, h1, h2 => exact some_ne (gR a h1).2 (gS a h2).1 rfl
              | 1, 3, _, _, h1, h2 => exact some_ne (ex sm2 (gT a h2).2) (gR a h1).1 rfl
              | 2, 3, _, _, h1, h2 => exact some_ne (ex (sm2.trans sm3) (gT a h2).2) (gS a h1).1 rfl
              | n + 3, m, y1, y2, _, _ => exact absurd y1 (by omega)
            · obtain ⟨x, o, hx, e⟩ := hF
              have mm := mk_mem Mr Ms Mt hx
              rw [e] at mm
              exact some_ne (inG _ _ (g4 x) mm).2 hlw rfl
            · obtain ⟨x, o, hx, rfl⟩ := ha
              exact (inG _ _ (g4 x) (mk_mem Mr Ms Mt hx)).1
end
end Lk
/-! The law's own machine: words held. -/
namespace Lk
open PySem PySem.Spec PyProof.Rows L2
section
variable {P : Program} {w : World} {K : PySem.W.Frag} {mg : Str → Option Value} {base : Heap}
theorem sc_l_hold : FnScope ["_law_image_here", "_law_world", "_law_thread", "_law_one", "_law_widths", "_law_stack", "_law_place", "_law_boxes", "_law_rows", "_law_held", "_law_word", "_law_cells", "_law_index"] ["_law_image_here", "_law_world", "_law_thread", "_law_one", "_law_widths"] (defScope S_l_hold) := ⟨rfl, rfl, rfl, by decide +kernel, rfl, by decide +kernel, by decide +kernel⟩
theorem ok_l_hold {f : Addr} {fd : FuncData} (F : Fun K "_law_hold" "_law_hold" S_l_hold f fd) (T : Tx mg) (c__law_pop : Cl P w K mg base 1 "_law_pop" ["_law_words"] spPop) :
    FnOk P w K mg base CX0 2 f fd ["_law_image_here", "_law_world", "_law_thread", "_law_one", "_law_widths"] spHold := by
  refine F.ok sc_l_hold (fun vs H Q E h => ?_) (fun cdv A outer s H vs Q E hr h => ?_)
  · obtain ⟨_, _, _, _, _, _, _, _, _, _, _, _, rfl, _⟩ := h
    rfl
  · obtain ⟨ia, lw, A, I, s, T', i, t, c, xa, wa, k, rfl, L, M, O, S, ht, hone, hws, hc, hll, hz, q⟩ := h
    refine ⟨_, pss_cons (ps_asg (pe_tup (pa_cons (pe_ix (ix_ltK (K := K) rfl) (pv 2) pe_int (fun _ _ => rfl)) (pa_cons (pe_ix (ix_ltK (K := K) rfl) (pv 3) pe_int (fun _ _ => rfl)) (pa_cons (pe_ix (ix_ltK (K := K) rfl) (pv 1) pe_int (fun _ _ => rfl)) (pa_cons (pe_ix (ix_ltK (K := K) rfl) (pv 1) pe_int (fun _ _ => rfl)) pa_nil))))) (pg_tupK (K := K) (n := 4) rfl rfl (pgs_cons (pg_name (i := 5) sc_l_hold.nd rfl (Or.inl rfl)) (pgs_cons (pg_name (i := 6) sc_l_hold.nd rfl (Or.inl rfl)) (pgs_cons (pg_name (i := 7) sc_l_hold.nd rfl (Or.inl rfl)) (pgs_cons (pg_name (i := 8) sc_l_hold.nd rfl (Or.inl rfl)) pgs_nil)))))) (
      pss_cons (ps_set (i := 9) sc_l_hold.nd rfl (Or.inl rfl) (pe_ix (ix_ltK (K := K) rfl) (pv 2) pe_int (fun _ _ => rfl))) (
      pss_one (ps_if (pt_cmpR op_eq (pe_ix (ix_ltK (K := K) rfl) (pv 3) pe_int (fun _ _ => rfl)) pe_str (nomark _)) (pss_one (ps_expr (pe_bm PySem.F.plainAttrs_list PySem.F.slot_list_append PySem.F.type_list_append  mt_append (pv 5) (pa_cons (pe_ix (ix_ltK (K := K) rfl) (pv 9) (pv 6) (fun _ _ => rfl)) pa_nil)))) (pss_one (ps_if (pt_cmpR op_eq (pe_ix (ix_ltK (K := K) rfl) (pv 3) pe_int (fun _ _ => rfl)) pe_str (nomark _)) (pss_one (ps_asg (pe_op op_mod (pe_callTy call_int1 (by rfl) T.int (by decide +kernel) (pa_cons (pe_cl c__law_pop hr (by decide) (by rfl) (pa_cons (pv 5) pa_nil)) pa_nil)) (pe_op op_shl pe_int (pe_ix (ix_ltK (K := K) rfl) (pv 4) (pv 6) (fun _ _ => rfl)))) (pg_sub (pv 9) (pv 6) set_list))) (pss_one (ps_if (pt_cmpR op_eq (pe_ix (ix_ltK (K := K) rfl) (pv 3) pe_int (fun _ _ => rfl)) pe_str (nomark _)) (pss_one (ps_expr (pe_bm PySem.F.plainAttrs_list PySem.F.slot_list_append PySem.F.type_list_append  mt_append (pv 5) (pa_cons (pe_ix (ix_ltK (K := K) rfl) (pv 7) (pv 6) (fun _ _ => rfl)) pa_nil)))) (pss_one (ps_if (pt_cmpR op_eq (pe_ix (ix_ltK (K := K) rfl) (pv 3) pe_int (fun _ _ => rfl)) pe_str (nomark _)) (pss_one (ps_asg (pe_op op_mod (pe_callTy call_int1 (by rfl) T.int (by decide +kernel) (pa_cons (pe_cl c__law_pop hr (by decide) (by rfl) (pa_cons (pv 5) pa_nil)) pa_nil)) (pe_op op_shl pe_int (pe_ix (ix_ltK (K := K) rfl) (pe_ix (ix_ltK (K := K) rfl) (pe_ix (ix_ltK (K := K) rfl) (pv 0) pe_int (fun _ _ => rfl)) (pv 6) (fun _ _ => rfl)) pe_int (fun _ _ => rfl)))) (pg_sub (pv 7) (pv 6) set_list))) (pss_cons (ps_par (i := 10) (j := 11) rfl sc_l_hold.nd rfl rfl (by decide) rfl rfl (pa_cons (pe_ifExp (pt_cmpR op_eq (pe_ix (ix_ltK (K := K) rfl) (pv 3) pe_int (fun _ _ => rfl)) pe_str (nomark _)) (pe_cl c__law_pop hr (by decide) (by rfl) (pa_cons (pv 5) pa_nil)) pe_int) (pa_cons (pe_ix (ix_ltK (K := K) rfl) (pv 8) (pv 6) (fun _ _ => rfl)) pa_nil)) (by rfl)) (pss_cons (ps_set (i := 12) sc_l_hold.nd rfl (Or.inl rfl) (pe_op op_mod (pe_callTy call_int1 (by rfl) T.int (by decide +kernel) (pa_cons (pe_cl c__law_pop hr (by decide) (by rfl) (pa_cons (pv 5) pa_nil)) pa_nil)) (pe_callB (call_lenK (K := K) rfl) (by rfl) T.len PySem.boot_len (pa_cons (pv 11) pa_nil)))) (pss_one (ps_if (pt_cmpR op_eq (pe_ix (ix_ltK (K := K) rfl) (pv 3) pe_int (fun _ _ => rfl)) pe_str (nomark _)) (pss_one (ps_expr (pe_bm PySem.F.plainAttrs_list PySem.F.slot_list_append PySem.F.type_list_append  mt_append (pv 5) (pa_cons (pe_ix (ix_ltK (K := K) rfl) (pv 11) (pv 12) (fun _ _ => rfl)) pa_nil)))) (pss_one (ps_asg (pe_op op_mod (pe_callTy call_int1 (by rfl) T.int (by decide +kernel) (pa_cons (pv 10) pa_nil)) (pe_op op_shl pe_int (pe_ix (ix_ltK (K := K) rfl) (pe_ix (ix_ltK (K := K) rfl) (pe_ix (ix_ltK (K := K) rfl) (pv 0) pe_int (fun _ _ => rfl)) (pv 6) (fun _ _ => rfl)) pe_int (fun _ _ => rfl)))) (pg_sub (pv 11) (pv 12) set_list)))))))))))))))), ?_⟩
    have W := L.wd
    have hlw := L.at_
    have hth := W.thr ht
    have hstk := W.stk ht
    have hloc := W.loc ht
    have hbx := W.bx
    have hrw := W.rw_
    have stkz : (t.stk.map V.int).length < sizeLine := by rw [List.length_map]; exact line100 hz
    have hplace : c.vs[1]? = some (.int (k : Nat)) := by
      rcases hc with ⟨hc, _⟩ | ⟨hc, _⟩ | ⟨hc, _⟩ <;> rcases hc with rfl | rfl <;> rfl
    walk_at "lc"
    refine rd_tup ?_
    walk_at "lc"
    refine rd_ix1 (.inr hone) hplace ?_
    walk_at "lc"
    refine ⟨(by show 4 ≤ sizeLine; decide), fun z hz' => ?_⟩
    have s1 : Same H (upd H z (.tup [.ref (A (.stk i)), .int (k : Nat), .ref (A .bx), .ref (A .rw)])) := same_new hz'
    have hz1 : upd H z (.tup [.ref (A (.stk i)), .int (k : Nat), .ref (A .bx), .ref (A .rw)]) z = some (.tup [.ref (A (.stk i)), .int (k : Nat), .ref (A .bx), .ref (A .rw)]) := upd_same
    generalize upd H z (.tup [.ref (A (.stk i)), .int (k : Nat), .ref (A .bx), .ref (A .rw)]) = H0 at s1 hz1
    have q0 : ∀ H', Wd H' A (eff I T' i t s c) → Kp (Fp A s) H0 H' → Q .non H' := fun H' h1 h2 => q H' h1 (same_then s1 h2)
    clear q
    have q := q0
    clear q0
    have W0 := W.same s1
    have M0 := M.ts (Ts.same s1)
    clear W M
    have W := W0
    have M := M0
    have hth := W.thr ht
    have hstk := W.stk ht
    have hloc := W.loc ht
    have hbx := W.bx
    have hrw := W.rw_
    have hlw := s1 _ _ hlw
    have hone := s1 _ _ hone
    have hws := s1 _ _ hws
    rcases hc with ⟨hc, hk, hw8⟩ | ⟨hc, hk⟩ | ⟨hc, hk⟩
    · have hlk := map_int_at (xs := t.loc) (k := k) (by omega)
      have hwk := map_nat_at hk
      have hp8 := pow8 hw8
      rcases hc with rfl | rfl
      · walk_at "lc"
        refine rd_append hstk stkz ?_
        walk_at "lc"
        rw [map_app_int]
        exact q _ (W.set_stk ht upd_same (kp_upd rfl)) (kp_upd (fp_stk ht))
      · walk_at "lc"
        refine ⟨_, _, rfl, hstk, fun H1 e1 k1 => ?_⟩
        have ts1 := k1.ts1 hstk
        have W1 := W.set_stk ht e1 k1
        have ht1 := tht_putT (t' := ⟨t.row, t.stk.dropLast, t.loc⟩) ht
        have hloc1 := W1.loc ht1
        have hws1 := ts1 _ _ hws
        walk_at "lc"
        refine rd_shl ⟨by omega, by omega, by decide⟩ ?_
        rw [Int.one_mul, Int.toNat_natCast]
        refine rd_mod hp8.1 ?_
        walk_at "lc"
        refine rd_set hloc1 (by rw [List.length_map]; show k < t.loc.length; omega) ?_
        walk_at "lc"
        rw [map_set_int]
        have W2 := W1.set_loc ht1 (xs := t.loc.set k (top t.stk % 2 ^ T'.ws.getD k 0)) (H' := upd H1 (A (.loc i)) _) upd_same (kp_upd rfl)
        rw [putT_putT] at W2
        exact q _ W2 ((k1.at1 (fp_stk ht)).tr (kp_upd (fp_loc ht)))
    · have hb : I.boxes[k]? = some (I.boxes[k].1, I.boxes[k].2) := List.getElem?_eq_getElem hk
      have hbD : I.boxes.getD k (0, 0) = I.boxes[k] := getD_at (List.getElem?_eq_getElem hk)
      have hw8 := (O.box k _ _ hb).1
      have hp8 := pow8 hw8
      have hkb : k < s.boxes.length := by rw [S.bl]; exact hk
      have hbk := map_int_at (xs := s.boxes) (k := k) hkb
      rcases hc with rfl | rfl
      · walk_at "lc"
        refine rd_append hstk stkz ?_
        walk_at "lc"
        rw [map_app_int]
        exact q _ (W.set_stk ht upd_same (kp_upd rfl)) (kp_upd (fp_stk ht))
      · walk_at "lc"
        refine ⟨_, _, rfl, hstk, fun H1 e1 k1 => ?_⟩
        have ts1 := k1.ts1 hstk
        have W1 := W.set_stk ht e1 k1
        obtain ⟨vs, ab, bs, v, l, m1, m2, m3, m4, m5⟩ := (M.ts ts1).box hb
        have hbx1 := W1.bx
        walk_at "lc"
        refine rd_ix1 (.inr m1) m2 ?_
        walk_at "lc"
        refine rd_shl ⟨by omega, by omega, by decide⟩ ?_
        rw [Int.one_mul, Int.toNat_natCast]
        refine rd_mod hp8.1 ?_
        walk_at "lc"
        refine rd_set hbx1 (by rw [List.length_map]; exact hkb) ?_
        walk_at "lc"
        rw [map_set_int]
        have W2 := W1.set_bx (xs := s.boxes.set k (top t.stk % 2 ^ I.boxes[k].1)) (H' := upd H1 (A .bx) _) upd_same (kp_upd rfl)
        refine q _ ?_ ((k1.at1 (fp_stk ht)).tr (kp_upd fp_bx))
        show Wd _ A (putT { s with boxes := s.boxes.set k (top t.stk % 2 ^ ((I.boxes.getD k (0, 0)).1)) } i ⟨t.row, t.stk.dropLast, t.loc⟩)
        rw [hbD]
        exact W2
    · have hb : I.rows[k]? = some (I.rows[k].1, I.rows[k].2) := List.getElem?_eq_getElem hk
      have hbD : I.rows.getD k (0, 0) = I.rows[k] := getD_at (List.getElem?_eq_getElem hk)
      obtain ⟨hw8, hn1, hn2⟩ := O.row k _ _ hb
      have hp8 := pow8 hw8
      have hkr : k < s.rows.length := by rw [S.rl]; exact hk
      have ecs : s.rows[k]? = some s.rows[k] := List.getElem?_eq_getElem hkr
      have eD : s.rows.getD k [] = s.rows[k] := getD_at ecs
      generalize hcs : s.rows[k] = cs at ecs eD
      have hlen : 1 ≤ cs.length := by rw [S.rz k cs _ _ ecs hb]; exact hn1
      have hrk := rwv_at (A := A) hkr
      have hcell := W.row ecs
      rcases hc with rfl | rfl
      · walk_at "lc"
        refine ⟨_, _, rfl, hstk, fun H1 e1 k1 => ?_⟩
        have W1 := W.set_stk ht e1 k1
        have ht1 := tht_putT (t' := ⟨t.row, t.stk.dropLast, t.loc⟩) ht
        have ts1 := k1.ts1 hstk
        have hone1 := ts1 _ _ hone
        have hcell1 := W1.row (k := k) ecs
        have hstk1 := W1.stk ht1
        walk_at "lc"
        rw [List.length_map]
        refine rd_mod (by omega) ?_
        walk_at "lc"
        obtain ⟨i1, i2⟩ := idx_ok (x := top t.stk) hlen
        refine rd_ix (.inl hcell1) (map_int_at i2) i1 ?_
        walk_at "lc"
        refine rd_append hstk1 (by rw [List.length_map, List.length_dropLast]; exact line100 (by omega)) ?_
        walk_at "lc"
        rw [map_app_int]
        have W2 := W1.set_stk ht1 (xs := t.stk.dropLast ++ [cs.getD (top t.stk % (cs.length : Nat)).toNat 0]) (H' := upd H1 (A (.stk i)) _) upd_same (kp_upd rfl)
        rw [putT_putT] at W2
        refine q _ ?_ ((k1.at1 (fp_stk ht)).tr (kp_upd (fp_stk ht)))
        show Wd _ A (putT s i ⟨t.row, t.stk.dropLast ++ [(s.rows.getD k []).getD (top t.stk % ((s.rows.getD k []).length : Nat)).toNat 0], t.loc⟩)
        rw [eD]
        exact W2
      · walk_at "lc"
        refine ⟨_, _, rfl, hstk, fun H1 e1 k1 => ?_⟩
        have W1 := W.set_stk ht e1 k1
        have ht1 := tht_putT (t' := ⟨t.row, t.stk.dropLast, t.loc⟩) ht
        have ts1 := k1.ts1 hstk
        have hstk1 := W1.stk ht1
        have hrw1 := W1.rw_
        have hrk1 : (rwv A s.rows.length)[k]? = some (.ref (A (.row k))) := hrk
        walk_at "lc"
        refine ⟨_, _, rfl, hstk1, fun H2 e2 k2 => ?_⟩
        have W2 := W1.set_stk ht1 e2 k2
        have ht2 := tht_putT (t' := ⟨t.row, t.stk.dropLast.dropLast, t.loc⟩) ht1
        have ts2 := k2.ts1 hstk1
        have hone2 := ts2 _ _ (ts1 _ _ hone)
        obtain ⟨vs, ab, bs, v, l, m1, m2, m3, m4, m5⟩ := (M.ts (ts1.trans ts2)).row hb
        have hcell2 := W2.row (k := k) ecs
        walk_at "lc"
        rw [List.length_map]
        refine rd_mod (by omega) ?_
        walk_at "lc"
        refine rd_ix2 (.inr m1) m2 ?_
        walk_at "lc"
        refine rd_shl ⟨by omega, by omega, by decide⟩ ?_
        rw [Int.one_mul, Int.toNat_natCast]
        refine rd_mod hp8.1 ?_
        walk_at "lc"
        obtain ⟨i1, i2⟩ := idx_ok (x := top t.stk.dropLast) hlen
        rw [i1]
        refine rd_set hcell2 (by rw [List.length_map]; exact i2) ?_
        walk_at "lc"
        rw [map_set_int]
        have W3 := W2.set_cells (i := k) ecs (xs := cs.set (top t.stk.dropLast % (cs.length : Nat)).toNat (top t.stk % 2 ^ I.rows[k].1)) (H' := upd H2 (A (.row k)) _) upd_same (kp_upd rfl)
        rw [putT_putT] at W3
        refine q _ ?_ (((k1.at1 (fp_stk ht)).tr (k2.at1 (fp_stk ht))).tr (kp_upd (fp_row ecs)))
        show Wd _ A (putT { s with rows := s.rows.set k ((s.rows.getD k []).set (top t.stk.dropLast % ((s.rows.getD k []).length : Nat)).toNat (top t.stk % 2 ^ ((I.rows.getD k (0, 0)).1))) } i ⟨t.row, t.stk.dropLast.dropLast, t.loc⟩)
        rw [eD, hbD]
        exact W3
end
end Lk
/-! The law's own machine: one tick. -/
namespace Lk
open PySem PySem.Spec PyProof.Rows L2
def spLTick : Sp := fun vs H Q _ => ∃ (ia lw : Addr) (A : Lay) (I : Img) (s : MSt), vs = [.ref ia, .ref lw] ∧ LAt H lw A s ∧ ImgAt H ia I ∧ ImgOk I ∧ StOk I s ∧ s.tick ≤ 1000 ∧
  ∀ H' d, LAt H' lw A (step I s).1 → DeedsL H' d (step I s).2 → Kp (Wp lw A s) H H' → Q (.ref d) H'
abbrev sRE : List Str := ["rest", "else"]
theorem lwp_ts {H H' : Hp} {lw : Addr} {A : Lay} {s : MSt} {xs : List V} (k : Kp (Wp lw A s) H H') (hp : H lw = some (.lst xs)) (W : Wd H A s) : Ts H H' := k.ts fun x e ys q => by
  rcases e with e | e
  · rw [e, hp] at q
    cases q
  · obtain ⟨zs, h⟩ := fp_lst W e
    rw [h] at q
    cases q
theorem kp_free {S : Addr → Prop} {H H' : Hp} (k : Kp S H H') {a : Addr} (h : H' a = none) (n : ¬ S a) : H a = none := by
  cases z : H a with
  | none => rfl
  | some o =>
    rw [k a o z n] at h
    cases h
section
variable {P : Program} {w : World} {K : PySem.W.Frag} {mg : Str → Option Value} {base : Heap}
theorem sc_l_tick : FnScope ["_law_image_here", "_law_world", "_law_threads", "_law_at", "_law_thread", "_law_widths", "_law_code", "_law_one", "_law_stack", "_law_b", "_law_a"] ["_law_image_here", "_law_world"] (defScope S_l_tick) := ⟨rfl, rfl, rfl, by decide +kernel, rfl, by decide +kernel, by decide +kernel⟩
theorem ok_l_tick {f : Addr} {fd : FuncData} (F : Fun K "_law_tick" "_law_tick" S_l_tick f fd) (T : Tx mg) (c__law_pop : Cl P w K mg base 1 "_law_pop" ["_law_words"] spPop) (c__law_word_op : Cl P w K mg base 1 "_law_word_op" ["_law_op", "_law_w", "_law_a", "_law_b"] spWop)
    (c__law_hold : Cl P w K mg base 2 "_law_hold" ["_law_image_here", "_law_world", "_law_thread", "_law_one", "_law_widths"] spHold) : FnOk P w K mg base CX0 3 f fd ["_law_image_here", "_law_world"] spLTick := by
  refine F.ok sc_l_tick (fun vs H Q E h => ?_) (fun cdv A outer s H vs Q E hr h => ?_)
  · obtain ⟨_, _, _, _, _, rfl, _⟩ := h
    rfl
  · obtain ⟨ia, lw, A, I, s, rfl, L, M, O, S, hz, q⟩ := h
    refine ⟨_, pss_cons (ps_set (i := 2) sc_l_tick.nd rfl (Or.inl rfl) (pe_ix (ix_ltK (K := K) rfl) (pv 1) pe_int (fun _ _ => rfl))) (
      pss_cons (ps_set (i := 3) sc_l_tick.nd rfl (Or.inl rfl) (pe_op op_mod (pe_callTy call_int1 (by rfl) T.int (by decide +kernel) (pa_cons (pe_ix (ix_ltK (K := K) rfl) (pv 1) pe_int (fun _ _ => rfl)) pa_nil)) (pe_callB (call_lenK (K := K) rfl) (by rfl) T.len PySem.boot_len (pa_cons (pv 2) pa_nil)))) (
      pss_cons (ps_asg (pe_op op_add (pe_ix (ix_ltK (K := K) rfl) (pv 1) pe_int (fun _ _ => rfl)) pe_int) (pg_sub (pv 1) pe_int set_list)) (
      pss_cons (ps_set (i := 4) sc_l_tick.nd rfl (Or.inl rfl) (pe_ix (ix_ltK (K := K) rfl) (pv 2) (pv 3) (fun _ _ => rfl))) (
      pss_cons (ps_if (pt_cmpR op_isN (pv 4) pe_non (nomark _)) (pss_one (ps_ret (pe_lst pa_nil))) pss_nil) (
      pss_cons (ps_asg (pe_ix (ix_ltK (K := K) rfl) (pe_ix (ix_ltK (K := K) rfl) (pv 0) pe_int (fun _ _ => rfl)) (pv 3) (fun _ _ => rfl)) (pg_tupK (K := K) (n := 2) rfl rfl (pgs_cons (pg_name (i := 5) sc_l_tick.nd rfl (Or.inl rfl)) (pgs_cons (pg_name (i := 6) sc_l_tick.nd rfl (Or.inl rfl)) pgs_nil)))) (
      pss_cons (ps_par (i := 7) (j := 8) rfl sc_l_tick.nd rfl rfl (by decide) rfl rfl (pa_cons (pe_ix (ix_ltK (K := K) rfl) (pv 6) (pe_ix (ix_ltK (K := K) rfl) (pv 4) pe_int (fun _ _ => rfl)) (fun _ _ => rfl)) (pa_cons (pe_ix (ix_ltK (K := K) rfl) (pv 4) pe_int (fun _ _ => rfl)) pa_nil)) (by rfl)) (
      pss_cons (ps_asg (pe_op op_add (pe_ix (ix_ltK (K := K) rfl) (pv 4) pe_int (fun _ _ => rfl)) pe_int) (pg_sub (pv 4) pe_int set_list)) (
      pss_cons (ps_if (pt_cmpR op_eq (pe_ix (ix_ltK (K := K) rfl) (pv 7) pe_int (fun _ _ => rfl)) pe_str (nomark _)) (pss_cons (ps_asg pe_non (pg_sub (pv 2) (pv 3) set_list)) (pss_one (ps_ret (pe_lst (pa_cons (pe_tup (pa_cons pe_str (pa_cons (pv 3) pa_nil))) pa_nil))))) pss_nil) (
      pss_cons (ps_if (pt_cmpR op_eq (pe_ix (ix_ltK (K := K) rfl) (pv 7) pe_int (fun _ _ => rfl)) pe_str (nomark _)) (pss_one (ps_ret (pe_lst (pa_cons (pe_tup (pa_cons pe_str (pa_cons (pe_ix (ix_ltK (K := K) rfl) (pv 7) pe_int (fun _ _ => rfl)) (pa_cons (pe_cl c__law_pop hr (by decide) (by rfl) (pa_cons (pv 8) pa_nil)) pa_nil)))) pa_nil)))) pss_nil) (
      pss_cons (ps_if (PW.pt (pw_or (pt_cmpR op_eq (pe_ix (ix_ltK (K := K) rfl) (pv 7) pe_int (fun _ _ => rfl)) pe_str (nomark _)) (pw_or1 (PW.pt (pw_and (pt_cmpR op_eq (pe_ix (ix_ltK (K := K) rfl) (pv 7) pe_int (fun _ _ => rfl)) pe_str (nomark _)) (pw_and1 (pt_cmpR op_eq (pe_cl c__law_pop hr (by decide) (by rfl) (pa_cons (pv 8) pa_nil)) pe_int (nomark _)))))))) (pss_one (ps_asg (pe_ix (ix_ltK (K := K) rfl) (pv 7) pe_int (fun _ _ => rfl)) (pg_sub (pv 4) pe_int set_list))) (pss_one (ps_if (pt_cmpR op_eq (pe_ix (ix_ltK (K := K) rfl) (pv 7) pe_int (fun _ _ => rfl)) pe_str (nomark _)) (pss_one (ps_expr (pe_bm PySem.F.plainAttrs_list PySem.F.slot_list_append PySem.F.type_list_append  mt_append (pv 8) (pa_cons (pe_ix (ix_ltK (K := K) rfl) (pv 7) pe_int (fun _ _ => rfl)) pa_nil)))) (pss_one (ps_if (pt_cmpR op_eq (pe_ix (ix_ltK (K := K) rfl) (pv 7) pe_int (fun _ _ => rfl)) pe_str (nomark _)) (pss_cons (ps_par (i := 9) (j := 10) rfl sc_l_tick.nd rfl rfl (by decide) rfl rfl (pa_cons (pe_cl c__law_pop hr (by decide) (by rfl) (pa_cons (pv 8) pa_nil)) (pa_cons (pe_cl c__law_pop hr (by decide) (by rfl) (pa_cons (pv 8) pa_nil)) pa_nil)) (by rfl)) (pss_one (ps_expr (pe_bm PySem.F.plainAttrs_list PySem.F.slot_list_append PySem.F.type_list_append  mt_append (pv 8) (pa_cons (pe_cl c__law_word_op hr (by decide) (by rfl) (pa_cons (pe_ix (ix_ltK (K := K) rfl) (pv 7) pe_int (fun _ _ => rfl)) (pa_cons (pe_ix (ix_ltK (K := K) rfl) (pv 7) pe_int (fun _ _ => rfl)) (pa_cons (pe_op op_mod (pe_callTy call_int1 (by rfl) T.int (by decide +kernel) (pa_cons (pv 10) pa_nil)) (pe_op op_shl pe_int (pe_ix (ix_ltK (K := K) rfl) (pv 7) pe_int (fun _ _ => rfl)))) (pa_cons (pe_op op_mod (pe_callTy call_int1 (by rfl) T.int (by decide +kernel) (pa_cons (pv 9) pa_nil)) (pe_op op_shl pe_int (pe_ix (ix_ltK (K := K) rfl) (pv 7) pe_int (fun _ _ => rfl)))) pa_nil))))) pa_nil))))) (pss_one (ps_if (pt_cmpR op_eq (pe_ix (ix_ltK (K := K) rfl) (pv 7) pe_int (fun _ _ => rfl)) pe_str (nomark _)) (pss_one (ps_expr (pe_bm PySem.F.plainAttrs_list PySem.F.slot_list_append PySem.F.type_list_append  mt_append (pv 8) (pa_cons (pe_op op_mod (pe_callTy call_int1 (by rfl) T.int (by decide +kernel) (pa_cons (pe_cl c__law_pop hr (by decide) (by rfl) (pa_cons (pe_ix (ix_ltK (K := K) rfl) (pe_ix (ix_ltK (K := K) rfl) (pv 1) pe_int (fun _ _ => rfl)) (pe_ix (ix_ltK (K := K) rfl) (pv 7) pe_int (fun _ _ => rfl)) (fun _ _ => rfl)) pa_nil)) pa_nil)) (pe_op op_shl pe_int (pe_ix (ix_ltK (K := K) rfl) (pv 7) pe_int (fun _ _ => rfl)))) pa_nil)))) (pss_one (ps_if (pt_cmpR (op_ninK (K := K) rfl) (pe_ix (ix_ltK (K := K) rfl) (pv 7) pe_int (fun _ _ => rfl)) (pe_lst (pa_cons pe_str (pa_cons pe_str pa_nil))) rfl) (pss_one (ps_expr (pe_cl c__law_hold hr (by decide) (by rfl) (pa_cons (pv 0) (pa_cons (pv 1) (pa_cons (pv 4) (pa_cons (pv 7) (pa_cons (pv 5) pa_nil)))))))) pss_nil))))))))) (
      pss_one (ps_ret (pe_lst pa_nil))))))))))))), ?_⟩
    have W := L.wd
    have hlw := L.at_
    have hth := W.th
    have hm : 1 ≤ s.ths.length := by rw [S.tl]; exact O.ne.1
    have nf' : ¬ Fp A (step I s).1 lw := fun h => L.nf (fp_step O S h)
    have nlw : ∀ {a : Addr}, Fp A s a → lw ≠ a := fun h z => L.nf (z ▸ h)
    walk_at "lc"
    rw [thv_len]
    refine rd_mod (by omega) ?_
    have hat : s.tick % s.ths.length < s.ths.length := Nat.mod_lt _ hm
    show gName 3 (V.int ((s.tick % s.ths.length : Nat) : Int)) _ _ _
    generalize hi : s.tick % s.ths.length = i at hat
    walk_at "lc"
    refine rd_set0 hlw (Nat.zero_lt_succ _) ?_
    have k1 : Kp (Wp lw A s) H (upd H lw (.lst (List.set [.int (s.tick : Nat), .ref (A .bx), .ref (A .rw), .ref (A .sm), .ref (A .th)] 0 (.int ((s.tick : Nat) + 1))))) := kp_upd (.inl rfl)
    have hlw1 : upd H lw (.lst (List.set [.int (s.tick : Nat), .ref (A .bx), .ref (A .rw), .ref (A .sm), .ref (A .th)] 0 (.int ((s.tick : Nat) + 1)))) lw = some (.lst [.int (s.next.tick : Nat), .ref (A .bx), .ref (A .rw), .ref (A .sm), .ref (A .th)]) := upd_same
    have W1 : Wd (upd H lw (.lst (List.set [.int (s.tick : Nat), .ref (A .bx), .ref (A .rw), .ref (A .sm), .ref (A .th)] 0 (.int ((s.tick : Nat) + 1))))) A s.next := (W.kept (S := (· = lw)) (kp_upd rfl) fun a ha e => nlw ha (Eq.symm e)).tick (s.tick + 1)
    generalize upd H lw (.lst (List.set [.int (s.tick : Nat), .ref (A .bx), .ref (A .rw), .ref (A .sm), .ref (A .th)] 0 (.int ((s.tick : Nat) + 1)))) = H1 at k1 hlw1 W1
    have ts1 := lwp_ts k1 hlw W
    have M1 := M.ts ts1
    have hth1 := W1.th
    have hv := thv_at (A := A) (s := s) hat
    have hv' : (thv A s.next)[i]? = some (if (tht s i).isSome then V.ref (A (.thr i)) else V.non) := hv
    cases ht : tht s i with
    | none =>
      rw [step_none hi (tht_non hat ht)] at q nf'
      have hv1 : (thv A s.next)[i]? = some V.non := by
        rw [hv', ht]
        rfl
      walk_at "lc"
      refine by_test (fun _ => ?_) (fun h => absurd h (by decide))
      walk_at "lc"
      refine rd_lst ?_
      walk_at "lc"
      refine ⟨Nat.zero_le _, fun d hd => ?_⟩
      exact q _ d ⟨same_new hd _ _ hlw1, W1.same (same_new hd), nf'⟩ ⟨[], upd_same, F2.nil⟩ (k1.then_same (same_new hd))
    | some t =>
      have hs := tht_some ht
      have hiI : i < I.ths.length := by rw [← S.tl]; exact hat
      have hT : I.ths[i]? = some I.ths[i] := List.getElem?_eq_getElem hiI
      generalize I.ths[i] = T' at hT
      have to := S.th i t T' hs hT
      have TO := O.thr i T' hT
      obtain ⟨c, hc⟩ : ∃ c, T'.code[t.row]? = some c := ⟨_, List.getElem?_eq_getElem to.row⟩
      obtain ⟨ha, hn⟩ := TO.arg _ _ hc
      have hsz : t.stk.length ≤ 100000 := Nat.le_trans (S.sz i t hs) (Nat.le_trans hz (by decide))
      have stkz : (t.stk.map V.int).length < sizeLine := by rw [List.length_map]; exact line100 hsz
      have ht1 : tht s.next i = some t := ht
      have hthr1 := W1.thr ht1
      obtain ⟨vs, ab, bs, va, wa, ca, m1, m2, m3, m4, m5, m6, cvs, m7, m8⟩ := M1.thr hT
      obtain ⟨cv, m9, xa, rfl, hone1⟩ := m8.at hc
      have hv1 : (thv A s.next)[i]? = some (V.ref (A (.thr i))) := by
        rw [hv', ht]
        rfl
      clear hv hv'
      have done : ∀ (H' : Hp) (d : Addr) (s' : MSt) (o : Option Deed), exec I T' i t s.next c = (s', o) → H' lw = some (.lst [.int (s.next.tick : Nat), .ref (A .bx), .ref (A .rw), .ref (A .sm), .ref (A .th)]) → Wd H' A s' → DeedsL H' d o → Kp (Wp lw A s) H H' → Q (.ref d) H' := fun H' d s' o e a b c' k => by
        have tk : s'.tick = s.next.tick := by
          have := exec_tick I T' i t s.next c
          rw [e] at this
          exact this
        rw [step_some hi hs hT hc, e] at q nf'
        exact q H' d ⟨by rw [tk]; exact a, b, nf'⟩ c' k
      walk_at "lc"
      refine by_test (fun h => absurd (of_decide_eq_true h) nofun) (fun _ => ?_)
      walk_at "lc"
      refine rd_ix3 (.inr m1) m2 ?_
      walk_at "lc"
      refine rd_set0 hthr1 (Nat.zero_lt_succ _) ?_
      have W2 := W1.set_row (r := t.row + 1) (H' := upd H1 (A (.thr i)) (.lst (List.set [.int (t.row : Nat), .ref (A (.stk i)), .ref (A (.loc i))] 0 (.int ((t.row : Nat) + 1))))) ht1 upd_same (kp_upd rfl)
      have k2 : Kp (Wp lw A s) H (upd H1 (A (.thr i)) (.lst (List.set [.int (t.row : Nat), .ref (A (.stk i)), .ref (A (.loc i))] 0 (.int ((t.row : Nat) + 1))))) := k1.tr (kp_upd (.inr (fp_thr ht)))
      have hlw2 : upd H1 (A (.thr i)) (.lst (List.set [.int (t.row : Nat), .ref (A (.stk i)), .ref (A (.loc i))] 0 (.int ((t.row : Nat) + 1)))) lw = some (.lst [.int (s.next.tick : Nat), .ref (A .bx), .ref (A .rw), .ref (A .sm), .ref (A .th)]) := by
        rw [upd_ne (nlw (fp_thr ht))]
        exact hlw1
      have ht2 := tht_putT (t' := ⟨t.row + 1, t.stk, t.loc⟩) ht1
      have t12 : Ts H1 (upd H1 (A (.thr i)) (.lst (List.set [.int (t.row : Nat), .ref (A (.stk i)), .ref (A (.loc i))] 0 (.int ((t.row : Nat) + 1))))) := Kp.ts1 (kp_upd rfl) hthr1
      generalize upd H1 (A (.thr i)) (.lst (List.set [.int (t.row : Nat), .ref (A (.stk i)), .ref (A (.loc i))] 0 (.int ((t.row : Nat) + 1)))) = H2 at W2 k2 hlw2 t12
      have hone2 := t12 _ _ hone1
      have m62 := t12 _ _ m6
      have M2 := M1.ts t12
      have hthr2 := W2.thr ht2
      have hstk2 := W2.stk ht2
      have fs : ∀ {t' : Th} {a : Addr}, Fp A (putT s.next i t') a → Wp lw A s a := fun h => .inr (fp_same ht h)
      have hat2 : i < (putT s.next i ⟨t.row + 1, t.stk, t.loc⟩).ths.length := tht_lt ht2
      have hth2 := W2.th
      cases c with
      | fin =>
        walk_at "lc"
        refine rd_set hth2 (by rw [thv_len]; exact hat2) ?_
        have W3 := W2.set_fin (i := i) (H' := upd H2 (A .th) _) hat2 upd_same (kp_upd rfl)
        have k3 : Kp (Wp lw A s) H (upd H2 (A .th) (.lst ((thv A (putT s.next i ⟨t.row + 1, t.stk, t.loc⟩)).set i .non))) := k2.tr (kp_upd (.inr fp_th))
        have hlw3 : upd H2 (A .th) (.lst ((thv A (putT s.next i ⟨t.row + 1, t.stk, t.loc⟩)).set i .non)) lw = some (.lst [.int (s.next.tick : Nat), .ref (A .bx), .ref (A .rw), .ref (A .sm), .ref (A .th)]) := by
          rw [upd_ne (nlw fp_th)]
          exact hlw2
        generalize upd H2 (A .th) (.lst ((thv A (putT s.next i ⟨t.row + 1, t.stk, t.loc⟩)).set i .non)) = H3 at W3 k3 hlw3
        have e3 : ({ putT s.next i ⟨t.row + 1, t.stk, t.loc⟩ with ths := (putT s.next i ⟨t.row + 1, t.stk, t.loc⟩).ths.set i none } : MSt) = { s.next with ths := s.next.ths.set i none } := by simp [putT, List.set_set]
        rw [e3] at W3
        walk_at "lc"
        refine rd_lst ?_
        refine rd_cons ?_
        refine rd_tup ?_
        walk_at "lc"
        refine ⟨(by show 2 ≤ sizeLine; decide), fun x hx => ?_⟩
        walk_at "lc"
        refine ⟨(by show 1 ≤ sizeLine; decide), fun d hd => ?_⟩
        have sm := (same_new (o := .tup [.str "end", .int (i : Nat)]) hx).trans (same_new (o := .lst [.ref x]) hd)
        refine done _ d _ _ rfl (sm _ _ hlw3) (W3.same sm) ⟨[.ref x], upd_same, F2.one ⟨x, rfl, ?_⟩⟩ (k3.then_same sm)
        rw [upd_ne (ne_of_none upd_same hd)]
        exact upd_same
      | out l =>
        walk_at "lc"
        refine rd_lst ?_
        refine rd_cons ?_
        refine rd_tup ?_
        walk_at "lc"
        refine ⟨_, _, rfl, hstk2, fun H3 e3 k3 => ?_⟩
        have W3 := W2.set_stk ht2 e3 k3
        rw [putT_putT] at W3
        have hlw3 := k3 lw _ hlw2 (nlw (fp_stk ht))
        walk_at "lc"
        refine ⟨(by show 3 ≤ sizeLine; decide), fun x hx => ?_⟩
        walk_at "lc"
        refine ⟨(by show 1 ≤ sizeLine; decide), fun d hd => ?_⟩
        have sm := (same_new (o := .tup [.str "out", .int (l : Nat), .int (top t.stk)]) hx).trans (same_new (o := .lst [.ref x]) hd)
        refine done _ d _ _ rfl (sm _ _ hlw3) (W3.same sm) ⟨[.ref x], upd_same, F2.one ⟨x, rfl, ?_⟩⟩ ((k2.tr (k3.at1 (.inr (fp_stk ht)))).then_same sm)
        rw [upd_ne (ne_of_none upd_same hd)]
        exact upd_same
      | jump r =>
        walk_at "lc"
        refine rd_set0 hthr2 (Nat.zero_lt_succ _) ?_
        have W9 := W2.set_row (r := r) (H' := upd H2 (A (.thr i)) (.lst [.int (r : Nat), .ref (A (.stk i)), .ref (A (.loc i))])) ht2 upd_same (kp_upd rfl)
        rw [putT_putT] at W9
        have k9 : Kp (Wp lw A s) H (upd H2 (A (.thr i)) (.lst [.int (r : Nat), .ref (A (.stk i)), .ref (A (.loc i))])) := k2.tr (kp_upd (.inr (fp_thr ht)))
        have hlw9 : (upd H2 (A (.thr i)) (.lst [.int (r : Nat), .ref (A (.stk i)), .ref (A (.loc i))])) lw = some (.lst [.int (s.next.tick : Nat), .ref (A .bx), .ref (A .rw), .ref (A .sm), .ref (A .th)]) := by
          rw [upd_ne (nlw (fp_thr ht))]
          exact hlw2
        walk_at "lc"
        walk_at "lc"
        refine rd_lst ?_
        walk_at "lc"
        refine ⟨Nat.zero_le _, fun d hd => ?_⟩
        exact done _ d _ _ rfl (same_new hd _ _ hlw9) (W9.same (same_new hd)) ⟨[], upd_same, F2.nil⟩ (k9.then_same (same_new hd))
      | els r =>
        walk_at "lc"
        refine ⟨_, _, rfl, hstk2, fun H3 e3 k3 => ?_⟩
        have W3 := W2.set_stk ht2 e3 k3
        have ht3 := tht_putT (t' := ⟨t.row + 1, t.stk.dropLast, t.loc⟩) ht2
        have hlw3 := k3 lw _ hlw2 (nlw (fp_stk ht))
        have hone3 := k3.ts1 hstk2 _ _ hone2
        have hthr3 := W3.thr ht3
        have k3' : Kp (Wp lw A s) H H3 := k2.tr (k3.at1 (.inr (fp_stk ht)))
        walk_at "lc"
        refine by_test (fun h0 => ?_) (fun h0 => ?_)
        · have h0 := of_decide_eq_true h0
          have e : exec I T' i t s.next (.els r) = (putT s.next i ⟨r, t.stk.dropLast, t.loc⟩, none) := by
            show (putT s.next i ⟨if top t.stk = 0 then r else t.row + 1, t.stk.dropLast, t.loc⟩, none) = _
            rw [if_pos h0]
          walk_at "lc"
          refine rd_set0 hthr3 (Nat.zero_lt_succ _) ?_
          have W9 := W3.set_row (r := r) (H' := upd H3 (A (.thr i)) (.lst [.int (r : Nat), .ref (A (.stk i)), .ref (A (.loc i))])) ht3 upd_same (kp_upd rfl)
          rw [putT_putT, putT_putT] at W9
          have k9 : Kp (Wp lw A s) H (upd H3 (A (.thr i)) (.lst [.int (r : Nat), .ref (A (.stk i)), .ref (A (.loc i))])) := k3'.tr (kp_upd (.inr (fp_thr ht)))
          have hlw9 : (upd H3 (A (.thr i)) (.lst [.int (r : Nat), .ref (A (.stk i)), .ref (A (.loc i))])) lw = some (.lst [.int (s.next.tick : Nat), .ref (A .bx), .ref (A .rw), .ref (A .sm), .ref (A .th)]) := by
            rw [upd_ne (nlw (fp_thr ht))]
            exact hlw3
          walk_at "lc"
          walk_at "lc"
          refine rd_lst ?_
          walk_at "lc"
          refine ⟨Nat.zero_le _, fun d hd => ?_⟩
          exact done _ d _ _ e (same_new hd _ _ hlw9) (W9.same (same_new hd)) ⟨[], upd_same, F2.nil⟩ (k9.then_same (same_new hd))
        · have h0 := of_decide_eq_false h0
          have e : exec I T' i t s.next (.els r) = (putT s.next i ⟨t.row + 1, t.stk.dropLast, t.loc⟩, none) := by
            show (putT s.next i ⟨if top t.stk = 0 then r else t.row + 1, t.stk.dropLast, t.loc⟩, none) = _
            rw [if_neg h0]
          rw [putT_putT] at W3
          walk_at "lc"
          refine rd_ninlst sRE (b := true) (fun _ q => q) (by decide) (by decide) fun y hy => ?_
          have sy : Same H3 (upd H3 y (.lst (sRE.map V.str))) := same_new hy
          generalize upd H3 y (.lst (sRE.map V.str)) = H4 at sy
          walk_at "lc"
          walk_at "lc"
          refine rd_lst ?_
          walk_at "lc"
          refine ⟨Nat.zero_le _, fun d hd => ?_⟩
          exact done _ d _ _ e (same_new hd _ _ (sy _ _ hlw3)) ((W3.same sy).same (same_new hd)) ⟨[], upd_same, F2.nil⟩ ((k3'.then_same sy).then_same (same_new hd))
      | push w n =>
        walk_at "lc"
        refine rd_append hstk2 (stkz) ?_
        rw [map_app_int]
        have W9 := W2.set_stk ht2 (xs := t.stk ++ [n]) (H' := upd H2 (A (.stk i)) (il (t.stk ++ [n]))) upd_same (kp_upd rfl)
        have k9 : Kp (Wp lw A s) H (upd H2 (A (.stk i)) (il (t.stk ++ [n]))) := k2.tr (kp_upd (.inr (fp_stk ht)))
        have hlw9 : upd H2 (A (.stk i)) (il (t.stk ++ [n])) lw = some (.lst [.int (s.next.tick : Nat), .ref (A .bx), .ref (A .rw), .ref (A .sm), .ref (A .th)]) := by
          rw [upd_ne (nlw (fp_stk ht))]
          exact hlw2
        walk_at "lc"
        walk_at "lc"
        refine rd_lst ?_
        walk_at "lc"
        refine ⟨Nat.zero_le _, fun d hd => ?_⟩
        exact done _ d _ _ (exec_eff I T' i t s.next _ rfl) (same_new hd _ _ hlw9) (W9.same (same_new hd)) ⟨[], upd_same, F2.nil⟩ (k9.then_same (same_new hd))
      | op o w =>
        obtain ⟨a1, a2, a3⟩ := ha
        have hp8 := pow8 a3
        walk_at "lc"
        refine ⟨_, _, rfl, hstk2, fun H3 e3 k3 => ?_⟩
        have W3 := W2.set_stk ht2 e3 k3
        have ht3 := tht_putT (t' := ⟨t.row + 1, t.stk.dropLast, t.loc⟩) ht2
        have hlw3 := k3 lw _ hlw2 (nlw (fp_stk ht))
        have hone3 := k3.ts1 hstk2 _ _ hone2
        have hstk3 := W3.stk ht3
        walk_at "lc"
        refine ⟨_, _, rfl, hstk3, fun H4 e4 k4 => ?_⟩
        have W4 := W3.set_stk ht3 e4 k4
        have ht4 := tht_putT (t' := ⟨t.row + 1, t.stk.dropLast.dropLast, t.loc⟩) ht3
        have hlw4 := k4 lw _ hlw3 (nlw (fp_stk ht))
        have hone4 := k4.ts1 hstk3 _ _ hone3
        have hstk4 := W4.stk ht4
        walk_at "lc"
        refine rd_shl ⟨by omega, by omega, by decide⟩ ?_
        rw [Int.one_mul, Int.toNat_natCast]
        refine rd_mod hp8.1 ?_
        walk_at "lc"
        refine rd_shl ⟨by omega, by omega, by decide⟩ ?_
        rw [Int.one_mul, Int.toNat_natCast]
        refine rd_mod hp8.1 ?_
        walk_at "lc"
        obtain ⟨p1, p2⟩ := emod_pow (x := top t.stk.dropLast) a3
        obtain ⟨q1, q2⟩ := emod_pow (x := top t.stk) a3
        refine ⟨o, w, _, _, rfl, a1, a2, a3, p1, p2, q1, q2, fun H5 k5 => ?_⟩
        have W5 := W4.same k5
        have hlw5 := k5 _ _ hlw4
        have hstk5 := W5.stk ht4
        have k5' : Kp (Wp lw A s) H H5 := ((k2.tr (k3.at1 (.inr (fp_stk ht)))).tr (k4.at1 (.inr (fp_stk ht)))).then_same k5
        walk_at "lc"
        refine rd_append hstk5 (by rw [List.length_map, List.length_dropLast, List.length_dropLast]; exact line100 (by omega)) ?_
        rw [map_app_int]
        have W9 := W5.set_stk ht4 (xs := t.stk.dropLast.dropLast ++ [wop o w (top t.stk.dropLast % 2 ^ w) (top t.stk % 2 ^ w)]) (H' := upd H5 (A (.stk i)) (il (t.stk.dropLast.dropLast ++ [wop o w (top t.stk.dropLast % 2 ^ w) (top t.stk % 2 ^ w)]))) upd_same (kp_upd rfl)
        rw [putT_putT, putT_putT] at W9
        have k9 : Kp (Wp lw A s) H (upd H5 (A (.stk i)) (il (t.stk.dropLast.dropLast ++ [wop o w (top t.stk.dropLast % 2 ^ w) (top t.stk % 2 ^ w)]))) := k5'.tr (kp_upd (.inr (fp_stk ht)))
        have hlw9 : upd H5 (A (.stk i)) (il (t.stk.dropLast.dropLast ++ [wop o w (top t.stk.dropLast % 2 ^ w) (top t.stk % 2 ^ w)])) lw = some (.lst [.int (s.next.tick : Nat), .ref (A .bx), .ref (A .rw), .ref (A .sm), .ref (A .th)]) := by
          rw [upd_ne (nlw (fp_stk ht))]
          exact hlw5
        walk_at "lc"
        walk_at "lc"
        refine rd_lst ?_
        walk_at "lc"
        refine ⟨Nat.zero_le _, fun d hd => ?_⟩
        exact done _ d _ _ (exec_eff I T' i t s.next _ rfl) (same_new hd _ _ hlw9) (W9.same (same_new hd)) ⟨[], upd_same, F2.nil⟩ (k9.then_same (same_new hd))
      | take l w =>
        obtain ⟨a1, a2⟩ := ha
        have hp8 := pow8 a2
        have hl : l < s.ins.length := by rw [S.il]; exact a1
        have hsl := smv_at (A := A) hl
        have ecs : s.ins[l]? = some s.ins[l] := List.getElem?_eq_getElem hl
        have eD : s.ins.getD l [] = s.ins[l] := getD_at ecs
        generalize hcs : s.ins[l] = cs at ecs eD
        have hstr := W2.str (k := l) ecs
        have hsm2 : H2 (A .sm) = some (.lst (smv A s.ins.length)) := W2.sm
        walk_at "lc"
        refine ⟨_, _, rfl, hstr, fun H3 e3 k3 => ?_⟩
        have W3 := W2.set_str (i := l) ecs e3 k3
        have ht3 : tht { putT s.next i ⟨t.row + 1, t.stk, t.loc⟩ with ins := (putT s.next i ⟨t.row + 1, t.stk, t.loc⟩).ins.set l cs.dropLast } i = some ⟨t.row + 1, t.stk, t.loc⟩ := ht2
        have hlw3 := k3 lw _ hlw2 (nlw (fp_str ecs))
        have hone3 := k3.ts1 hstr _ _ hone2
        have hstk3 := W3.stk ht3
        have k3' : Kp (Wp lw A s) H H3 := k2.tr (k3.at1 (.inr (fp_str ecs)))
        walk_at "lc"
        refine rd_shl ⟨by omega, by omega, by decide⟩ ?_
        rw [Int.one_mul, Int.toNat_natCast]
        refine rd_mod hp8.1 ?_
        walk_at "lc"
        have e : exec I T' i t s.next (.take l w) = (putT { putT s.next i ⟨t.row + 1, t.stk, t.loc⟩ with ins := (putT s.next i ⟨t.row + 1, t.stk, t.loc⟩).ins.set l cs.dropLast } i ⟨t.row + 1, t.stk ++ [top cs % 2 ^ w], t.loc⟩, none) := by
          rw [exec_eff I T' i t s.next _ rfl]
          show (putT { putT s.next i ⟨t.row + 1, t.stk, t.loc⟩ with ins := s.ins.set l (s.ins.getD l []).dropLast } i ⟨t.row + 1, t.stk ++ [top (s.ins.getD l []) % 2 ^ w], t.loc⟩, none) = _
          rw [eD]
          rfl
        refine rd_append hstk3 (stkz) ?_
        rw [map_app_int]
        have W9 := W3.set_stk ht3 (xs := t.stk ++ [top cs % 2 ^ w]) (H' := upd H3 (A (.stk i)) (il (t.stk ++ [top cs % 2 ^ w]))) upd_same (kp_upd rfl)
        have k9 : Kp (Wp lw A s) H (upd H3 (A (.stk i)) (il (t.stk ++ [top cs % 2 ^ w]))) := k3'.tr (kp_upd (.inr (fp_stk ht)))
        have hlw9 : upd H3 (A (.stk i)) (il (t.stk ++ [top cs % 2 ^ w])) lw = some (.lst [.int (s.next.tick : Nat), .ref (A .bx), .ref (A .rw), .ref (A .sm), .ref (A .th)]) := by
          rw [upd_ne (nlw (fp_stk ht))]
          exact hlw3
        walk_at "lc"
        walk_at "lc"
        refine rd_lst ?_
        walk_at "lc"
        refine ⟨Nat.zero_le _, fun d hd => ?_⟩
        exact done _ d _ _ e (same_new hd _ _ hlw9) (W9.same (same_new hd)) ⟨[], upd_same, F2.nil⟩ (k9.then_same (same_new hd))
      | rest =>
        walk_at "lc"
        refine rd_ninlst sRE (b := true) (fun _ q => q) (by decide) (by decide) fun y hy => ?_
        have sy : Same H2 (upd H2 y (.lst (sRE.map V.str))) := same_new hy
        generalize upd H2 y (.lst (sRE.map V.str)) = H3 at sy
        walk_at "lc"
        walk_at "lc"
        refine rd_lst ?_
        walk_at "lc"
        refine ⟨Nat.zero_le _, fun d hd => ?_⟩
        exact done _ d _ _ rfl (same_new hd _ _ (sy _ _ hlw2)) ((W2.same sy).same (same_new hd)) ⟨[], upd_same, F2.nil⟩ ((k2.then_same sy).then_same (same_new hd))
      | loc k =>
        walk_at "lc"
        refine rd_ninlst sRE (b := false) (fun _ q => q) (by decide) (by decide) fun y hy => ?_
        have sy : Same H2 (upd H2 y (.lst (sRE.map V.str))) := same_new hy
        generalize upd H2 y (.lst (sRE.map V.str)) = H3 at sy
        walk_at "lc"
        refine ⟨ia, lw, A, I, putT s.next i ⟨t.row + 1, t.stk, t.loc⟩, T', i, ⟨t.row + 1, t.stk, t.loc⟩, .loc k, xa, wa, k, rfl, ⟨sy _ _ hlw2, W2.same sy, fun h => L.nf (fp_same ht h)⟩, M2.ts (Ts.same sy), O, S.put3 hT (t.row + 1) t.stk t.loc hn to.stk to.ll to.loc (Nat.le_succ_of_le (S.sz i t hs)), ht2, sy _ _ hone2, sy _ _ m62, .inl ⟨.inl rfl, ha, TO.ws k (T'.ws.getD k 0) (by rw [List.getD_eq_getElem?_getD, List.getElem?_eq_getElem (show k < T'.ws.length from ha)]; rfl)⟩, to.ll, hsz, fun H4 W4 k4 => ?_⟩
        have hlw4 := k4 lw _ (sy _ _ hlw2) (fun h => L.nf (fp_same ht h))
        have k4' : Kp (Wp lw A s) H H4 := (k2.then_same sy).tr (k4.mono fun x hx => .inr (fp_same ht hx))
        walk_at "lc"
        walk_at "lc"
        refine rd_lst ?_
        walk_at "lc"
        refine ⟨Nat.zero_le _, fun d hd => ?_⟩
        exact done _ d _ _ (exec_eff I T' i t s.next _ rfl) (same_new hd _ _ hlw4) (W4.same (same_new hd)) ⟨[], upd_same, F2.nil⟩ (k4'.then_same (same_new hd))
      | keep k =>
        walk_at "lc"
        refine rd_ninlst sRE (b := false) (fun _ q => q) (by decide) (by decide) fun y hy => ?_
        have sy : Same H2 (upd H2 y (.lst (sRE.map V.str))) := same_new hy
        generalize upd H2 y (.lst (sRE.map V.str)) = H3 at sy
        walk_at "lc"
        refine ⟨ia, lw, A, I, putT s.next i ⟨t.row + 1, t.stk, t.loc⟩, T', i, ⟨t.row + 1, t.stk, t.loc⟩, .keep k, xa, wa, k, rfl, ⟨sy _ _ hlw2, W2.same sy, fun h => L.nf (fp_same ht h)⟩, M2.ts (Ts.same sy), O, S.put3 hT (t.row + 1) t.stk t.loc hn to.stk to.ll to.loc (Nat.le_succ_of_le (S.sz i t hs)), ht2, sy _ _ hone2, sy _ _ m62, .inl ⟨.inr rfl, ha, TO.ws k (T'.ws.getD k 0) (by rw [List.getD_eq_getElem?_getD, List.getElem?_eq_getElem (show k < T'.ws.length from ha)]; rfl)⟩, to.ll, hsz, fun H4 W4 k4 => ?_⟩
        have hlw4 := k4 lw _ (sy _ _ hlw2) (fun h => L.nf (fp_same ht h))
        have k4' : Kp (Wp lw A s) H H4 := (k2.then_same sy).tr (k4.mono fun x hx => .inr (fp_same ht hx))
        walk_at "lc"
        walk_at "lc"
        refine rd_lst ?_
        walk_at "lc"
        refine ⟨Nat.zero_le _, fun d hd => ?_⟩
        exact done _ d _ _ (exec_eff I T' i t s.next _ rfl) (same_new hd _ _ hlw4) (W4.same (same_new hd)) ⟨[], upd_same, F2.nil⟩ (k4'.then_same (same_new hd))
      | box k =>
        walk_at "lc"
        refine rd_ninlst sRE (b := false) (fun _ q => q) (by decide) (by decide) fun y hy => ?_
        have sy : Same H2 (upd H2 y (.lst (sRE.map V.str))) := same_new hy
        generalize upd H2 y (.lst (sRE.map V.str)) = H3 at sy
        walk_at "lc"
        refine ⟨ia, lw, A, I, putT s.next i ⟨t.row + 1, t.stk, t.loc⟩, T', i, ⟨t.row + 1, t.stk, t.loc⟩, .box k, xa, wa, k, rfl, ⟨sy _ _ hlw2, W2.same sy, fun h => L.nf (fp_same ht h)⟩, M2.ts (Ts.same sy), O, S.put3 hT (t.row + 1) t.stk t.loc hn to.stk to.ll to.loc (Nat.le_succ_of_le (S.sz i t hs)), ht2, sy _ _ hone2, sy _ _ m62, .inr (.inl ⟨.inl rfl, ha⟩), to.ll, hsz, fun H4 W4 k4 => ?_⟩
        have hlw4 := k4 lw _ (sy _ _ hlw2) (fun h => L.nf (fp_same ht h))
        have k4' : Kp (Wp lw A s) H H4 := (k2.then_same sy).tr (k4.mono fun x hx => .inr (fp_same ht hx))
        walk_at "lc"
        walk_at "lc"
        refine rd_lst ?_
        walk_at "lc"
        refine ⟨Nat.zero_le _, fun d hd => ?_⟩
        exact done _ d _ _ (exec_eff I T' i t s.next _ rfl) (same_new hd _ _ hlw4) (W4.same (same_new hd)) ⟨[], upd_same, F2.nil⟩ (k4'.then_same (same_new hd))
      | fill k =>
        walk_at "lc"
        refine rd_ninlst sRE (b := false) (fun _ q => q) (by decide) (by decide) fun y hy => ?_
        have sy : Same H2 (upd H2 y (.lst (sRE.map V.str))) := same_new hy
        generalize upd H2 y (.lst (sRE.map V.str)) = H3 at sy
        walk_at "lc"
        refine ⟨ia, lw, A, I, putT s.next i ⟨t.row + 1, t.stk, t.loc⟩, T', i, ⟨t.row + 1, t.stk, t.loc⟩, .fill k, xa, wa, k, rfl, ⟨sy _ _ hlw2, W2.same sy, fun h => L.nf (fp_same ht h)⟩, M2.ts (Ts.same sy), O, S.put3 hT (t.row + 1) t.stk t.loc hn to.stk to.ll to.loc (Nat.le_succ_of_le (S.sz i t hs)), ht2, sy _ _ hone2, sy _ _ m62, .inr (.inl ⟨.inr rfl, ha⟩), to.ll, hsz, fun H4 W4 k4 => ?_⟩
        have hlw4 := k4 lw _ (sy _ _ hlw2) (fun h => L.nf (fp_same ht h))
        have k4' : Kp (Wp lw A s) H H4 := (k2.then_same sy).tr (k4.mono fun x hx => .inr (fp_same ht hx))
        walk_at "lc"
        walk_at "lc"
        refine rd_lst ?_
        walk_at "lc"
        refine ⟨Nat.zero_le _, fun d hd => ?_⟩
        exact done _ d _ _ (exec_eff I T' i t s.next _ rfl) (same_new hd _ _ hlw4) (W4.same (same_new hd)) ⟨[], upd_same, F2.nil⟩ (k4'.then_same (same_new hd))
      | cell k =>
        walk_at "lc"
        refine rd_ninlst sRE (b := false) (fun _ q => q) (by decide) (by decide) fun y hy => ?_
        have sy : Same H2 (upd H2 y (.lst (sRE.map V.str))) := same_new hy
        generalize upd H2 y (.lst (sRE.map V.str)) = H3 at sy
        walk_at "lc"
        refine ⟨ia, lw, A, I, putT s.next i ⟨t.row + 1, t.stk, t.loc⟩, T', i, ⟨t.row + 1, t.stk, t.loc⟩, .cell k, xa, wa, k, rfl, ⟨sy _ _ hlw2, W2.same sy, fun h => L.nf (fp_same ht h)⟩, M2.ts (Ts.same sy), O, S.put3 hT (t.row + 1) t.stk t.loc hn to.stk to.ll to.loc (Nat.le_succ_of_le (S.sz i t hs)), ht2, sy _ _ hone2, sy _ _ m62, .inr (.inr ⟨.inl rfl, ha⟩), to.ll, hsz, fun H4 W4 k4 => ?_⟩
        have hlw4 := k4 lw _ (sy _ _ hlw2) (fun h => L.nf (fp_same ht h))
        have k4' : Kp (Wp lw A s) H H4 := (k2.then_same sy).tr (k4.mono fun x hx => .inr (fp_same ht hx))
        walk_at "lc"
        walk_at "lc"
        refine rd_lst ?_
        walk_at "lc"
        refine ⟨Nat.zero_le _, fun d hd => ?_⟩
        exact done _ d _ _ (exec_eff I T' i t s.next _ rfl) (same_new hd _ _ hlw4) (W4.same (same_new hd)) ⟨[], upd_same, F2.nil⟩ (k4'.then_same (same_new hd))
      | cells k =>
        walk_at "lc"
        refine rd_ninlst sRE (b := false) (fun _ q => q) (by decide) (by decide) fun y hy => ?_
        have sy : Same H2 (upd H2 y (.lst (sRE.map V.str))) := same_new hy
        generalize upd H2 y (.lst (sRE.map V.str)) = H3 at sy
        walk_at "lc"
        refine ⟨ia, lw, A, I, putT s.next i ⟨t.row + 1, t.stk, t.loc⟩, T', i, ⟨t.row + 1, t.stk, t.loc⟩, .cells k, xa, wa, k, rfl, ⟨sy _ _ hlw2, W2.same sy, fun h => L.nf (fp_same ht h)⟩, M2.ts (Ts.same sy), O, S.put3 hT (t.row + 1) t.stk t.loc hn to.stk to.ll to.loc (Nat.le_succ_of_le (S.sz i t hs)), ht2, sy _ _ hone2, sy _ _ m62, .inr (.inr ⟨.inr rfl, ha⟩), to.ll, hsz, fun H4 W4 k4 => ?_⟩
        have hlw4 := k4 lw _ (sy _ _ hlw2) (fun h => L.nf (fp_same ht h))
        have k4' : Kp (Wp lw A s) H H4 := (k2.then_same sy).tr (k4.mono fun x hx => .inr (fp_same ht hx))
        walk_at "lc"
        walk_at "lc"
        refine rd_lst ?_
        walk_at "lc"
        refine ⟨Nat.zero_le _, fun d hd => ?_⟩
        exact done _ d _ _ (exec_eff I T' i t s.next _ rfl) (same_new hd _ _ hlw4) (W4.same (same_new hd)) ⟨[], upd_same, F2.nil⟩ (k4'.then_same (same_new hd))
end
end Lk
/-! The law's own machine: a run; code that reads nothing. -/
namespace Lk
open PySem PySem.Spec PyProof.Rows L2
/-- a run of the law's world behind H0, after n ticks; its record is at f -/
structure Lr (H0 H : Hp) (lw f : Addr) (A : Lay) (I : Img) (inp : List (List Int)) (n : Nat) : Prop where
  at_ : LAt H lw A (stt I (begun I inp) n)
  rcd : RecL H f (recs I (begun I inp) n)
  np : H0 lw = none
  nf : H0 f = none
  nF : ∀ a, Fp A (begun I inp) a → H0 a = none
  fp : f ≠ lw
  ff : ¬ Fp A (stt I (begun I inp) n) f
  sm : Same H0 H
section
variable {H0 H H1 H2 : Hp} {lw f : Addr} {A : Lay} {I : Img} {inp : List (List Int)} {n : Nat}
theorem Lr.begin (L : LAt H lw A (begun I inp)) (s0 : Same H0 H) (np : H0 lw = none) (nF : ∀ a, Fp A (begun I inp) a → H0 a = none) (hf : H f = none) : Lr H0 (upd H f (.lst [])) lw f A I inp 0 := by
  refine ⟨⟨same_new hf _ _ L.at_, L.wd.same (same_new hf), L.nf⟩, ⟨[], upd_same, F2.nil⟩, np, s0.free hf, nF, fun z => ?_, fun h => ?_, s0.trans (same_new hf)⟩
  · rw [z, L.at_] at hf
    cases hf
  · obtain ⟨xs, e⟩ := fp_lst L.wd h
    rw [hf] at e
    cases e
theorem Lr.nw (R : Lr H0 H lw f A I inp n) : ¬ Wp lw A (stt I (begun I inp) n) f := fun h => h.elim R.fp R.ff
theorem Lr.hw (R : Lr H0 H lw f A I inp n) : H lw = some (.lst [.int (n : Nat), .ref (A .bx), .ref (A .rw), .ref (A .sm), .ref (A .th)]) := by
  have h := R.at_.at_
  rw [stt_tick] at h
  have e : (begun I inp).tick + n = n := Nat.zero_add n
  rw [e] at h
  exact h
theorem Lr.same (R : Lr H0 H lw f A I inp n) (s : Same H H1) : Lr H0 H1 lw f A I inp n :=
  ⟨⟨s _ _ R.at_.at_, R.at_.wd.same s, R.at_.nf⟩, let ⟨vs, e, h⟩ := R.rcd; ⟨vs, s _ _ e, h.imp fun _ _ => RecAt.ts (Ts.same s)⟩, R.np, R.nf, R.nF, R.fp, R.ff, R.sm.trans s⟩
theorem Lr.mid (R : Lr H0 H lw f A I inp n) (O : ImgOk I) (N : InpOk I inp) (k : Kp (Wp lw A (stt I (begun I inp) n)) H H1) : Same H0 H1 ∧ Ts H H1 ∧ RecL H1 f (recs I (begun I inp) n) := by
  have t := lwp_ts k R.at_.at_ R.at_.wd
  obtain ⟨vs, e, h⟩ := R.rcd
  refine ⟨fun b o hb => k b o (R.sm b o hb) fun z => ?_, t, vs, k _ _ e R.nw, h.imp fun _ _ => RecAt.ts t⟩
  rcases z with z | z
  · rw [z, R.np] at hb
    cases hb
  · rw [R.nF b (fp_stt O (begun_ok O N) n z)] at hb
    cases hb
theorem Lr.next {e : Addr} (R : Lr H0 H lw f A I inp n) (O : ImgOk I) (N : InpOk I inp) (k : Kp (Wp lw A (stt I (begun I inp) n)) H H1) (w1 : LAt H1 lw A (step I (stt I (begun I inp) n)).1) (s2 : Same H1 H2) {xs ys : List V}
    (hr : F2 (RecAt H2) xs (recs I (begun I inp) n)) (hy : F2 (RecAt H2) ys ((step I (stt I (begun I inp) n)).2.toList.map fun d => (n, d))) (he : H2 e = none) : Lr H0 (upd H2 e (.lst (xs ++ ys))) lw e A I inp (n + 1) := by
  obtain ⟨s01, t, _⟩ := R.mid O N k
  have se : Same H2 (upd H2 e (.lst (xs ++ ys))) := same_new he
  have tk : (stt I (begun I inp) n).tick = n := by
    rw [stt_tick]
    exact Nat.zero_add n
  refine ⟨⟨se _ _ (s2 _ _ w1.at_), (w1.wd.same s2).same se, w1.nf⟩, ⟨xs ++ ys, upd_same, ?_⟩, R.np, (s01.trans s2).free he, R.nF, fun z => ?_, fun h => ?_, (s01.trans s2).trans se⟩
  · have e : recs I (begun I inp) (n + 1) = recs I (begun I inp) n ++ (step I (stt I (begun I inp) n)).2.toList.map fun d => (n, d) := by
      show recs I (begun I inp) n ++ (step I (stt I (begun I inp) n)).2.toList.map (fun d => ((stt I (begun I inp) n).tick, d)) = _
      rw [tk]
    rw [e]
    exact (hr.app hy).imp fun _ _ => RecAt.ts (Ts.same se)
  · rw [z, s2 _ _ w1.at_] at he
    cases he
  · obtain ⟨zs, z⟩ := fp_lst (w1.wd.same s2) h
    rw [he] at z
    cases z
end
def spLRun : Sp := fun vs H Q _ => ∃ (ia na : Addr) (I : Img) (inp : List (List Int)) (n : Nat), vs = [.ref ia, .ref na, .int (n : Nat)] ∧ ImgAt H ia I ∧ InpAt H na inp ∧ ImgOk I ∧ InpOk I inp ∧ I.boxes.length ≤ 100000 ∧ I.rows.length ≤ 100000 ∧ n ≤ 1000 ∧
  ∀ H' b, Same H H' → RecT H' b (recs I (begun I inp) n) → Q (.ref b) H'
def spAlone : Sp := fun vs H Q _ => ∃ (ca : Addr) (cs : List Ins), vs = [.ref ca] ∧ CodeAt H ca cs ∧ cs.length ≤ 100000 ∧ ∀ H', Same H H' → Q (.bl (cs.all fun c => !c.reads)) H'
abbrev sBCT : List Str := ["box", "cell", "take"]
theorem reads_in (c : Ins) : ∃ tg, c.vs[0]? = some (.str tg) ∧ inV (.str tg) (sBCT.map V.str) = c.reads := by
  cases c <;> first
    | exact ⟨_, rfl, show _ = true by decide⟩
    | exact ⟨_, rfl, show _ = false by decide⟩
theorem all_reads : ∀ cs : List Ins, (cs.filterMap fun c => if c.reads = true then some c else none).isEmpty = cs.all fun c => !c.reads
  | [] => rfl
  | c :: r => by
    rw [List.filterMap_cons, List.all_cons, ← all_reads r]
    cases c.reads <;> rfl
theorem isEmpty_len {α β : Type} {xs : List α} {ys : List β} (h : xs.length = ys.length) : xs.isEmpty = ys.isEmpty := by
  cases xs <;> cases ys <;> first | rfl | simp at h
section
variable {P : Program} {w : World} {K : PySem.W.Frag} {mg : Str → Option Value} {base : Heap}
theorem sc_l_alone : FnScope ["_law_code", "_law_one"] ["_law_code"] (defScope S_l_alone) := ⟨rfl, rfl, rfl, by decide +kernel, rfl, by decide +kernel, by decide +kernel⟩
theorem ok_l_alone {f : Addr} {fd : FuncData} (F : Fun K "_law_alone" "_law_alone" S_l_alone f fd) (T : Tx mg) : FnOk P w K mg base CX0 1 f fd ["_law_code"] spAlone := by
  refine F.ok sc_l_alone (fun vs H Q E h => ?_) (fun cdv A outer s H vs Q E hr h => ?_)
  · obtain ⟨_, _, rfl, _⟩ := h
    rfl
  · obtain ⟨ca, cs, rfl, ⟨cv, h1, h2⟩, hz, q⟩ := h
    refine ⟨_, pss_one (ps_ret (pe_cmpR (op_eqE hr.units0) (pe_lc (own := [("_law_one", 1)]) rfl sc_l_alone.nd (pi_tupK (K := K) rfl (pv 0)) (blkOk_by (N := ["_law_code", "_law_one"]) (sc := defScope S_l_alone) (by decide +kernel)) (fun _ _ _ _ _ => (pg_name (i := 1) sc_l_alone.nd rfl (Or.inl rfl))) (fun _ _ _ _ _ => (pts_one (pt_cmpR (op_inK (K := K) rfl) (pe_ix (ix_ltK (K := K) rfl) (pv 1) pe_int (fun _ _ => rfl)) (pe_lst (pa_cons pe_str (pa_cons pe_str (pa_cons pe_str pa_nil)))) rfl))) (fun _ _ _ _ _ => (pv 1))) (pe_lst pa_nil) (nomark _))), ?_⟩
    walk_at "lc"
    refine lc_filt (wkT h1) cs (fun c => if c.reads = true then some c else none) (fun H v c => InsAt H v c) (fun _ _ _ _ t h => h.ts t) h2.1 (by rw [h2.1]; exact hz) (fun i x c H' N M hx hc sm kN kM => ?_) (fun D acc H2 hD sm e f => ?_)
    · obtain ⟨xa, rfl, hxa⟩ := h2.2 i x c hx hc
      have hxa' := sm _ _ hxa
      obtain ⟨tg, g1, g2⟩ := reads_in c
      walk_at "lc"
      refine ⟨wipe1 (by decide), ?_⟩
      walk_at "lc"
      refine rd_ix0 (.inr hxa') g1 ?_
      refine rd_inlst sBCT (b := c.reads) (fun _ q => q) (by decide) g2 fun y hy => ?_
      have sy : Same H' (upd H' y (.lst (sBCT.map V.str))) := same_new hy
      cases hc' : c.reads with
      | true =>
        walk_at "lc"
        exact kN c _ _ (if_pos hc') sy ⟨xa, rfl, sy _ _ hxa'⟩
      | false =>
        walk_at "lc"
        exact kM _ (if_neg (by rw [hc']; exact Bool.false_ne_true)) sy
    · refine rd_eqL e fun c hc => ?_
      rw [isEmpty_len f.1, all_reads]
      exact q _ (sm.trans (same_new hc))
theorem sc_l_run : FnScope ["_law_image_here", "_law_inputs_here", "_law_ticks", "_law_world", "_law_found", "_law_tick_here", "_law_deed"] ["_law_image_here", "_law_inputs_here", "_law_ticks"] (defScope S_l_run) := ⟨rfl, rfl, rfl, by decide +kernel, rfl, by decide +kernel, by decide +kernel⟩
theorem ok_l_run {f : Addr} {fd : FuncData} (F : Fun K "_law_run" "_law_run" S_l_run f fd) (T : Tx mg) (c__law_begin : Cl P w K mg base 1 "_law_begin" ["_law_image_here", "_law_inputs_here"] spBegin) (c__law_tick : Cl P w K mg base 3 "_law_tick" ["_law_image_here", "_law_world"] spLTick) :
    FnOk P w K mg base CX0 4 f fd ["_law_image_here", "_law_inputs_here", "_law_ticks"] spLRun := by
  refine F.ok sc_l_run (fun vs H Q E h => ?_) (fun cdv A outer s H vs Q E hr h => ?_)
  · obtain ⟨_, _, _, _, _, rfl, _⟩ := h
    rfl
  · obtain ⟨ia, na, I, inp, n, rfl, M, V0, O, N, zb, zr, hn, q⟩ := h
    refine ⟨_, pss_cons (ps_par (i := 3) (j := 4) rfl sc_l_run.nd rfl rfl (by decide) rfl rfl (pa_cons (pe_cl c__law_begin hr (by decide) (by rfl) (pa_cons (pv 0) (pa_cons (pv 1) pa_nil))) (pa_cons (pe_lst pa_nil) pa_nil)) (by rfl)) (
      pss_cons (ps_for PassesOwn.never rfl (pi_range1 (by rfl) T.range (pa_cons (pv 2) pa_nil)) (pg_name (i := 5) sc_l_run.nd rfl (Or.inr rfl)) (pss_one (ps_set (i := 4) sc_l_run.nd rfl (Or.inl rfl) (pe_op op_cat (pv 4) (pe_lc (own := [("_law_deed", 6)]) rfl sc_l_run.nd (pi_listK (K := K) rfl (pe_cl c__law_tick hr (by decide) (by rfl) (pa_cons (pv 0) (pa_cons (pv 3) pa_nil)))) (blkOk_by (N := ["_law_image_here", "_law_inputs_here", "_law_ticks", "_law_world", "_law_found", "_law_tick_here", "_law_deed"]) (sc := defScope S_l_run) (by decide +kernel)) (fun _ _ _ _ _ => (pg_name (i := 6) sc_l_run.nd rfl (Or.inl rfl))) (fun _ _ _ _ _ => pts_nil) (fun _ _ _ _ _ => (pe_tup (pa_cons (pv 5) (pa_cons (pv 6) pa_nil))))))))) (
      pss_one (ps_ret (pe_callTy (call_tupleK (K := K) rfl) (by rfl) T.tuple (by decide +kernel) (pa_cons (pv 4) pa_nil))))), ?_⟩
    have zi : inp.length ≤ 100000 := by rw [N.len]; exact Nat.le_trans O.lv.2 (by decide)
    walk_at "lc"
    refine ⟨ia, na, I, inp, rfl, M, V0, O, zb, zr, zi, fun H1 lw A L1 s1 np nF => ?_⟩
    walk_at "lc"
    refine rd_lst ?_
    walk_at "lc"
    refine ⟨Nat.zero_le _, fun f hf => ?_⟩
    walk_at "lc"
    have R0 := Lr.begin L1 s1 np nF hf
    generalize upd H1 f (.lst []) = H2 at R0
    refine rd_for1 ?_
    walk_at "lc"
    refine rd_rng (n := n) (by omega) (fun i σ H' => ∃ f, (∃ t5 t6, σ = [some (.ref ia), some (.ref na), some (.int (n : Nat)), some (.ref lw), some (.ref f), t5, t6]) ∧ Lr H H' lw f A I inp i) ⟨f, ⟨none, none, rfl⟩, R0⟩ (fun i σ H3 hi h => ?_) (fun σ H3 h => ?_)
    · obtain ⟨f, ⟨t5, t6, rfl⟩, R⟩ := h
      have hS := (begun_ok O N).stt O i
      have tk : (stt I (begun I inp) i).tick ≤ 1000 := by
        rw [stt_tick]
        show 0 + i ≤ 1000
        omega
      walk_at "lc"
      refine ⟨ia, lw, A, I, stt I (begun I inp) i, rfl, R.at_, M.ts (Ts.same R.sm), O, hS, tk, fun H4 d L4 D4 k4 => ?_⟩
      obtain ⟨s4, t4, xs, hf4, hr4⟩ := R.mid O N k4
      obtain ⟨dv, hd4, hdv⟩ := D4
      walk_at "lc"
      refine lc_all (wkL hd4) (step I (stt I (begun I inp) i)).2.toList (fun H v d => RecAt H v (i, d)) (fun _ _ _ _ t h => h.ts t) hdv.1 (by rw [hdv.1]; cases (step I (stt I (begun I inp) i)).2 <;> simp) (fun j x y H' N' hx hy sm kN => ?_) (fun D acc H5 hD sm e fa => ?_)
      · obtain ⟨xa, rfl, hxa⟩ := hdv.2 j x y hx hy
        walk_at "lc"
        refine ⟨wipe1 (by decide), ?_⟩
        refine rd_tup ?_
        walk_at "lc"
        refine ⟨(by show 2 ≤ sizeLine; decide), fun c hc => ?_⟩
        exact kN _ _ (same_new hc) ⟨c, xa, rfl, upd_same, same_new hc _ _ (sm _ _ hxa)⟩
      · have hf5 := sm _ _ hf4
        have l1 := recs_len I (begun I inp) i
        have l2 : acc.length ≤ 1 := by rw [fa.1]; cases (step I (stt I (begun I inp) i)).2 <;> simp
        refine rd_cat hf5 e (Nat.le_trans (show xs.length + acc.length ≤ 2000 by rw [hr4.1]; omega) (by decide)) fun g hg => ?_
        walk_at "lc"
        refine ⟨g, ⟨_, _, rfl⟩, R.next O N k4 L4 sm (hr4.imp fun _ _ => RecAt.ts (Ts.same sm)) fa.map_r hg⟩
    · obtain ⟨f, ⟨t5, t6, rfl⟩, R⟩ := h
      obtain ⟨xs, hf3, hr3⟩ := R.rcd
      walk_at "lc"
      refine rd_tupleL hf3 fun b hb => ?_
      exact q _ b (R.sm.trans (same_new hb)) ⟨xs, upd_same, hr3.imp fun _ _ => RecAt.ts (ts_new hb)⟩
end
end Lk
/-! Records as data, and how they show. -/
namespace Lk
open PySem PySem.Spec PyProof.Rows L2
def Deed.dat : Deed → PyData
  | .out l n => .tuple [.str "out", .int (l : Nat), .int n]
  | .fin t => .tuple [.str "end", .int (t : Nat)]
def pdat (x : Nat × Deed) : PyData := .tuple [.int (x.1 : Nat), x.2.dat]
def rds (r : Rec) : List PyData := r.map pdat
/-- a deed's numbers are small -/
def Deed.Ok : Deed → Prop
  | .out l n => l < 4 ∧ 0 ≤ n ∧ n < 256
  | .fin t => t < 100
def RecOk (r : Rec) : Prop := ∀ x, x ∈ r → x.1 < 1000 ∧ x.2.Ok
section
variable {K : PySem.W.Frag} {H : Hp}
theorem dpAll_of {α : Type} {g : α → PyData} : ∀ {vs : List V} {xs : List α}, F2 (fun v x => Dp K H v (g x)) vs xs → DpAll K H vs (xs.map g)
  | [], [], _ => .nil
  | [], x :: xs, h => by
    have := h.1
    simp at this
  | v :: vs, [], h => by
    have := h.1
    simp at this
  | v :: vs, x :: xs, h => .cons (h.2 0 v x rfl rfl) (dpAll_of ⟨by have := h.1; simpa using this, fun i v' x' h1 h2 => h.2 (i + 1) v' x' h1 h2⟩)
theorem dp_deed {v : Addr} {d : Deed} (h : H v = some (.tup d.vs)) : Dp K H (.ref v) d.dat := by
  cases d with
  | out l n => exact .tup (SqT.of h) (.cons (.str _) (.cons (.int _) (.cons (.int _) .nil)))
  | fin t => exact .tup (SqT.of h) (.cons (.str _) (.cons (.int _) .nil))
theorem dp_rec {a : Addr} {r : Rec} (h : RecT H a r) : Dp K H (.ref a) (.tuple (rds r)) := by
  obtain ⟨vs, h1, h2⟩ := h
  refine .tup (SqT.of h1) (dpAll_of (h2.imp fun v x hx => ?_))
  obtain ⟨b, c, rfl, h3, h4⟩ := hx
  exact .tup (SqT.of h3) (.cons (.int _) (.cons (dp_deed h4) .nil))
/-- a record and the number of ticks -/
theorem dp_pair {a b : Addr} {r : Rec} {n : Nat} (h : H a = some (.tup [.ref b, .int (n : Nat)])) (hb : RecT H b r) : Dp K H (.ref a) (.tuple [.tuple (rds r), .int (n : Nat)]) := .tup (SqT.of h) (.cons (dp_rec hb) (.cons (.int _) .nil))
end
theorem log_small {i : Int} (h0 : 0 ≤ i) (h : i < 1000) : i.natAbs.log2 < 1920 := by
  have h1 : i.natAbs < 2 ^ 10 := by omega
  by_cases hz : i.natAbs = 0
  · rw [hz]
    decide
  · have := (Nat.log2_lt hz).mpr h1
    omega
theorem deed_show {d : Deed} (h : d.Ok) : d.dat.showable = true := by
  cases d with
  | out l n =>
    obtain ⟨h1, h2, h3⟩ := h
    have a := log_small (i := (l : Nat)) (by omega) (by omega)
    have b := log_small h2 (by omega)
    simp only [Deed.dat, PyData.showable, PyData.showableAll, decide_eq_true a, decide_eq_true b, Bool.and_self]
  | fin t =>
    have h1 : t < 100 := h
    have a := log_small (i := (t : Nat)) (by omega) (by omega)
    simp only [Deed.dat, PyData.showable, PyData.showableAll, decide_eq_true a, Bool.and_self]
theorem deed_dict (d : Deed) : d.dat.hasDict = false := by cases d <;> simp [Deed.dat, PyData.hasDict, PyData.hasDictAll]
theorem deed_depth (d : Deed) : d.dat.depth = 1 := by cases d <;> simp [Deed.dat, PyData.depth, PyData.depthAll]
theorem deed_lay (d : Deed) : d.dat.canLay0 = true := by cases d <;> (simp only [Deed.dat, PyData.canLay0, PyData.canLayAll0, Bool.and_true]; decide +kernel)
theorem tuple_le (ts : List Str) : (tupleText ts).length ≤ piled ts + 3 := by
  unfold tupleText
  rw [strLen_append, strLen_append]
  have e1 : ((("(" : String) : Str)).length = 1 := rfl
  have e3 : (((if ts.length == 1 then ",)" else ")" : String) : Str)).length ≤ 2 := by split <;> decide
  rw [e1]
  by_cases h : ts = []
  · subst h
    have : (Str.join ", " []).length = 0 := rfl
    omega
  · have := join_length_add ts h
    omega
theorem int_le {i : Int} (h0 : 0 ≤ i) (h : i < 1000) : (PyData.int i).shown.length ≤ 3 := by
  simp only [PyData.shown]
  exact toString_length_le h0 (by decide) (by omega)
theorem deed_len {d : Deed} (h : d.Ok) : d.dat.shown.length ≤ 30 := by
  have e1 : (PyData.str ("out" : Str)).shown.length ≤ 6 := by decide +kernel
  have e2 : (PyData.str ("end" : Str)).shown.length ≤ 6 := by decide +kernel
  cases d with
  | out l n =>
    obtain ⟨h1, h2, h3⟩ := h
    have a := int_le (i := (l : Nat)) (by omega) (by omega)
    have b := int_le h2 (by omega)
    have z := tuple_le (PyData.shownAll [.str "out", .int (l : Nat), .int n])
    have y : piled (PyData.shownAll [.str "out", .int (l : Nat), .int n]) ≤ 18 := by
      simp only [PyData.shownAll, piled_cons, piled_nil]
      omega
    show (PyData.tuple [.str "out", .int (l : Nat), .int n]).shown.length ≤ 30
    rw [PyData.shown]
    omega
  | fin t =>
    have h1 : t < 100 := h
    have a := int_le (i := (t : Nat)) (by omega) (by omega)
    have z := tuple_le (PyData.shownAll [.str "end", .int (t : Nat)])
    have y : piled (PyData.shownAll [.str "end", .int (t : Nat)]) ≤ 18 := by
      simp only [PyData.shownAll, piled_cons, piled_nil]
      omega
    show (PyData.tuple [.str "end", .int (t : Nat)]).shown.length ≤ 30
    rw [PyData.shown]
    omega
theorem pdat_len {x : Nat × Deed} (h1 : x.1 < 1000) (h : x.2.Ok) : (pdat x).shown.length ≤ 50 := by
  have a := int_le (i := (x.1 : Nat)) (by omega) (by omega)
  have b := deed_len h
  have z := tuple_le (PyData.shownAll [.int (x.1 : Nat), x.2.dat])
  have y : piled (PyData.shownAll [.int (x.1 : Nat), x.2.dat]) ≤ 37 := by
    simp only [PyData.shownAll, piled_cons, piled_nil]
    omega
  show (PyData.tuple [.int (x.1 : Nat), x.2.dat]).shown.length ≤ 50
  rw [PyData.shown]
  omega
theorem rds_facts : ∀ {r : Rec}, RecOk r → PyData.showableAll (rds r) = true ∧ PyData.hasDictAll (rds r) = false ∧ PyData.depthAll (rds r) ≤ 2 ∧ piled (PyData.shownAll (rds r)) ≤ 52 * r.length ∧ PyData.canLayAll0 (rds r) = true
  | [], _ => ⟨rfl, rfl, Nat.zero_le _, Nat.zero_le _, rfl⟩
  | x :: r, h => by
    obtain ⟨a, b, c, d, e⟩ := rds_facts (r := r) fun y hy => h y (List.mem_cons_of_mem _ hy)
    obtain ⟨h1, h2⟩ := h x List.mem_cons_self
    have e1 : rds (x :: r) = pdat x :: rds r := rfl
    rw [e1]
    have l1 := log_small (i := (x.1 : Nat)) (by omega) (by omega)
    refine ⟨?_, ?_, ?_, ?_, ?_⟩
    · simp only [PyData.showableAll, a, Bool.and_true]
      simp only [pdat, PyData.showable, PyData.showableAll, deed_show h2, decide_eq_true l1, Bool.and_self]
    · simp only [PyData.hasDictAll, b, Bool.or_false]
      simp only [pdat, PyData.hasDict, PyData.hasDictAll, deed_dict, Bool.or_self]
    · have : (pdat x).depth ≤ 2 := by simp [pdat, PyData.depth, PyData.depthAll, deed_depth]
      simp only [PyData.depthAll]
      omega
    · have := pdat_len h1 h2
      simp only [PyData.shownAll, piled_cons, List.length_cons]
      omega
    · simp only [PyData.canLayAll0, e, Bool.and_true]
      simp only [pdat, PyData.canLay0, PyData.canLayAll0, deed_lay, Bool.and_self]
/-- what repr asks of a record -/
structure Shows (ds : List PyData) : Prop where
  sh : (PyData.tuple ds).showable = true
  nd : (PyData.tuple ds).hasDict = false
  dp : (PyData.tuple ds).depth ≤ 60
  ln : (PyData.tuple ds).shown.length ≤ sizeLine
theorem rec_shows {r : Rec} (h : RecOk r) (hz : r.length ≤ 1000) : Shows (rds r) := by
  obtain ⟨a, b, c, d, e⟩ := rds_facts h
  refine ⟨by simp only [PyData.showable, a], by simp only [PyData.hasDict, b], by simp only [PyData.depth]; omega, ?_⟩
  have z := tuple_le (PyData.shownAll (rds r))
  rw [PyData.shown]
  exact Nat.le_trans (show _ ≤ 60000 by omega) (by decide)
theorem pair_shows {r : Rec} {n : Nat} (h : RecOk r) (hz : r.length ≤ 1000) (hn : n < 1000) : Shows [.tuple (rds r), .int (n : Nat)] := by
  obtain ⟨a, b, c, d, e⟩ := rds_facts h
  have l1 := log_small (i := (n : Nat)) (by omega) (by omega)
  have l2 := int_le (i := (n : Nat)) (by omega) (by omega)
  refine ⟨by simp only [PyData.showable, PyData.showableAll, a, decide_eq_true l1, Bool.and_self], by simp only [PyData.hasDict, PyData.hasDictAll, b, Bool.or_self], by simp only [PyData.depth, PyData.depthAll]; omega, ?_⟩
  have z := tuple_le (PyData.shownAll (rds r))
  have z2 := tuple_le (PyData.shownAll [.tuple (rds r), .int (n : Nat)])
  have y : (PyData.tuple (rds r)).shown.length ≤ 60000 := by
    rw [PyData.shown]
    omega
  have y2 : piled (PyData.shownAll [.tuple (rds r), .int (n : Nat)]) ≤ 70000 := by
    simp only [PyData.shownAll, piled_cons, piled_nil]
    omega
  rw [PyData.shown]
  exact Nat.le_trans (show _ ≤ 80000 by omega) (by decide)
theorem rec_shaped {r : Rec} (h : RecOk r) : SeqAt.shaped (.tuple (rds r)) = true := by
  obtain ⟨a, b, c, d, e⟩ := rds_facts h
  unfold SeqAt.shaped
  rw [Bool.and_eq_true]
  refine ⟨by simp only [PyData.canLay0, e], decide_eq_true ?_⟩
  simp only [PyData.depth]
  omega
/-! ### a run's deeds are small -/
section
variable {I : Img} {s : MSt} {inp : List (List Int)}
theorem step_ok (O : ImgOk I) (S : StOk I s) {d : Deed} (h : (step I s).2 = some d) : d.Ok := by
  unfold step at h
  split at h
  · rename_i t T h1 h2
    split at h
    · rename_i c hc
      have to := S.th _ t T h1 h2
      obtain ⟨ha, _⟩ := (O.thr _ T h2).arg _ _ hc
      cases c <;> first
        | (cases h; done)
        | skip
      · have e : d = .out _ (top t.stk) := (Option.some.inj h).symm
        rw [e]
        exact ⟨ha, to.stk.top⟩
      · have e : d = .fin (s.tick % s.ths.length) := (Option.some.inj h).symm
        rw [e]
        have h8 := O.ne
        have : s.tick % s.ths.length < s.ths.length := Nat.mod_lt _ (by rw [S.tl]; omega)
        show s.tick % s.ths.length < 100
        have e2 := S.tl
        omega
    · cases h
  · cases h
theorem recs_ok (O : ImgOk I) (N : InpOk I inp) : ∀ n, n ≤ 1000 → RecOk (recs I (begun I inp) n)
  | 0, _ => fun x h => absurd h List.not_mem_nil
  | n + 1, hn => fun x h => by
    have h' : x ∈ recs I (begun I inp) n ++ (step I (stt I (begun I inp) n)).2.toList.map fun d => ((stt I (begun I inp) n).tick, d) := h
    rcases List.mem_append.mp h' with z | z
    · exact recs_ok O N n (by omega) x z
    · obtain ⟨d, hd, rfl⟩ := List.mem_map.mp z
      have e : (step I (stt I (begun I inp) n)).2 = some d := Option.mem_toList.mp hd
      refine ⟨?_, step_ok O ((begun_ok O N).stt O n) e⟩
      show (stt I (begun I inp) n).tick < 1000
      rw [stt_tick]
      show 0 + n < 1000
      omega
theorem deeds_ok {m i : Nat} {r : Rec} (h : RecOk r) : RecOk (deeds m i r) := fun x hx => by
  obtain ⟨y, hy, e⟩ := List.mem_filterMap.mp (show x ∈ r.filterMap _ from hx)
  obtain ⟨h1, h2⟩ := h y hy
  by_cases q : y.1 % m = i
  · rw [if_pos q] at e
    cases e
    exact ⟨Nat.lt_of_le_of_lt (Nat.div_le_self _ _) h1, h2⟩
  · rw [if_neg q] at e
    cases e
theorem deeds_len {m i : Nat} {r : Rec} : (deeds m i r).length ≤ r.length := List.length_filterMap_le _ _
end
end Lk
/-! Calls by keywords; the law's own def at the caller's place; what stands through the law. -/
namespace Lk
open PySem PySem.Spec PyProof.Rows L2
/-- a def of the module, to be called by its name x with the keywords ks alone -/
def Clk (P : Program) (w : World) (K : PySem.W.Frag) (mg : Str → Option Value) (base : Heap) (k : Nat) (x : Str) (ps ks : List Str) (gV : List V → List V → List V) (sp : Sp) : Prop :=
  ∃ (f : Addr) (fd : FuncData) (g : List Value → List Value → List Value), FnOk P w K mg base CX0 k f fd ps sp ∧ mg x = some (.ref f) ∧ PySem.W.keepIn K (.ref f) = true ∧ KBinds K fd ps ks g gV
section
variable {X : Cx} {k j : Nat} {x : Str} {ps ks : List Str} {gV : List V → List V → List V} {sp : Sp} {p pos : Pos} {kws : List Keyword} {tk : TA}
theorem pe_clk (c : Clk X.prog X.w X.K X.mg X.base k x ps ks gV sp) (hr : Room j X.A) (hk : k ≤ j) (hg : Gl X x) (hkw : PK X kws tk)
    (hall : (backToKw pos (keywordEach kws X.env)).all (·.1.isSome) = true := by rfl) (hks : (backToKw pos (keywordEach kws X.env)).filterMap (·.1) = ks := by rfl)
    (hdb : (x == ("__debug__" : Str)) = false := by decide)
    (hpl : ((backTo pos (starEach [] X.env)).any (·.1) || (backToKw pos (keywordEach kws X.env)).any (·.1.isNone)) = false := by rfl) : PE X (.Call (.Name x p) [] kws pos) (tCallK sp gV E0 tNil tk) := by
  obtain ⟨f, fd, g, F, hm, kp, b⟩ := c
  exact pe_callK0 F (hr.mono hk) hg hm kp b pass0 hkw hall hks hdb hpl
end
/-- three keywords, given from the last parameter to the first -/
def rev3 {α : Type} (us ws : List α) : List α := match us, ws with
  | [], [a, b, c] => [c, b, a]
  | _, _ => []
theorem rev3_rel {vs : List V} {us : List Value} {zs : List V} {ws : List Value} (h : Vals vs us) (h2 : Vals zs ws) : Vals (rev3 vs zs) (rev3 us ws) := by
  cases h with
  | cons _ _ => exact .nil
  | nil =>
    cases h2 with
    | nil => exact .nil
    | cons r1 t1 =>
      cases t1 with
      | nil => exact .nil
      | cons r2 t2 =>
        cases t2 with
        | nil => exact .nil
        | cons r3 t3 =>
          cases t3 with
          | nil => exact .cons r3 (.cons r2 (.cons r1 .nil))
          | cons _ _ => exact .nil
theorem kb3 {K : PySem.W.Frag} {fd : FuncData} {ps ks : List Str} (hp : ps.length = 3) (h : ∀ (s : Shared) (a b c : Value), BindsTo s fd ⟨[], ks.zip [a, b, c]⟩ (ps.zip [c, b, a])) : KBinds K fd ps ks rev3 rev3 := by
  refine ⟨fun s us ws _ hl => ?_, fun h1 h2 => rev3_rel h1 h2⟩
  rw [hp] at hl
  match us, ws, hl with
  | [], [a, b, c], _ => exact h s a b c
  | [], [], e => cases e
  | [], [_], e => cases e
  | [], [_, _], e => cases e
  | [], _ :: _ :: _ :: _ :: _, e => cases e
  | _ :: _, _, e => cases e
section
variable {K : PySem.W.Frag} {σ : L2.St} {H H' : Hp} {Q : VK} {a b : Addr} {xs ys : List V}
theorem rd_callk {sp : Sp} {gV : List V → List V → List V} {E : XK} {tk : TA} (h : tk σ H fun zs H2 => sp (gV [] zs) H2 Q E) : tCallK sp gV E tNil tk σ H Q := h
theorem rd_nesame {x : Str} (h : Q (.bl false) H) : rNe (.str x) (.str x) H Q := rd_ne rfl (by rw [decide_eq_true rfl]; exact h)
theorem rd_repr {ds : List PyData} (hd : Dp K H (.ref a) (.tuple ds)) (s : Shows ds) (q : Q (.str (PyData.tuple ds).shown) H) : rRepr K [.ref a] H Q := .inr ⟨a, ds, rfl, hd, s.sh, s.nd, s.dp, s.ln, q⟩
theorem rd_reprN (q : Q (.str "None") H) : rRepr K [.non] H Q := .inl ⟨rfl, q⟩
theorem rd_catA (ha : H a = some (.tup xs)) (hb : H b = some (.tup ys)) (hy : ys ≠ []) (hz : xs.length + ys.length ≤ sizeLine) (q : ∀ p H', Same H H' → H' p = some (.tup (xs ++ ys)) → Q (.ref p) H') : rCatA K (.ref a) (.ref b) H Q := by
  refine ⟨a, b, xs, ys, rfl, rfl, SqT.of ha, SqT.of hb, hz, fun e => ?_, fun _ e => absurd e hy, fun _ _ p hp => q p _ (same_new hp) upd_same⟩
  subst e
  exact q b H (Same.refl _) hb
theorem rd_repA {k : Nat} (ha : H a = some (.tup xs)) (hne : xs ≠ []) (hk : k ≤ 1000) (hz : xs.length ≤ 1000) (q : ∀ p H', Same H H' → H' p = some (.tup (List.replicate k xs).flatten) → Q (.ref p) H') : rRepA (.ref a) (.int (k : Nat)) H Q := ⟨a, k, xs, rfl, rfl, ha, hne, hk, hz, q⟩
end
/-- what the law has drawn and recorded -/
structure Gd (H : Hp) (d p ia na ra : Addr) (I : Img) (inp : List (List Int)) (r : Rec) : Prop where
  dl : Dl H d p
  im : ImgAt H ia I
  ip : InpAt H na inp
  rc : RecT H ra r
section
variable {H H' : Hp} {d p ia na ra : Addr} {I : Img} {inp : List (List Int)} {r : Rec}
theorem Gd.draw (G : Gd H d p ia na ra I inp r) (k : Kp (DP d p) H H') (D : Dl H' d p) : Gd H' d p ia na ra I inp r := by
  have T := G.dl.ts k
  exact ⟨D, G.im.ts T, G.ip.ts T, G.rc.ts T⟩
theorem Gd.same (G : Gd H d p ia na ra I inp r) (s : Same H H') : Gd H' d p ia na ra I inp r := G.draw (Kp.same s) (G.dl.same s)
end
/-! ### the law's def, called by the caller of a claim -/
/-- as a promise of a def, at that one place -/
def FnA (P : Program) (w : World) (K : PySem.W.Frag) (mg : Str → Option Value) (base : Heap) (f : Addr) (fd : FuncData) (x : Str) (sp : Sp) : Prop :=
  ∀ (s : Shared) (H : Hp) (u : Value) (v : V) (Q : VK) (E : XK), Env0 P w K mg base callerA [] s H → BindsTo s fd ⟨[u], []⟩ [(x, u)] → RelV v u → sp [v] H Q E →
    codeAny (model P w) callerA (.call (.ref f) ⟨[u], []⟩) (CR CX0 [] P w H s Q E) s
section
variable {P : Program} {w : World} {K : PySem.W.Frag} {mg : Str → Option Value} {base : Heap}
theorem fun_okA {x qual a1 : Str} {st : Stmt} {f : Addr} {fd : FuncData} {N : List Str} {k : Nat} {sp : Sp} (F : Fun K x qual st f fd) (S : FnScope N [a1] (defScope st)) (hk : Room (k + 1) callerA)
    (body : ∀ (cdv : Value) (s : Shared) (H : Hp) (v : V) (Q : VK) (E : XK), Room k (callerA.deeper (envOfC qual (defScope st) s.heap.objs.size f cdv)) → sp [v] H Q E →
      ∃ t, PSs (cxOf CX0 P w K mg base N qual (defScope st) f cdv callerA [] s H E).nox (defBody st) t ∧ t { nx := fun _ G => Q .non G, rt := Q } (start N [v]) H) : FnA P w K mg base f fd a1 sp := by
  intro s H u v Q E env bind rel ask
  obtain ⟨oc, od, kV, doc, pm, an, cdv, ct, osl, rfl, here, code⟩ := F.ex
  have inS : K.In s.heap := env.mod.kin.keeps fun b o e => (env.bs b o e).1
  have noLim : s.heap.NoLimit := env.mod.nolimit.keeps fun b o e => (env.bs b o e).1
  have kinds : ∀ y ∈ [(a1, u)], (defScope st).names.lookup y.1 = some .local ∨ ((defScope st).names.lookup y.1 = some .cell ∧ ((cellsFrom (s.heap.objs.size + 1) (defScope st).names []).lookup y.1).isSome = true) := by
    intro y hy
    obtain rfl := List.mem_singleton.mp hy
    exact (S.par a1 List.mem_cons_self).imp id fun q => ⟨q, PySem.W.cellsFrom_some _ _ _ (.inl q)⟩
  refine codeAny_call_function hk.depth (inS _ _ here) rfl S.co S.gen rfl (PySem.W.codeRec_of inS code) (bind _ _ _ _ ?_)
  refine wpAny_newFunctionEnv_cells S.kind kinds fun env1 he s1 grown => ?_
  cases he
  refine ⟨noLim.keeps grown.toInCall.keep, codeAny_func ?_⟩
  obtain ⟨t, ht, ran⟩ := body cdv s H v Q E (hk.deeper _) ask
  have start0 : Inv (cxOf CX0 P w K mg base N qual (defScope st) f cdv callerA [] s H E) [] (start N [v]) H s1 := inv_start S hk.hd env rfl (.cons rel .nil) grown
  refine wpAny_mono (ht.nox.run [] s1 _ H _ start0 ran) (fun fl s' done => ?_) fun _ _ z => z
  have close : ∀ {τ : L2.St} {G : Hp} {z : V} {y : Value}, Inv (cxOf CX0 P w K mg base N qual (defScope st) f cdv callerA [] s H E) [] τ G s' → RelV z y → Q z G → CE [] P w H s Q y s' := fun {τ G z y} J a b => ⟨z, G, J.os, J.bare, J.base, J.hok, a, b⟩
  cases fl with
  | ret y =>
    obtain ⟨z, τ, G, J, a, b⟩ := done
    exact close J a b
  | next =>
    obtain ⟨τ, G, J, b⟩ := done
    exact close (z := .non) J (show RelV .non Value.none from rfl) b
  | brk =>
    obtain ⟨_, _, _, none_⟩ := done
    exact none_.elim
  | cont =>
    obtain ⟨_, _, _, none_⟩ := done
    exact none_.elim
end
end Lk
/-! The law. -/
namespace Lk
open PySem PySem.Spec PyProof.Rows L2
/-- the threads that are no more -/
theorem told_all : ∀ ts : List (Option Th), (ts.filterMap fun o => if o.isSome = true then some () else none).isEmpty = ts.all (·.isNone)
  | [] => rfl
  | o :: r => by
    rw [List.filterMap_cons, List.all_cons, ← told_all r]
    cases o <;> rfl
/-- other code for a thread: so many rests, a word to level 0, the end -/
def strayC (n : Nat) : List Ins := List.replicate n .rest ++ [.out 0, .fin]
theorem stray_ok {I : Img} {T : Thr} (h : ThrOk I T) (n : Nat) : ThrOk I ⟨T.ws, strayC n⟩ := by
  have L : (strayC n).length = n + 2 := by simp [strayC]
  refine ⟨h.ws, h.wl, by show 0 < (strayC n).length; omega, fun j c hj => ?_⟩
  have hj' : (strayC n)[j]? = some c := hj
  unfold strayC at hj'
  by_cases q : j < n
  · rw [List.getElem?_append_left (by rw [List.length_replicate]; exact q), List.getElem?_replicate, if_pos q] at hj'
    cases hj'
    refine ⟨trivial, ?_⟩
    show j + 1 < (strayC n).length
    omega
  · rw [List.getElem?_append_right (by rw [List.length_replicate]; omega), List.length_replicate] at hj'
    have h2 : j - n < 2 := (List.getElem?_eq_some_iff.mp hj').1
    by_cases e0 : j - n = 0
    · rw [e0] at hj'
      have e1 : Ins.out 0 = c := by simpa using hj'
      subst e1
      refine ⟨show 0 < 4 by decide, ?_⟩
      show j + 1 < (strayC n).length
      omega
    · have e1 : j - n = 1 := by omega
      rw [e1] at hj'
      have e2 : Ins.fin = c := by simpa using hj'
      subst e2
      exact ⟨trivial, trivial⟩
theorem f2_rep {H : Hp} {v : V} {c : Ins} (h : InsAt H v c) : ∀ n, F2 (InsAt H) (List.replicate n v) (List.replicate n c) := fun n => by
  refine ⟨by rw [List.length_replicate, List.length_replicate], fun i v' x' h1 h2 => ?_⟩
  rw [List.getElem?_replicate] at h1 h2
  by_cases q : i < n
  · rw [if_pos q] at h1 h2
    cases h1
    cases h2
    exact h
  · rw [if_neg q] at h1
    cases h1
theorem ThrOk.ths' {I : Img} {t2 : List Thr} {T : Thr} (h : ThrOk I T) : ThrOk ⟨I.lv, I.boxes, I.rows, t2⟩ T := ThrOk.ths (t1 := I.ths) h
def spLaw (K : PySem.W.Frag) : Sp := fun vs H Q _ => ∃ (sc : Addr) (ns : List Int), vs = [.ref sc] ∧ SqL K H sc (ns.map V.int) ∧ ns.length ≤ 63 ∧ ∀ H', Q (.bl true) H'
theorem max0_nat {n : Nat} : (if ((n : Nat) : Int) - 1 > 0 then ((n : Nat) : Int) - 1 else 0) = ((n - 1 : Nat) : Int) := by
  by_cases h : ((n : Nat) : Int) - 1 > 0
  · rw [if_pos h]
    omega
  · rw [if_neg h]
    omega
section
variable {P : Program} {w : World} {K : PySem.W.Frag} {mg : Str → Option Value} {base : Heap}
theorem sc_law : FnScope ["_law_script", "_law_deal", "_law_image_here", "_law_inputs_here", "_law_many", "_law_record", "_law_thread", "_law_due", "_law_bent", "_law_at", "_law_stray", "_law_changed", "_law_world", "_law_found", "_law_tick_here", "_law_over", "_law_most", "_law_deed", "_law_told"] ["_law_script"] (defScope S_law) := ⟨rfl, rfl, rfl, by decide +kernel, rfl, by decide +kernel, by decide +kernel⟩
theorem ok_law {f : Addr} {fd : FuncData} (F : Fun K "law" "law" S_law f fd) (T : Tx mg) (c__law_draw : Cl P w K mg base 1 "_law_draw" ["_law_script", "_law_salt"] (spDraw K)) (c__law_image : Cl P w K mg base 4 "_law_image" ["_law_deal"] spImage)
    (c__law_inputs : Cl P w K mg base 2 "_law_inputs" ["_law_deal", "_law_order_here"] spInputs) (c_run_image : Cl P w K mg base 6 "run_image" ["image", "inputs", "ticks"] spRunI) (c__law_run : Cl P w K mg base 4 "_law_run" ["_law_image_here", "_law_inputs_here", "_law_ticks"] spLRun)
    (c_thread_deeds : Cl P w K mg base 1 "thread_deeds" ["record", "thread", "many"] spDeeds) (k_thread_deeds : Clk P w K mg base 1 "thread_deeds" ["record", "thread", "many"] ["many", "thread", "record"] rev3 spDeeds)
    (c__law_any : Cl P w K mg base 1 "_law_any" ["_law_deal", "_law_bound"] spAny) (c__law_alone : Cl P w K mg base 1 "_law_alone" ["_law_code"] spAlone) (c__law_begin : Cl P w K mg base 1 "_law_begin" ["_law_image_here", "_law_inputs_here"] spBegin)
    (c__law_tick : Cl P w K mg base 3 "_law_tick" ["_law_image_here", "_law_world"] spLTick) (k_whole_run : Clk P w K mg base 5 "whole_run" ["image", "inputs", "most"] ["most", "inputs", "image"] rev3 spWhole) :
    FnA P w K mg base f fd "_law_script" (spLaw K) := by
  refine fun_okA F sc_law (k := 6) ⟨rfl, by decide, by decide⟩ fun cdv s H v Q E hr h => ?_
  obtain ⟨sc, ns, e0, hsc, hz, q⟩ := h
  obtain rfl : v = .ref sc := by simpa using e0
  have hgd : (cxOf CX0 P w K mg base ["_law_script", "_law_deal", "_law_image_here", "_law_inputs_here", "_law_many", "_law_record", "_law_thread", "_law_due", "_law_bent", "_law_at", "_law_stray", "_law_changed", "_law_world", "_law_found", "_law_tick_here", "_law_over", "_law_most", "_law_deed", "_law_told"] "law" (defScope S_law) f cdv callerA [] s H E).nox.A.guards = some [] := rfl
  refine ⟨_, pss_cons (ps_set (i := 1) sc_law.nd rfl (Or.inl rfl) (pe_cl c__law_draw hr (by decide) (by rfl) (pa_cons (pv 0) (pa_cons pe_int pa_nil)))) (
      pss_cons (ps_set (i := 2) sc_law.nd rfl (Or.inl rfl) (pe_cl c__law_image hr (by decide) (by rfl) (pa_cons (pv 1) pa_nil))) (
      pss_cons (ps_asg (pe_tup (pa_cons (pe_cl c__law_inputs hr (by decide) (by rfl) (pa_cons (pv 1) (pa_cons (pe_ix (ix_ltK (K := K) rfl) (pv 2) pe_int (fun _ _ => rfl)) pa_nil))) (pa_cons (pe_callB (call_lenK (K := K) rfl) (by rfl) T.len PySem.boot_len (pa_cons (pe_ix (ix_ltK (K := K) rfl) (pv 2) pe_int (fun _ _ => rfl)) pa_nil)) pa_nil))) (pg_tupK (K := K) (n := 2) rfl rfl (pgs_cons (pg_name (i := 3) sc_law.nd rfl (Or.inl rfl)) (pgs_cons (pg_name (i := 4) sc_law.nd rfl (Or.inr rfl)) pgs_nil)))) (
      pss_cons (ps_set (i := 5) sc_law.nd rfl (Or.inl rfl) (pe_cl c_run_image hr (by decide) (by rfl) (pa_cons (pv 2) (pa_cons (pv 3) (pa_cons pe_int pa_nil))))) (
      pss_cons (ps_for PassesOwn.never rfl (pi_range1 (by rfl) T.range (pa_cons (pv 4) pa_nil)) (pg_name (i := 6) sc_law.nd rfl (Or.inr rfl)) (pss_cons (ps_set (i := 7) sc_law.nd rfl (Or.inl rfl) (pe_callTy (call_tupleK (K := K) rfl) (by rfl) T.tuple (by decide +kernel) (pa_cons (pe_lc (own := [("_law_tick_here", 14), ("_law_deed", 17)]) rfl sc_law.nd (pi_tupK (K := K) rfl (pe_cl c__law_run hr (by decide) (by rfl) (pa_cons (pv 2) (pa_cons (pv 3) (pa_cons pe_int pa_nil))))) (blkOk_by (N := ["_law_script", "_law_deal", "_law_image_here", "_law_inputs_here", "_law_many", "_law_record", "_law_thread", "_law_due", "_law_bent", "_law_at", "_law_stray", "_law_changed", "_law_world", "_law_found", "_law_tick_here", "_law_over", "_law_most", "_law_deed", "_law_told"]) (sc := defScope S_law) (by decide +kernel)) (fun _ _ _ _ _ => (pg_tupK (K := K) (n := 2) rfl rfl (pgs_cons (pg_name (i := 14) sc_law.nd rfl (Or.inl rfl)) (pgs_cons (pg_name (i := 17) sc_law.nd rfl (Or.inl rfl)) pgs_nil)))) (fun _ _ _ _ _ => (pts_one (pt_cmpR op_eq (pe_op op_mod (pe_callTy call_int1 (by rfl) T.int (by decide +kernel) (pa_cons (pv 14) pa_nil)) (pv 4)) (pv 6) (nomark _)))) (fun _ _ _ _ _ => (pe_tup (pa_cons (pe_op op_fdiv (pv 14) (pv 4)) (pa_cons (pv 17) pa_nil))))) pa_nil))) (pss_cons (ps_if (pt_cmpR op_ne (pe_callB (call_reprT hgd hr.units) (by rfl) T.repr (by decide +kernel) (pa_cons (pe_clk k_thread_deeds hr (by decide) (by rfl) (pk_cons (pv 4) (pk_cons (pv 6) (pk_cons (pv 5) pk_nil)))) pa_nil)) (pe_callB (call_reprT hgd hr.units) (by rfl) T.repr (by decide +kernel) (pa_cons (pv 7) pa_nil)) (nomark _)) (pss_one (ps_ret pe_bl)) pss_nil) (pss_cons (ps_set (i := 8) sc_law.nd rfl (Or.inl rfl) (pe_lst pa_nil)) (pss_cons (ps_for PassesOwn.never rfl (pi_range1 (by rfl) T.range (pa_cons (pv 4) pa_nil)) (pg_name (i := 9) sc_law.nd rfl (Or.inl rfl)) (pss_cons (ps_set (i := 10) sc_law.nd rfl (Or.inl rfl) (pe_tup (pa_cons (pe_ix (ix_ltK (K := K) rfl) (pe_ix (ix_ltK (K := K) rfl) (pe_ix (ix_ltK (K := K) rfl) (pv 2) pe_int (fun _ _ => rfl)) (pv 9) (fun _ _ => rfl)) pe_int (fun _ _ => rfl)) (pa_cons (pe_op op_catA (pe_op op_repA (pe_tup (pa_cons (pe_tup (pa_cons pe_str pa_nil)) pa_nil)) (pe_cl c__law_any hr (by decide) (by rfl) (pa_cons (pv 1) (pa_cons pe_int pa_nil)))) (pe_tup (pa_cons (pe_tup (pa_cons pe_str (pa_cons pe_int pa_nil))) (pa_cons (pe_tup (pa_cons pe_str pa_nil)) pa_nil)))) pa_nil)))) (pss_one (ps_expr (pe_bm PySem.F.plainAttrs_list PySem.F.slot_list_append PySem.F.type_list_append  mt_append (pv 8) (pa_cons (pe_ifExp (pt_cmpR op_eq (pv 9) (pv 6) (nomark _)) (pe_ix (ix_ltK (K := K) rfl) (pe_ix (ix_ltK (K := K) rfl) (pv 2) pe_int (fun _ _ => rfl)) (pv 9) (fun _ _ => rfl)) (pv 10)) pa_nil)))))) (pss_cons (ps_set (i := 11) sc_law.nd rfl (Or.inl rfl) (pe_tup (pa_cons (pe_ix (ix_ltK (K := K) rfl) (pv 2) pe_int (fun _ _ => rfl)) (pa_cons (pe_ix (ix_ltK (K := K) rfl) (pv 2) pe_int (fun _ _ => rfl)) (pa_cons (pe_ix (ix_ltK (K := K) rfl) (pv 2) pe_int (fun _ _ => rfl)) (pa_cons (pe_callTy (call_tupleK (K := K) rfl) (by rfl) T.tuple (by decide +kernel) (pa_cons (pv 8) pa_nil)) pa_nil)))))) (pss_one (ps_if (PW.pt (pw_and (pt_val (pe_cl c__law_alone hr (by decide) (by rfl) (pa_cons (pe_ix (ix_ltK (K := K) rfl) (pe_ix (ix_ltK (K := K) rfl) (pe_ix (ix_ltK (K := K) rfl) (pv 2) pe_int (fun _ _ => rfl)) (pv 6) (fun _ _ => rfl)) pe_int (fun _ _ => rfl)) pa_nil))) (pw_and1 (pt_cmpR (op_neD hr.units) (pe_cl c_thread_deeds hr (by decide) (by rfl) (pa_cons (pe_cl c_run_image hr (by decide) (by rfl) (pa_cons (pv 11) (pa_cons (pv 3) (pa_cons pe_int pa_nil)))) (pa_cons (pv 6) (pa_cons (pv 4) pa_nil)))) (pv 7) (nomark _))))) (pss_one (ps_ret pe_bl)) pss_nil)))))))) (
      pss_cons (ps_par (i := 12) (j := 13) rfl sc_law.nd rfl rfl (by decide) rfl rfl (pa_cons (pe_cl c__law_begin hr (by decide) (by rfl) (pa_cons (pv 2) (pa_cons (pv 3) pa_nil))) (pa_cons (pe_lst pa_nil) pa_nil)) (by rfl)) (
      pss_cons (ps_while PassesOwn.never (PW.pt (pw_and (pt_cmpR op_lt (pe_ix (ix_ltK (K := K) rfl) (pv 12) pe_int (fun _ _ => rfl)) pe_int (nomark _)) (pw_and1 (pt_cmpR (op_neE hr.units0) (pe_lc (own := [("_law_told", 18)]) rfl sc_law.nd (pi_listK (K := K) rfl (pe_ix (ix_ltK (K := K) rfl) (pv 12) pe_int (fun _ _ => rfl))) (blkOk_by (N := ["_law_script", "_law_deal", "_law_image_here", "_law_inputs_here", "_law_many", "_law_record", "_law_thread", "_law_due", "_law_bent", "_law_at", "_law_stray", "_law_changed", "_law_world", "_law_found", "_law_tick_here", "_law_over", "_law_most", "_law_deed", "_law_told"]) (sc := defScope S_law) (by decide +kernel)) (fun _ _ _ _ _ => (pg_name (i := 18) sc_law.nd rfl (Or.inl rfl))) (fun _ _ _ _ _ => (pts_one (pt_cmpR op_notN (pv 18) pe_non (nomark _)))) (fun _ _ _ _ _ => (pv 18))) (pe_lst pa_nil) (nomark _))))) (pss_cons (ps_set (i := 14) sc_law.nd rfl (Or.inr rfl) (pe_ix (ix_ltK (K := K) rfl) (pv 12) pe_int (fun _ _ => rfl))) (pss_one (ps_set (i := 13) sc_law.nd rfl (Or.inl rfl) (pe_op op_cat (pv 13) (pe_lc (own := [("_law_deed", 17)]) rfl sc_law.nd (pi_listK (K := K) rfl (pe_cl c__law_tick hr (by decide) (by rfl) (pa_cons (pv 2) (pa_cons (pv 12) pa_nil)))) (blkOk_by (N := ["_law_script", "_law_deal", "_law_image_here", "_law_inputs_here", "_law_many", "_law_record", "_law_thread", "_law_due", "_law_bent", "_law_at", "_law_stray", "_law_changed", "_law_world", "_law_found", "_law_tick_here", "_law_over", "_law_most", "_law_deed", "_law_told"]) (sc := defScope S_law) (by decide +kernel)) (fun _ _ _ _ _ => (pg_name (i := 17) sc_law.nd rfl (Or.inl rfl))) (fun _ _ _ _ _ => pts_nil) (fun _ _ _ _ _ => (pe_tup (pa_cons (pv 14) (pa_cons (pv 17) pa_nil)))))))))) (
      pss_cons (ps_set (i := 15) sc_law.nd rfl (Or.inl rfl) (pe_cmpR (op_eqE hr.units0) (pe_lc (own := [("_law_told", 18)]) rfl sc_law.nd (pi_listK (K := K) rfl (pe_ix (ix_ltK (K := K) rfl) (pv 12) pe_int (fun _ _ => rfl))) (blkOk_by (N := ["_law_script", "_law_deal", "_law_image_here", "_law_inputs_here", "_law_many", "_law_record", "_law_thread", "_law_due", "_law_bent", "_law_at", "_law_stray", "_law_changed", "_law_world", "_law_found", "_law_tick_here", "_law_over", "_law_most", "_law_deed", "_law_told"]) (sc := defScope S_law) (by decide +kernel)) (fun _ _ _ _ _ => (pg_name (i := 18) sc_law.nd rfl (Or.inl rfl))) (fun _ _ _ _ _ => (pts_one (pt_cmpR op_notN (pv 18) pe_non (nomark _)))) (fun _ _ _ _ _ => (pv 18))) (pe_lst pa_nil) (nomark _))) (
      pss_cons (ps_for PassesOwn.never rfl (pi_listK (K := K) rfl (pe_lst (pa_cons (pe_cl c__law_any hr (by decide) (by rfl) (pa_cons (pv 1) (pa_cons pe_int pa_nil))) (pa_cons (pe_ix (ix_ltK (K := K) rfl) (pv 12) pe_int (fun _ _ => rfl)) (pa_cons (pe_callB (call_max2 rfl) (by rfl) T.max (by decide +kernel) (pa_cons pe_int (pa_cons (pe_op op_sub (pe_ix (ix_ltK (K := K) rfl) (pv 12) pe_int (fun _ _ => rfl)) pe_int) pa_nil))) pa_nil))))) (pg_name (i := 16) sc_law.nd rfl (Or.inl rfl)) (pss_cons (ps_set (i := 7) sc_law.nd rfl (Or.inl rfl) (pe_ifExp (PW.pt (pw_and (pt_val (pv 15)) (pw_and1 (pt_cmpR op_le (pe_ix (ix_ltK (K := K) rfl) (pv 12) pe_int (fun _ _ => rfl)) (pv 16) (nomark _))))) (pe_tup (pa_cons (pe_callTy (call_tupleK (K := K) rfl) (by rfl) T.tuple (by decide +kernel) (pa_cons (pv 13) pa_nil)) (pa_cons (pe_ix (ix_ltK (K := K) rfl) (pv 12) pe_int (fun _ _ => rfl)) pa_nil))) pe_non)) (pss_one (ps_if (pt_cmpR op_ne (pe_callB (call_reprT hgd hr.units) (by rfl) T.repr (by decide +kernel) (pa_cons (pe_clk k_whole_run hr (by decide) (by rfl) (pk_cons (pv 16) (pk_cons (pv 3) (pk_cons (pv 2) pk_nil)))) pa_nil)) (pe_callB (call_reprT hgd hr.units) (by rfl) T.repr (by decide +kernel) (pa_cons (pv 7) pa_nil)) (nomark _)) (pss_one (ps_ret pe_bl)) pss_nil)))) (
      pss_one (ps_ret pe_bl)))))))))), ?_⟩
  walk_at "lc"
  refine ⟨sc, ns, 39, rfl, hsc, by omega, fun H1 d p D1 s1 _ _ => ?_⟩
  walk_at "lc"
  refine ⟨d, p, rfl, D1, fun H2 ia I M2 O zb zr zt zcode D2 k2 => ?_⟩
  walk_at "lc"
  obtain ⟨oa, ba, ra0, ta, os, m1, m2, m3, m4, m5, ⟨tv, m6, m7⟩⟩ := id M2.ex
  refine rd_tup ?_
  walk_at "lc"
  refine ⟨d, p, oa, os, rfl, D2, m2, by rw [m3]; exact Nat.le_trans O.lv.2 (by decide), fun H3 na inp Np N2 N3 D3 k3 => ?_⟩
  have N : InpOk I inp := ⟨N2.trans m3, N3⟩
  have T3 := D2.ts k3
  have M3 := M2.ts T3
  have m13 := T3 _ _ m1
  have m63 := T3 _ _ m6
  walk_at "lc"
  rw [m7.1]
  refine ⟨(by show 2 ≤ sizeLine; decide), fun z hz0 => ?_⟩
  have sz : Same H3 (upd H3 z (.tup [.ref na, .int (I.ths.length : Nat)])) := same_new hz0
  have hz1 : upd H3 z (.tup [.ref na, .int (I.ths.length : Nat)]) z = some (.tup [.ref na, .int (I.ths.length : Nat)]) := upd_same
  generalize upd H3 z (.tup [.ref na, .int (I.ths.length : Nat)]) = H4 at sz hz1
  have D4 := D3.same sz
  have M4 := M3.ts (Ts.same sz)
  have Np4 := Np.ts (Ts.same sz)
  walk_at "lc"
  refine ⟨ia, na, I, inp, 60, rfl, M4, Np4, O, N, by omega, by omega, by decide, fun H5 ra s5 R5 => ?_⟩
  have ROK := recs_ok O N 60 (by decide)
  have RLN := recs_len I (begun I inp) 60
  obtain ⟨rc60, hrec⟩ : ∃ r, r = recs I (begun I inp) 60 := ⟨_, rfl⟩
  rw [← hrec] at R5 ROK RLN
  have G5 : Gd H5 d p ia na ra I inp rc60 := ⟨D4.same s5, M4.ts (Ts.same s5), Np4.ts (Ts.same s5), R5⟩
  have hm1 : 1 ≤ I.ths.length := O.ne.1
  have hm3 : I.ths.length ≤ 8 := O.ne.2
  generalize hm : I.ths.length = m at hm1 hm3
  walk_at "lc"
  refine rd_for1 ?_
  walk_at "lc"
  refine rd_rng (n := m) (by omega) (fun _ σ H' => (∃ t6 t7 t8 t9 t10 t11, σ = [some (.ref sc), some (.ref d), some (.ref ia), some (.ref na), some (.int (m : Nat)), some (.ref ra), t6, t7, t8, t9, t10, t11, none, none, none, none, none, none, none]) ∧ Gd H' d p ia na ra I inp rc60)
    ⟨⟨_, _, _, _, _, _, rfl⟩, G5⟩ (fun i σ H6 hi h => ?_) (fun σ H6 h => ?_)
  · obtain ⟨⟨t6, t7, t8, t9, t10, t11, rfl⟩, G6⟩ := h
    have hT : I.ths[i]? = some I.ths[i] := List.getElem?_eq_getElem (by omega)
    generalize I.ths[i] = Ti at hT
    walk_at "lc"
    refine ⟨ia, na, I, inp, 60, rfl, G6.im, G6.ip, O, N, by omega, by omega, by decide, fun H7 rb s7 R7 => ?_⟩
    rw [← hrec] at R7
    have G7 := G6.same s7
    obtain ⟨rv, r1, r2⟩ := R7
    walk_at "lc"
    refine lc_filt (wkT r1) rc60 (fun p => if p.1 % m = i then some (p.1 / m, p.2) else none) RecAt (fun _ _ _ _ t h => h.ts t) r2.1 (by rw [r2.1]; omega) (fun j x y H' N' M' hx hy sm kN kM => ?_) (fun D8 acc H8 hD8 sm8 e8 f8 => ?_)
    · obtain ⟨a, xa, rfl, h1, h2⟩ := r2.2 j x y hx hy
      have h1' := sm _ _ h1
      walk_at "lc"
      refine ⟨wipe2 (by decide) (by decide), ?_⟩
      walk_at "lc"
      refine rd_mod (by omega) ?_
      walk_at "lc"
      refine by_test (fun h => ?_) (fun h => ?_)
      · have h := of_decide_eq_true h
        have e : y.1 % m = i := by
          have z : ((y.1 % m : Nat) : Int) = (i : Nat) := by rw [Int.natCast_emod]; exact h
          exact Int.ofNat.inj z
        refine rd_tup ?_
        walk_at "lc"
        refine rd_fdiv (by omega) (by omega) ?_
        walk_at "lc"
        refine ⟨(by show 2 ≤ sizeLine; decide), fun b hb => ?_⟩
        have e2 : (if y.1 % m = i then some (y.1 / m, y.2) else none) = some (y.1 / m, y.2) := if_pos e
        refine kN _ _ _ e2 (same_new hb) ⟨b, xa, rfl, ?_, same_new hb _ _ (sm _ _ h2)⟩
        show upd _ _ _ _ = some (HO.tup [.int ((y.1 / m : Nat) : Int), .ref xa])
        rw [Int.natCast_ediv]
        exact upd_same
      · have h := of_decide_eq_false h
        refine kM _ (if_neg fun z => h ?_) (Same.refl _)
        rw [← z, Int.natCast_emod]
    · have f8' : F2 (RecAt H8) acc (deeds m i rc60) := f8
      have DOK : RecOk (deeds m i rc60) := deeds_ok ROK
      have DLN : (deeds m i rc60).length ≤ 60 := Nat.le_trans deeds_len RLN
      have SH := rec_shows DOK (by omega)
      walk_at "lc"
      refine rd_tupleL e8 fun du hdu => ?_
      have G9 := (G7.same sm8).same (same_new (o := .tup acc) hdu)
      have U9 : RecT (upd H8 du (.tup acc)) du (deeds m i rc60) := ⟨acc, upd_same, f8'.imp fun _ _ => RecAt.ts (ts_new hdu)⟩
      generalize upd H8 du (.tup acc) = H9 at G9 U9
      walk_at "lc"
      refine rd_callk ?_
      walk_at "lc"
      refine ⟨ra, rc60, i, m, rfl, G9.rc, by omega, by omega, by omega, fun H10 rx s10 X10 => ?_⟩
      have G10 := G9.same s10
      have U10 := U9.ts (Ts.same s10)
      walk_at "lc"
      refine rd_repr (dp_rec X10) SH ?_
      walk_at "lc"
      refine rd_repr (dp_rec U10) SH ?_
      refine rd_nesame ?_
      walk_at "lc"
      -- bent images
      refine rd_lst ?_
      walk_at "lc"
      refine ⟨Nat.zero_le _, fun b hb => ?_⟩
      have G11 := G10.same (same_new (o := .lst []) hb)
      have U11 := U10.ts (ts_new (o := .lst []) hb)
      have hb1 : upd H10 b (.lst []) b = some (.lst []) := upd_same
      have nb := G10.dl.new hb
      generalize upd H10 b (.lst []) = H11 at G11 U11 hb1
      walk_at "lc"
      refine rd_for1 ?_
      walk_at "lc"
      refine rd_rng (n := m) (by omega) (fun j σ H' => (∃ t9 t10 t11, σ = [some (.ref sc), some (.ref d), some (.ref ia), some (.ref na), some (.int (m : Nat)), some (.ref ra), some (.int (i : Nat)), some (.ref du), some (.ref b), t9, t10, t11, none, none, none, none, none, none, none]) ∧ Gd H' d p ia na ra I inp rc60 ∧ RecT H' du (deeds m i rc60) ∧
        ∃ vs ths, H' b = some (.lst vs) ∧ F2 (ThrAt H') vs ths ∧ ths.length = j ∧ ∀ (k : Nat) T, ths[k]? = some T → (k = i → T = Ti) ∧ ThrOk I T) ⟨⟨_, _, _, rfl⟩, G11, U11, [], [], hb1, F2.nil, rfl, fun k T h => by simp at h⟩ (fun j σ H12 hj h => ?_) (fun σ H12 h => ?_)
      · obtain ⟨⟨t9, t10, t11, rfl⟩, G12, U12, vs, ths, hb12, ft, lt, at12⟩ := h
        have hj' : j < I.ths.length := by omega
        have hTj : I.ths[j]? = some I.ths[j] := List.getElem?_eq_getElem hj'
        generalize I.ths[j] = Tj at hTj
        have okj := O.thr j Tj hTj
        obtain ⟨iv, tb, tvs, xt, wa, ca, q1, q2, q3, q4, q5, q6, q7⟩ := G12.im.thr hTj
        walk_at "lc"
        refine rd_tup ?_
        walk_at "lc"
        refine rd_ix3 (.inr q1) q2 ?_
        walk_at "lc"
        -- the rests
        refine rd_tup ?_
        walk_at "lc"
        refine rd_tup ?_
        walk_at "lc"
        refine ⟨(by show 1 ≤ sizeLine; decide), fun re hre => ?_⟩
        have B1 := G12.same (same_new (o := .tup [.str "rest"]) hre)
        have hre1 : upd H12 re (.tup [.str "rest"]) re = some (.tup [.str "rest"]) := upd_same
        have w1 : Same H12 (upd H12 re (.tup [.str "rest"])) := same_new hre
        generalize upd H12 re (.tup [.str "rest"]) = H13 at B1 hre1 w1
        walk_at "lc"
        refine ⟨(by show 1 ≤ sizeLine; decide), fun rt hrt => ?_⟩
        have B2 := B1.same (same_new (o := .tup [.ref re]) hrt)
        have w2 := w1.trans (same_new (o := .tup [.ref re]) hrt)
        have hre2 := same_new (o := .tup [.ref re]) hrt _ _ hre1
        have hrt2 : upd H13 rt (.tup [.ref re]) rt = some (.tup [.ref re]) := upd_same
        generalize upd H13 rt (.tup [.ref re]) = H14 at B2 w2 hre2 hrt2
        walk_at "lc"
        refine ⟨d, p, 4, rfl, B2.dl, by decide, by decide, fun H15 rr hrr D15 k15 => ?_⟩
        have B3 := B2.draw k15 D15
        have t15 := B2.dl.ts k15
        have hre3 := t15 _ _ hre2
        have hrt3 := t15 _ _ hrt2
        have hb15 := kd_at k15 (w2 _ _ hb12) nb
        walk_at "lc"
        refine rd_repA hrt3 (by simp) (by omega) (by show 1 ≤ 1000; decide) fun rp H16 s16 hrp => ?_
        rw [flat_rep] at hrp
        have B4 := B3.same s16
        have hre4 := s16 _ _ hre3
        walk_at "lc"
        refine rd_tup ?_
        walk_at "lc"
        refine rd_tup ?_
        walk_at "lc"
        refine ⟨(by show 2 ≤ sizeLine; decide), fun ou hou => ?_⟩
        have B5 := B4.same (same_new (o := .tup [.str "out", .int 0]) hou)
        have hre5 := same_new (o := .tup [.str "out", .int 0]) hou _ _ hre4
        have hrp5 := same_new (o := .tup [.str "out", .int 0]) hou _ _ hrp
        have hou5 : upd H16 ou (.tup [.str "out", .int 0]) ou = some (.tup [.str "out", .int 0]) := upd_same
        have w5 := s16.trans (same_new (o := .tup [.str "out", .int 0]) hou)
        generalize upd H16 ou (.tup [.str "out", .int 0]) = H17 at B5 hre5 hrp5 hou5 w5
        walk_at "lc"
        refine rd_tup ?_
        walk_at "lc"
        refine ⟨(by show 1 ≤ sizeLine; decide), fun en hen => ?_⟩
        have B6 := B5.same (same_new (o := .tup [.str "end"]) hen)
        have hre6 := same_new (o := .tup [.str "end"]) hen _ _ hre5
        have hrp6 := same_new (o := .tup [.str "end"]) hen _ _ hrp5
        have hou6 := same_new (o := .tup [.str "end"]) hen _ _ hou5
        have hen6 : upd H17 en (.tup [.str "end"]) en = some (.tup [.str "end"]) := upd_same
        have w6 := w5.trans (same_new (o := .tup [.str "end"]) hen)
        generalize upd H17 en (.tup [.str "end"]) = H18 at B6 hre6 hrp6 hou6 hen6 w6
        walk_at "lc"
        refine ⟨(by show 2 ≤ sizeLine; decide), fun oe hoe => ?_⟩
        have soe : Same H18 (upd H18 oe (.tup [.ref ou, .ref en])) := same_new hoe
        refine rd_catA (soe _ _ hrp6) upd_same (by simp) (Nat.le_trans (show (List.replicate rr (V.ref re)).length + [V.ref ou, V.ref en].length ≤ 100 by rw [List.length_replicate]; show rr + 2 ≤ 100; omega) (by decide)) fun cd H19 s19 hcd => ?_
        have w7 := (w6.trans soe).trans s19
        have B7 := (B6.same soe).same s19
        have hcode : CodeAt H19 cd (strayC rr) := by
          have i1 : InsAt H19 (.ref re) .rest := ⟨re, rfl, s19 _ _ (soe _ _ hre6)⟩
          have i2 : InsAt H19 (.ref ou) (.out 0) := ⟨ou, rfl, s19 _ _ (soe _ _ hou6)⟩
          have i3 : InsAt H19 (.ref en) .fin := ⟨en, rfl, s19 _ _ (soe _ _ hen6)⟩
          exact ⟨_, hcd, F2.app (f2_rep i1 rr) ((F2.one i3).cons i2)⟩
        walk_at "lc"
        refine ⟨(by show 2 ≤ sizeLine; decide), fun st hst => ?_⟩
        have sst : Same H19 (upd H19 st (.tup [.ref wa, .ref cd])) := same_new hst
        have hst1 : upd H19 st (.tup [.ref wa, .ref cd]) st = some (.tup [.ref wa, .ref cd]) := upd_same
        have B8 := B7.same sst
        have w8 := w7.trans sst
        have hcode8 := hcode.ts (Ts.same sst)
        generalize upd H19 st (.tup [.ref wa, .ref cd]) = H20 at hst1 B8 w8 hcode8
        have hb20 := w8 _ _ hb15
        have tAll : Ts H12 H20 := ((Ts.same w2).trans t15).trans (Ts.same w8)
        have hst8 : ThrAt H20 (.ref st) ⟨Tj.ws, strayC rr⟩ := ⟨st, wa, cd, rfl, hst1, tAll _ _ q6, hcode8⟩
        have hxt8 : ThrAt H20 (.ref xt) Tj := ⟨xt, wa, ca, rfl, tAll _ _ q5, tAll _ _ q6, CodeAt.ts tAll q7⟩
        have ft8 : F2 (ThrAt H20) vs ths := ft.imp fun _ _ => ThrAt.ts tAll
        have U8 := U12.ts tAll
        have q18 := tAll _ _ q1
        have q38 := tAll _ _ q3
        have lvs : vs.length < sizeLine := Nat.lt_of_le_of_lt (show vs.length ≤ 100 by rw [ft.1]; omega) (by decide)
        have fin : ∀ (v : V) (T : Thr), ThrAt H20 v T → (j = i → T = Ti) → ThrOk I T → Gd (upd H20 b (.lst (vs ++ [v]))) d p ia na ra I inp rc60 ∧ RecT (upd H20 b (.lst (vs ++ [v]))) du (deeds m i rc60) ∧
            ∃ us ths', upd H20 b (.lst (vs ++ [v])) b = some (.lst us) ∧ F2 (ThrAt (upd H20 b (.lst (vs ++ [v])))) us ths' ∧ ths'.length = j + 1 ∧ ∀ (k : Nat) T, ths'[k]? = some T → (k = i → T = Ti) ∧ ThrOk I T := fun v T hv he hok => by
          have tb : Ts H20 (upd H20 b (.lst (vs ++ [v]))) := ts_upd fun xs z => by
            rw [hb20] at z
            cases z
          refine ⟨⟨B8.dl.upd nb.1 nb.2, B8.im.ts tb, B8.ip.ts tb, B8.rc.ts tb⟩, U8.ts tb, vs ++ [v], ths ++ [T], upd_same, (ft8.snoc hv).imp fun _ _ => ThrAt.ts tb, by rw [List.length_append, List.length_singleton, lt], fun k T' hk => ?_⟩
          by_cases e : k < ths.length
          · rw [List.getElem?_append_left e] at hk
            exact at12 k T' hk
          · rw [List.getElem?_append_right (by omega)] at hk
            have : k - ths.length < 1 := (List.getElem?_eq_some_iff.mp hk).1
            have e0 : k - ths.length = 0 := by omega
            have ek : k = j := by omega
            rw [e0] at hk
            have e1 : T = T' := by simpa using hk
            rw [ek, ← e1]
            exact ⟨he, hok⟩
        walk_at "lc"
        refine by_test (fun h => ?_) (fun h => ?_)
        · have e : j = i := by have := of_decide_eq_true h; omega
          walk_at "lc"
          refine rd_ix3 (.inr q18) q2 ?_
          walk_at "lc"
          refine rd_append hb20 lvs ?_
          exact ⟨⟨_, _, _, rfl⟩, fin _ Tj hxt8 (fun _ => by rw [e, hT] at hTj; exact (Option.some.inj hTj).symm) okj⟩
        · have e : j ≠ i := fun z => of_decide_eq_false h (by rw [z])
          walk_at "lc"
          refine rd_append hb20 lvs ?_
          exact ⟨⟨_, _, _, rfl⟩, fin _ ⟨Tj.ws, strayC rr⟩ hst8 (fun z => absurd z e) (stray_ok okj rr)⟩
      · obtain ⟨⟨t9, t10, t11, rfl⟩, G12, U12, vs, ths, hb12, ft, lt, at12⟩ := h
        obtain ⟨oa2, ba2, ra2, ta2, os2, n1, n2, n3, n4, n5, n6⟩ := G12.im.ex
        walk_at "lc"
        refine rd_tup ?_
        walk_at "lc"
        refine rd_tupleL hb12 fun tb htb => ?_
        walk_at "lc"
        refine ⟨(by show 4 ≤ sizeLine; decide), fun ca hca => ?_⟩
        have sC := (same_new (o := .tup vs) htb).trans (same_new (o := .tup [.ref oa2, .ref ba2, .ref ra2, .ref tb]) hca)
        have tC := Ts.same sC
        have MC : ImgAt (upd (upd H12 tb (.tup vs)) ca (.tup [.ref oa2, .ref ba2, .ref ra2, .ref tb])) ca ⟨I.lv, I.boxes, I.rows, ths⟩ := ⟨oa2, ba2, ra2, tb, os2, upd_same, tC _ _ n2, n3, TupOf.ts tC (fun _ _ => BoxAt.ts tC) n4, TupOf.ts tC (fun _ _ => RowAt.ts tC) n5, vs, same_new hca _ _ upd_same, ft.imp fun _ _ => ThrAt.ts tC⟩
        have GC := G12.same sC
        have UC := U12.ts tC
        generalize upd (upd H12 tb (.tup vs)) ca (.tup [.ref oa2, .ref ba2, .ref ra2, .ref tb]) = H13 at MC GC UC
        have OC : ImgOk ⟨I.lv, I.boxes, I.rows, ths⟩ := ⟨O.lv, O.box, O.row, by show 1 ≤ ths.length ∧ ths.length ≤ 8; omega, fun k T h => (at12 k T h).2.ths'⟩
        have NC : InpOk ⟨I.lv, I.boxes, I.rows, ths⟩ inp := ⟨N.len, N.wk⟩
        obtain ⟨iv, tb3, tvs, xt, wa, cc, q1, q2, q3, q4, q5, q6, q7⟩ := GC.im.thr hT
        walk_at "lc"
        refine rd_ix3 (.inr q1) q2 ?_
        walk_at "lc"
        refine ⟨cc, Ti.code, rfl, q7, ?_, fun H14 s14 => ?_⟩
        · exact Nat.le_trans (zcode i Ti hT) (by decide)
        · have GA := GC.same s14
          have UA := UC.ts (Ts.same s14)
          have MA := MC.ts (Ts.same s14)
          cases ha : Ti.code.all fun c => !c.reads with
          | false =>
            walk_at "lc"
            exact ⟨⟨_, _, _, _, _, _, rfl⟩, GA⟩
          | true =>
            walk_at "lc"
            refine ⟨ca, na, ⟨I.lv, I.boxes, I.rows, ths⟩, inp, 60, rfl, MA, GA.ip, OC, NC, by show I.boxes.length ≤ 100000; omega, by show I.rows.length ≤ 100000; omega, by decide, fun H15 rx s15 X15 => ?_⟩
            have XLN := recs_len ⟨I.lv, I.boxes, I.rows, ths⟩ (begun ⟨I.lv, I.boxes, I.rows, ths⟩ inp) 60
            have hTi' : ths[i]? = some Ti := by
              have hil : i < ths.length := by omega
              have h1 : ths[i]? = some ths[i] := List.getElem?_eq_getElem hil
              rw [h1, (at12 i _ h1).1 rfl]
            have hbeg : ∀ J : Img, J.ths[i]? = some Ti → (begun J inp).ths[i]? = some (some ⟨0, [], List.replicate Ti.ws.length 0⟩) := fun J hJ => by
              show (J.ths.map fun T => some (Th.mk 0 [] (List.replicate T.ws.length 0)))[i]? = _
              rw [List.getElem?_map, hJ]
              rfl
            have alone := (alone_run (I := I) (I' := ⟨I.lv, I.boxes, I.rows, ths⟩) (s := begun I inp) (s' := begun ⟨I.lv, I.boxes, I.rows, ths⟩ inp) (i := i) (T := Ti) rfl (by show (I.ths.map _).length = (ths.map _).length; rw [List.length_map, List.length_map]; omega)
              ((hbeg I hT).trans (hbeg ⟨I.lv, I.boxes, I.rows, ths⟩ hTi').symm) hT hTi' (fun c hc => by have := List.all_eq_true.mp ha c hc; simpa using this) 60).2
            have lm : (begun I inp).ths.length = m := by
              show (I.ths.map _).length = m
              rw [List.length_map]
              exact hm
            rw [lm, ← hrec] at alone
            obtain ⟨rc2, hrec2⟩ : ∃ r, r = recs ⟨I.lv, I.boxes, I.rows, ths⟩ (begun ⟨I.lv, I.boxes, I.rows, ths⟩ inp) 60 := ⟨_, rfl⟩
            rw [← hrec2] at X15 XLN alone
            have GB := GA.same s15
            have UB := UA.ts (Ts.same s15)
            walk_at "lc"
            refine ⟨rx, rc2, i, m, rfl, X15, by omega, by omega, by omega, fun H16 ry s16 Y16 => ?_⟩
            rw [← alone] at Y16
            have GD := GB.same s16
            have UD := UB.ts (Ts.same s16)
            have shp := rec_shaped DOK
            walk_at "lc"
            refine ⟨_, _, dp_rec Y16, dp_rec UD, shp, shp, ?_⟩
            rw [SeqAt.eqv_refl _ (SeqAt.canLay_of_shaped shp)]
            walk_at "lc"
            exact ⟨⟨_, _, _, _, _, _, rfl⟩, GD⟩
  · obtain ⟨⟨t6, t7, t8, t9, t10, t11, rfl⟩, G6⟩ := h
    walk_at "lc"
    refine ⟨ia, na, I, inp, rfl, G6.im, G6.ip, O, by omega, by omega, by rw [N.len]; exact Nat.le_trans O.lv.2 (by decide), fun H7 lw A L7 s7 np nF => ?_⟩
    walk_at "lc"
    refine rd_lst ?_
    walk_at "lc"
    refine ⟨Nat.zero_le _, fun f0 hf => ?_⟩
    walk_at "lc"
    have R0 := Lr.begin L7 s7 np nF hf
    generalize upd H7 f0 (.lst []) = H8 at R0
    have nlw := G6.dl.new np
    refine rd_whileF (fun σ H' => ∃ n f, (∃ t14, σ = [some (.ref sc), some (.ref d), some (.ref ia), some (.ref na), some (.int (m : Nat)), some (.ref ra), t6, t7, t8, t9, t10, t11, some (.ref lw), some (.ref f), t14, none, none, none, none]) ∧ Lr H6 H' lw f A I inp n ∧ Ran I (begun I inp) 90 n) (fun σ H9 h => ?_) (fun fin => ?_)
    · obtain ⟨n, f, ⟨t14, rfl⟩, R, hran⟩ := h
      have hn90 := hran.le
      have hS := (begun_ok O N).stt O n
      have hw := R.hw
      have hth := R.at_.wd.th
      walk_at "lc"
      refine lc_filt (wkL hth) (stt I (begun I inp) n).ths (fun o => if o.isSome = true then some () else none) (fun _ _ _ => True) (fun _ _ _ _ _ h => h) thv_len (by rw [thv_len, hS.tl]; omega) (fun j x y H' N' M' hx hy sm kN kM => ?_) (fun D acc H10 hD sm e fa => ?_)
      · obtain ⟨hj, ex⟩ := thv_get hx
        walk_at "lc"
        refine ⟨wipe1 (by decide), ?_⟩
        cases y with
        | none =>
          rw [show tht (stt I (begun I inp) n) j = none by unfold tht; rw [List.getD_eq_getElem?_getD, hy]; rfl] at ex
          have ex' : x = V.non := ex
          subst ex'
          walk_at "lc"
          refine by_test (fun h => absurd h (by decide)) (fun _ => ?_)
          exact kM _ rfl (Same.refl _)
        | some u =>
          rw [tht_of hy] at ex
          have ex' : x = V.ref (A (.thr j)) := ex
          subst ex'
          walk_at "lc"
          refine by_test (fun _ => ?_) (fun h => absurd h (by simp))
          walk_at "lc"
          exact kN () _ _ rfl (Same.refl _) trivial
      · refine rd_eqL e fun c hc => ?_
        have ev : acc.isEmpty = over (stt I (begun I inp) n) := by rw [isEmpty_len fa.1, told_all]; rfl
        rw [ev]
        have R1 := (R.same sm).same (same_new (o := .lst []) hc)
        generalize upd H10 c (.lst []) = H11 at R1
        have G1 := G6.same R1.sm
        have hw1 := R1.hw
        obtain ⟨fs, hf1, hfr⟩ := R1.rcd
        have nf1 := G6.dl.new R1.nf
        have FOK := recs_ok O N n (by omega)
        have FLN := recs_len I (begun I inp) n
        have PS := pair_shows (n := n) FOK (by omega) (by omega)
        walk_at "lc"
        refine rd_forL ?_
        refine rd_lst ?_
        walk_at "lc"
        refine ⟨d, p, 91, rfl, G1.dl, by decide, by decide, fun H12 r hr D12 k12 => ?_⟩
        have G2 := G1.draw k12 D12
        have hw2 := kd_at k12 hw1 nlw
        have hf2 := kd_at k12 hf1 nf1
        have hfr2 := hfr.imp fun _ _ => RecAt.ts (G1.dl.ts k12)
        walk_at "lc"
        refine ⟨_, _, rfl, ?_⟩
        rw [max0_nat]
        walk_at "lc"
        refine ⟨(by show 3 ≤ sizeLine; decide), fun l hl => ?_⟩
        have sl : Same H12 (upd H12 l (.lst [.int (r : Nat), .int (n : Nat), .int ((n - 1 : Nat) : Int)])) := same_new hl
        have hl1 : upd H12 l (.lst [.int (r : Nat), .int (n : Nat), .int ((n - 1 : Nat) : Int)]) l = some (.lst [.int (r : Nat), .int (n : Nat), .int ((n - 1 : Nat) : Int)]) := upd_same
        have G3 := G2.same sl
        have hw3 := sl _ _ hw2
        have hf3 := sl _ _ hf2
        have hfr3 := hfr2.imp fun _ _ => RecAt.ts (Ts.same sl)
        generalize upd H12 l (.lst [.int (r : Nat), .int (n : Nat), .int ((n - 1 : Nat) : Int)]) = H13 at hl1 G3 hw3 hf3 hfr3
        refine rd_itL hl1 ?_
        refine for_wkL hl1 (fun _ σ H' => (∃ t7 t16, σ = [some (.ref sc), some (.ref d), some (.ref ia), some (.ref na), some (.int (m : Nat)), some (.ref ra), t6, t7, t8, t9, t10, t11, some (.ref lw), some (.ref f), t14, some (.bl (over (stt I (begun I inp) n))), t16, none, none]) ∧ Gd H' d p ia na ra I inp rc60 ∧ H' lw = some (.lst [.int (n : Nat), .ref (A .bx), .ref (A .rw), .ref (A .sm), .ref (A .th)]) ∧ H' f = some (.lst fs) ∧ F2 (RecAt H') fs (recs I (begun I inp) n) ∧ H' l = some (.lst [.int (r : Nat), .int (n : Nat), .int ((n - 1 : Nat) : Int)]))
          ⟨⟨_, _, rfl⟩, G3, hw3, hf3, hfr3, hl1⟩ (fun _ σ H' h => h.2.2.2.2.2) (fun j x σ H14 hx h => ?_) (fun σ H14 h => ?_)
        · obtain ⟨⟨t7, t16, rfl⟩, G4, hw4, hf4, hfr4, hl4⟩ := h
          obtain ⟨mo, rfl, hmo⟩ : ∃ mo : Nat, x = .int (mo : Nat) ∧ mo ≤ 90 := by
            match j, hx with
            | 0, hx =>
              cases hx
              exact ⟨r, rfl, by omega⟩
            | 1, hx =>
              cases hx
              exact ⟨n, rfl, hn90⟩
            | 2, hx =>
              cases hx
              exact ⟨n - 1, rfl, by omega⟩
            | j + 3, hx =>
              have h3 : j + 3 < 3 := (List.getElem?_eq_some_iff.mp hx).1
              omega
          have none_ : ∀ (H' : Hp), Same H14 H' → (over (stt I (begun I inp) n) && decide (n ≤ mo)) = false → Gd H' d p ia na ra I inp rc60 ∧ H' lw = some (.lst [.int (n : Nat), .ref (A .bx), .ref (A .rw), .ref (A .sm), .ref (A .th)]) ∧ H' f = some (.lst fs) ∧ F2 (RecAt H') fs (recs I (begun I inp) n) ∧ H' l = some (.lst [.int (r : Nat), .int (n : Nat), .int ((n - 1 : Nat) : Int)]) := fun H' s' _ =>
            ⟨G4.same s', s' _ _ hw4, s' _ _ hf4, hfr4.imp fun _ _ => RecAt.ts (Ts.same s'), s' _ _ hl4⟩
          cases ho : over (stt I (begun I inp) n) with
          | false =>
            walk_at "lc"
            refine rd_callk ?_
            walk_at "lc"
            refine ⟨ia, na, I, inp, mo, rfl, G4.im, G4.ip, O, N, by omega, by omega, by omega, fun Hw n' sw hran' => ?_⟩
            obtain ⟨c1, c2⟩ := ran_same hran hran' hmo
            rw [ho] at c1
            refine ⟨fun ho' => ?_, fun _ => ?_⟩
            · rw [ho'] at c1
              cases c1
            · walk_at "lc"
              refine rd_reprN ?_
              walk_at "lc"
              refine rd_reprN ?_
              refine rd_nesame ?_
              walk_at "lc"
              exact ⟨⟨_, _, rfl⟩, none_ _ sw (by rw [ho]; rfl)⟩
          | true =>
            walk_at "lc"
            refine by_test (fun h => ?_) (fun h => ?_)
            · have hnm : n ≤ mo := by have := of_decide_eq_true h; omega
              refine rd_tup ?_
              walk_at "lc"
              refine rd_tupleL hf4 fun fb hfb => ?_
              have sb : Same H14 (upd H14 fb (.tup fs)) := same_new hfb
              have hw5 := sb _ _ hw4
              have rb5 : RecT (upd H14 fb (.tup fs)) fb (recs I (begun I inp) n) := ⟨fs, upd_same, hfr4.imp fun _ _ => RecAt.ts (Ts.same sb)⟩
              generalize upd H14 fb (.tup fs) = H15 at sb hw5 rb5
              walk_at "lc"
              refine ⟨(by show 2 ≤ sizeLine; decide), fun du hdu => ?_⟩
              have sd := sb.trans (same_new (o := .tup [.ref fb, .int (n : Nat)]) hdu)
              have hdu1 : upd H15 du (.tup [.ref fb, .int (n : Nat)]) du = some (.tup [.ref fb, .int (n : Nat)]) := upd_same
              have rb6 := rb5.ts (ts_new (o := .tup [.ref fb, .int (n : Nat)]) hdu)
              generalize upd H15 du (.tup [.ref fb, .int (n : Nat)]) = H16 at sd hdu1 rb6
              have G5' := G4.same sd
              walk_at "lc"
              refine rd_callk ?_
              walk_at "lc"
              refine ⟨ia, na, I, inp, mo, rfl, G5'.im, G5'.ip, O, N, by omega, by omega, by omega, fun Hw n' sw hran' => ?_⟩
              obtain ⟨c1, c2⟩ := ran_same hran hran' hmo
              rw [ho, decide_eq_true hnm] at c1
              refine ⟨fun ho' a b ha hb => ?_, fun ho' => ?_⟩
              · obtain rfl : n' = n := c2 ho'
                walk_at "lc"
                refine rd_repr (dp_pair ha hb) PS ?_
                walk_at "lc"
                refine rd_repr (dp_pair (sw _ _ hdu1) (rb6.ts (Ts.same sw))) PS ?_
                refine rd_nesame ?_
                walk_at "lc"
                have sx := sd.trans sw
                exact ⟨⟨_, _, rfl⟩, G4.same sx, sx _ _ hw4, sx _ _ hf4, hfr4.imp fun _ _ => RecAt.ts (Ts.same sx), sx _ _ hl4⟩
              · rw [ho'] at c1
                cases c1
            · have hnm : ¬ n ≤ mo := fun z => of_decide_eq_false h (by omega)
              walk_at "lc"
              refine rd_callk ?_
              walk_at "lc"
              refine ⟨ia, na, I, inp, mo, rfl, G4.im, G4.ip, O, N, by omega, by omega, by omega, fun Hw n' sw hran' => ?_⟩
              obtain ⟨c1, c2⟩ := ran_same hran hran' hmo
              rw [decide_eq_false hnm, Bool.and_false] at c1
              refine ⟨fun ho' => ?_, fun _ => ?_⟩
              · rw [ho'] at c1
                cases c1
              · walk_at "lc"
                refine rd_reprN ?_
                walk_at "lc"
                refine rd_reprN ?_
                refine rd_nesame ?_
                walk_at "lc"
                exact ⟨⟨_, _, rfl⟩, none_ _ sw (by rw [decide_eq_false hnm, Bool.and_false])⟩
        · obtain ⟨⟨t7, t16, rfl⟩, _⟩ := h
          walk_at "lc"
          exact q _
    · refine rd_while (fun m' σ H' => ∃ n f, m' = 90 - n ∧ n ≤ 90 ∧ (∀ k, k < n → over (stt I (begun I inp) k) = false) ∧ (∃ t14, σ = [some (.ref sc), some (.ref d), some (.ref ia), some (.ref na), some (.int (m : Nat)), some (.ref ra), t6, t7, t8, t9, t10, t11, some (.ref lw), some (.ref f), t14, none, none, none, none]) ∧ Lr H6 H' lw f A I inp n) ⟨90, 0, f0, rfl, by decide, fun k h => absurd h (Nat.not_lt_zero _), ⟨none, rfl⟩, R0⟩ (fun m' σ H9 h => ?_)
      obtain ⟨n, f, rfl, hle, hno, ⟨t14, rfl⟩, R⟩ := h
      have hS := (begun_ok O N).stt O n
      have hw := R.hw
      have hth := R.at_.wd.th
      walk_at "lc"
      refine by_test (fun h => ?_) (fun h => ?_)
      · have hlt : n < 90 := by have := of_decide_eq_true h; omega
        walk_at "lc"
        refine lc_filt (wkL hth) (stt I (begun I inp) n).ths (fun o => if o.isSome = true then some () else none) (fun _ _ _ => True) (fun _ _ _ _ _ h => h) thv_len (by rw [thv_len, hS.tl]; omega) (fun j x y H' N' M' hx hy sm kN kM => ?_) (fun D acc H10 hD sm e fa => ?_)
        · obtain ⟨hj, ex⟩ := thv_get hx
          walk_at "lc"
          refine ⟨wipe1 (by decide), ?_⟩
          cases y with
          | none =>
            rw [show tht (stt I (begun I inp) n) j = none by unfold tht; rw [List.getD_eq_getElem?_getD, hy]; rfl] at ex
            have ex' : x = V.non := ex
            subst ex'
            walk_at "lc"
            refine by_test (fun h => absurd h (by decide)) (fun _ => ?_)
            exact kM _ rfl (Same.refl _)
          | some u =>
            rw [tht_of hy] at ex
            have ex' : x = V.ref (A (.thr j)) := ex
            subst ex'
            walk_at "lc"
            refine by_test (fun _ => ?_) (fun h => absurd h (by simp))
            walk_at "lc"
            exact kN () _ _ rfl (Same.refl _) trivial
        · refine rd_neL e fun c hc => ?_
          have ev : acc.isEmpty = over (stt I (begun I inp) n) := by rw [isEmpty_len fa.1, told_all]; rfl
          rw [ev]
          have R1 := (R.same sm).same (same_new (o := .lst []) hc)
          generalize upd H10 c (.lst []) = H11 at R1
          cases ho : over (stt I (begun I inp) n) with
          | true =>
            with_reducible refine rd_bool ?_
            with_reducible refine rd_ntrue ?_
            exact fin _ _ ⟨n, f, ⟨_, rfl⟩, R1, hle, hno, .inr ho⟩
          | false =>
            have hw1 := R1.hw
            walk_at "lc"
            refine ⟨fun σ H' => ∃ f, (∃ t14, σ = [some (.ref sc), some (.ref d), some (.ref ia), some (.ref na), some (.int (m : Nat)), some (.ref ra), t6, t7, t8, t9, t10, t11, some (.ref lw), some (.ref f), t14, none, none, none, none]) ∧ Lr H6 H' lw f A I inp (n + 1), fun σ' H' h => ?_, ?_⟩
            · obtain ⟨f', e', R'⟩ := h
              refine ⟨90 - (n + 1), by omega, n + 1, f', rfl, hlt, fun k hk => ?_, e', R'⟩
              by_cases ek : k = n
              · rw [ek]
                exact ho
              · exact hno k (by omega)
            · have tk : (stt I (begun I inp) n).tick ≤ 1000 := by
                rw [stt_tick]
                show 0 + n ≤ 1000
                omega
              walk_at "lc"
              refine ⟨ia, lw, A, I, stt I (begun I inp) n, rfl, R1.at_, (G6.same R1.sm).im, O, hS, tk, fun H12 dd L12 D12 k12 => ?_⟩
              obtain ⟨s12, t12, xs, hf12, hr12⟩ := R1.mid O N k12
              obtain ⟨dv, hd12, hdv⟩ := D12
              walk_at "lc"
              refine lc_all (wkL hd12) (step I (stt I (begun I inp) n)).2.toList (fun H v d => RecAt H v (n, d)) (fun _ _ _ _ t h => h.ts t) hdv.1 (by rw [hdv.1]; cases (step I (stt I (begun I inp) n)).2 <;> simp) (fun j x y H' N' hx hy sm kN => ?_) (fun D acc H13 hD sm e fa => ?_)
              · obtain ⟨xa, rfl, hxa⟩ := hdv.2 j x y hx hy
                walk_at "lc"
                refine ⟨wipe1 (by decide), ?_⟩
                refine rd_tup ?_
                walk_at "lc"
                refine ⟨(by show 2 ≤ sizeLine; decide), fun c hc => ?_⟩
                exact kN _ _ (same_new hc) ⟨c, xa, rfl, upd_same, same_new hc _ _ (sm _ _ hxa)⟩
              · have hf13 := sm _ _ hf12
                have l1 := recs_len I (begun I inp) n
                have l2 : acc.length ≤ 1 := by rw [fa.1]; cases (step I (stt I (begun I inp) n)).2 <;> simp
                refine rd_cat hf13 e (Nat.le_trans (show xs.length + acc.length ≤ 2000 by rw [hr12.1]; omega) (by decide)) fun g hg => ?_
                walk_at "lc"
                exact ⟨g, ⟨_, rfl⟩, R1.next O N k12 L12 sm (hr12.imp fun _ _ => RecAt.ts (Ts.same sm)) fa.map_r hg⟩
      · have hge : n = 90 := by have := of_decide_eq_false h; omega
        refine rd_falsei ?_
        exact fin _ _ ⟨n, f, ⟨_, rfl⟩, R, hle, hno, .inl hge⟩
end
end Lk
/-! The law's promise at the heap behind the top, and what the top has written. -/
namespace Lk
open PySem PySem.Spec PyProof.Rows L2
theorem law_at {P : Program} {w : World} {K : PySem.W.Frag} {mg mb : Str → Option Value} {fa a : Addr} {fd : FuncData} {x : Str} {sp : Sp} {s₁ : Shared} {vs : List Value} {ns : List Int}
    (inK : K.In s₁.heap) (mains : s₁.heap.Ns mainGlobals mg) (blts : s₁.heap.Ns builtinsNs mb) (same_ : ∀ y : Str, y ≠ "__name__" → mb y = bootBuiltins y) (limit : s₁.heap.NoLimit) (nogen : s₁.gens = #[])
    (here : s₁.heap.get? a = some { cls := .type "list", data := .seq vs.toArray }) (numb : IntsAre vs ns) (short : ns.length ≤ sizeLine)
    (F : ∀ base : Heap, K.In base → base.Ns mainGlobals mg → FnA P w K mg base fa fd x sp) (binds : ∀ (s : Shared) (u : Value), BindsTo s fd ⟨[u], []⟩ [(x, u)])
    (ask : ∀ H : Hp, SqL K H a (ns.map V.int) → sp [.ref a] H (fun v _ => v = .bl true) fun _ _ _ => False) :
    codeAny (model P w) callerA (.call (.ref fa) ⟨[.ref a], []⟩) (fun r s' => r = .ok (.ret (.bool true)) ∧ OldK s₁.heap s'.heap ∧ s'.os = s₁.os ∧ AllBare s'.gens) s₁ := by
  have script := vals_ints numb
  have nlen := numb.length
  obtain ⟨lm, lm1, lm2⟩ := limit
  have go : ∀ H : Hp, (∀ b u, H b = some u → b = a ∧ ∃ ob xs, u = .frz ob (.lst xs)) → SqL K H a (ns.map V.int) → HOk P w H s₁.heap → (∀ u, H a = some u → K.lookup a = none) →
      codeAny (model P w) callerA (.call (.ref fa) ⟨[.ref a], []⟩) (fun r s' => r = .ok (.ret (.bool true)) ∧ OldK s₁.heap s'.heap ∧ s'.os = s₁.os ∧ AllBare s'.gens) s₁ := by
    intro H seen there okay out
    have gone : ∀ b, b ≠ a → H b = none := fun b n => by
      cases z : H b with
      | none => rfl
      | some u => exact absurd (seen b u z).1 n
    have table : ∀ {b : Addr} {m : Str → Option Value}, s₁.heap.Ns b m → (hidT s₁.heap H).Ns b m := by
      intro b m T
      obtain ⟨o, es, ep, place, data, rest⟩ := T
      refine ⟨o, es, ep, hidT_get place ?_, data, rest⟩
      by_cases same : b = a
      · rw [same, here] at place
        cases place
        cases (show Data.seq vs.toArray _ = Data.dict es ep from data)
      · exact gone b same
    have inBase : K.In (hidT s₁.heap H) := by
      intro b o look
      refine hidT_get (inK b o look) ?_
      cases z : H b with
      | none => rfl
      | some u =>
        obtain ⟨rfl, _⟩ := seen b u z
        rw [out u z] at look
        cases look
    have env : Env0 P w K mg (hidT s₁.heap H) callerA [] s₁ H :=
      { frames := rfl, mod := ⟨inBase, table mains, ⟨mb, table blts, same_⟩, lm, table lm1, lm2⟩, bs := fun b o e => of_hidT e, bsz := Nat.le_of_eq (hidT_size _ _), funs := trivial
        frf := fun b h => absurd (show b ∈ ([] : List Addr) from h) List.not_mem_nil, hok := okay, bare := .of_eq nogen }
    refine codeAny_mono (F _ inBase (table mains) s₁ H (.ref a) (.ref a) _ _ env (binds s₁ (.ref a)) rfl (ask H there)) fun r s' came => ?_
    match r, came with
    | .error e, came => exact False.elim came
    | .ok .next, came => exact False.elim came
    | .ok .brk, came => exact False.elim came
    | .ok .cont, came => exact False.elim came
    | .ok (.ret u), came =>
      obtain ⟨v, G, os, bare, un, okay2, rel, val⟩ := came
      obtain rfl : v = .bl true := val
      obtain rfl : u = Value.bool true := rel
      refine ⟨rfl, OldK.of_keep fun b o e => ?_, os, bare⟩
      cases z : H b with
      | none => exact un.keep b o e z (fun y => absurd (show b ∈ ([] : List Addr) from y) List.not_mem_nil) (fun y => absurd y List.not_mem_nil)
      | some u =>
        obtain ⟨_, ob, xs, rfl⟩ := seen b u z
        have one := (okay b _ z).1
        have two := (okay2 b _ (un.frzs b ob _ z)).1
        rw [e] at one
        cases one
        exact two
  cases known : K.lookup a with
  | some o =>
    have same := inK a o known
    rw [here] at same
    cases same
    refine go (fun _ => none) (fun b u z => nomatch z) (.inr ⟨_, vs.toArray, _, known, rfl, rfl, rfl, ?_, ?_⟩) (fun b u z => nomatch z) (fun u z => nomatch z)
    · rw [List.size_toArray, nlen]
      exact short
    · simpa using script
  | none =>
    have at_ : ∀ {b : Addr} {u : HO}, (if b = a then some (HO.frz { cls := .type "list", data := .seq vs.toArray } (.lst (ns.map V.int))) else none) = some u → b = a ∧ u = .frz { cls := .type "list", data := .seq vs.toArray } (.lst (ns.map V.int)) := fun {b u} z => by
      by_cases same : b = a
      · rw [if_pos same] at z
        exact ⟨same, (Option.some.inj z).symm⟩
      · rw [if_neg same] at z
        cases z
    refine go (fun b => if b = a then some (.frz { cls := .type "list", data := .seq vs.toArray } (.lst (ns.map V.int))) else none) (fun b u z => ?_) (.inl (.inr ⟨_, if_pos rfl⟩)) (fun b u z => ?_) fun _ _ => known
    · obtain ⟨h1, h2⟩ := at_ z
      exact ⟨h1, _, _, h2⟩
    · obtain ⟨h1, h2⟩ := at_ z
      subst h1 h2
      exact ⟨here, by rw [List.length_map]; exact short, vs, _, script, here⟩
theorem law_walk {l : PySem.W.OpenLaw} {q : Program} {loose : List Str} {XP : (Str → Option Value) → Heap → Prop} {YP : World → Heap → Prop} {d : DefRec} {K : Params → PySem.W.Frag} (hn : l.most = some 63) (hdf : d.params.defaults = [])
    (inK : ∀ (w : World) (h : Heap), YP w h → (K w.params).In h)
    (F : ∀ (w : World) (mg : Str → Option Value) (fa : Addr) (h : Heap), (K w.params).In h → h.Ns mainGlobals mg → mg d.name = some (.ref fa) →
      ∃ fd : FuncData, (∀ (s : Shared) (u : Value), BindsTo s fd ⟨[u], []⟩ [("_law_script", u)]) ∧ ∀ base : Heap, (K w.params).In base → base.Ns mainGlobals mg → FnA l.prog w (K w.params) mg base fa fd "_law_script" (spLaw (K w.params))) :
    PySem.W.WalkO q loose XP YP l.row.toRowW d [] (fun f vs => PySem.call f vs) := by
  refine Att.attach_call hn hdf fun w s₀ s₁ mg mb fa o pm cd doc a vs ns G Y _ _ _ named there numb size nogen => ?_
  have known := inK w _ Y
  obtain ⟨fd, binds, made⟩ := F w mg fa _ known G.T.g named
  exact law_at known G.T.g G.T.b G.T.builtins G.T.nolimit nogen there numb (Nat.le_trans size (by decide)) made binds fun H has => ⟨a, ns, rfl, has, size, fun _ => rfl⟩
theorem all_mk {l : PySem.W.OpenLaw} {w : World} {K : PySem.W.Frag} {h : Heap} {mg : Str → Option Value} {fa C aO f0 f1 f2 f3 f4 f5 f6 f7 f8 f9 f10 f11 f12 f13 f14 f15 f16 f17 f18 f19 f20 f21 f22 f23 f24 f25 f26 f27 f28 f29 f30 f31 f32 f33 : Addr} (X : K.In h) (G : h.Ns mainGlobals mg) (hfa : mg "law" = some (.ref fa))
    {od0 an0 od1 an1 od2 an2 od3 an3 od4 an4 od5 an5 od6 an6 od7 an7 od8 an8 od9 an9 od10 an10 od11 an11 od12 an12 od13 an13 od14 an14 od15 an15 od16 an16 od17 an17 od18 an18 od19 an19 od20 an20 od21 an21 od22 an22 od23 an23 od24 an24 od25 an25 od26 an26 od27 an27 od28 an28 od29 an29 od30 an30 od31 an31 od32 an32 od33 an33 : Option Addr} {sl0 sl1 sl2 sl3 sl4 sl5 sl6 sl7 sl8 sl9 sl10 sl11 sl12 sl13 sl14 sl15 sl16 sl17 sl18 sl19 sl20 sl21 sl22 sl23 sl24 sl25 sl26 sl27 sl28 sl29 sl30 sl31 sl32 sl33 : Array (Option Value)} {oc0 kV0 dc0 pm0 cd0 ct0 oc1 kV1 dc1 pm1 cd1 ct1 oc2 kV2 dc2 pm2 cd2 ct2 oc3 kV3 dc3 pm3 cd3 ct3 oc4 kV4 dc4 pm4 cd4 ct4 oc5 kV5 dc5 pm5 cd5 ct5 oc6 kV6 dc6 pm6 cd6 ct6 oc7 kV7 dc7 pm7 cd7 ct7 oc8 kV8 dc8 pm8 cd8 ct8 oc9 kV9 dc9 pm9 cd9 ct9 oc10 kV10 dc10 pm10 cd10 ct10 oc11 kV11 dc11 pm11 cd11 ct11 oc12 kV12 dc12 pm12 cd12 ct12 oc13 kV13 dc13 pm13 cd13 ct13 oc14 kV14 dc14 pm14 cd14 ct14 oc15 kV15 dc15 pm15 cd15 ct15 oc16 kV16 dc16 pm16 cd16 ct16 oc17 kV17 dc17 pm17 cd17 ct17 oc18 kV18 dc18 pm18 cd18 ct18 oc19 kV19 dc19 pm19 cd19 ct19 oc20 kV20 dc20 pm20 cd20 ct20 oc21 kV21 dc21 pm21 cd21 ct21 oc22 kV22 dc22 pm22 cd22 ct22 oc23 kV23 dc23 pm23 cd23 ct23 oc24 kV24 dc24 pm24 cd24 ct24 oc25 kV25 dc25 pm25 cd25 ct25 oc26 kV26 dc26 pm26 cd26 ct26 oc27 kV27 dc27 pm27 cd27 ct27 oc28 kV28 dc28 pm28 cd28 ct28 oc29 kV29 dc29 pm29 cd29 ct29 oc30 kV30 dc30 pm30 cd30 ct30 oc31 kV31 dc31 pm31 cd31 ct31 oc32 kV32 dc32 pm32 cd32 ct32 oc33 kV33 dc33 pm33 cd33 ct33 : Value} {its : Array Value} {nO : Nat} {slO : Array (Option Value)}
    (aC : PySem.W.nsIn K mainGlobals "World" = some (some (.ref C)))
    (a0 : PySem.W.nsIn K mainGlobals "taken" = some (some (.ref f0)))
    (l0 : K.lookup f0 = some ⟨oc0, od0, .func (PySem.W.fnOf "taken" "taken" (defArgs S_taken) (defBody S_taken) (defScope S_taken) .none kV0 dc0 pm0 an0 cd0 ct0), sl0⟩) (c0 : PySem.W.codeIn K cd0 "taken" = true) (k0 : PySem.W.keepIn K (.ref f0) = true)
    (a1 : PySem.W.nsIn K mainGlobals "_law_pop" = some (some (.ref f1)))
    (l1 : K.lookup f1 = some ⟨oc1, od1, .func (PySem.W.fnOf "_law_pop" "_law_pop" (defArgs S_l_pop) (defBody S_l_pop) (defScope S_l_pop) .none kV1 dc1 pm1 an1 cd1 ct1), sl1⟩) (c1 : PySem.W.codeIn K cd1 "_law_pop" = true) (k1 : PySem.W.keepIn K (.ref f1) = true)
    (a2 : PySem.W.nsIn K mainGlobals "by_sums" = some (some (.ref f2)))
    (l2 : K.lookup f2 = some ⟨oc2, od2, .func (PySem.W.fnOf "by_sums" "by_sums" (defArgs S_by_sums) (defBody S_by_sums) (defScope S_by_sums) .none kV2 dc2 pm2 an2 cd2 ct2), sl2⟩) (c2 : PySem.W.codeIn K cd2 "by_sums" = true) (k2 : PySem.W.keepIn K (.ref f2) = true)
    (a3 : PySem.W.nsIn K mainGlobals "by_bits" = some (some (.ref f3)))
    (l3 : K.lookup f3 = some ⟨oc3, od3, .func (PySem.W.fnOf "by_bits" "by_bits" (defArgs S_by_bits) (defBody S_by_bits) (defScope S_by_bits) .none kV3 dc3 pm3 an3 cd3 ct3), sl3⟩) (c3 : PySem.W.codeIn K cd3 "by_bits" = true) (k3 : PySem.W.keepIn K (.ref f3) = true)
    (a4 : PySem.W.nsIn K mainGlobals "word_op" = some (some (.ref f4)))
    (l4 : K.lookup f4 = some ⟨oc4, od4, .func (PySem.W.fnOf "word_op" "word_op" (defArgs S_word_op) (defBody S_word_op) (defScope S_word_op) .none kV4 dc4 pm4 an4 cd4 ct4), sl4⟩) (c4 : PySem.W.codeIn K cd4 "word_op" = true) (k4 : PySem.W.keepIn K (.ref f4) = true)
    (a5 : PySem.W.nsIn K mainGlobals "_law_word_op" = some (some (.ref f5)))
    (l5 : K.lookup f5 = some ⟨oc5, od5, .func (PySem.W.fnOf "_law_word_op" "_law_word_op" (defArgs S_l_word_op) (defBody S_l_word_op) (defScope S_l_word_op) .none kV5 dc5 pm5 an5 cd5 ct5), sl5⟩) (c5 : PySem.W.codeIn K cd5 "_law_word_op" = true) (k5 : PySem.W.keepIn K (.ref f5) = true)
    (a6 : PySem.W.findIn K (.ref C) "own" = some (some (.ref f6))) (i6 : PySem.W.isFn K (.ref f6) = true)
    (l6 : K.lookup f6 = some ⟨oc6, od6, .func (PySem.W.fnOf "own" "World.own" (defArgs S_own) (defBody S_own) (defScope S_own) .none kV6 dc6 pm6 an6 cd6 ct6), sl6⟩) (c6 : PySem.W.codeIn K cd6 "World.own" = true) (k6 : PySem.W.keepIn K (.ref f6) = true)
    (a7 : PySem.W.findIn K (.ref C) "shared" = some (some (.ref f7))) (i7 : PySem.W.isFn K (.ref f7) = true)
    (l7 : K.lookup f7 = some ⟨oc7, od7, .func (PySem.W.fnOf "shared" "World.shared" (defArgs S_shared) (defBody S_shared) (defScope S_shared) .none kV7 dc7 pm7 an7 cd7 ct7), sl7⟩) (c7 : PySem.W.codeIn K cd7 "World.shared" = true) (k7 : PySem.W.keepIn K (.ref f7) = true)
    (a8 : PySem.W.findIn K (.ref C) "plain" = some (some (.ref f8))) (i8 : PySem.W.isFn K (.ref f8) = true)
    (l8 : K.lookup f8 = some ⟨oc8, od8, .func (PySem.W.fnOf "plain" "World.plain" (defArgs S_plain) (defBody S_plain) (defScope S_plain) .none kV8 dc8 pm8 an8 cd8 ct8), sl8⟩) (c8 : PySem.W.codeIn K cd8 "World.plain" = true) (k8 : PySem.W.keepIn K (.ref f8) = true)
    (a9 : PySem.W.findIn K (.ref C) "one_tick" = some (some (.ref f9))) (i9 : PySem.W.isFn K (.ref f9) = true)
    (l9 : K.lookup f9 = some ⟨oc9, od9, .func (PySem.W.fnOf "one_tick" "World.one_tick" (defArgs S_one_tick) (defBody S_one_tick) (defScope S_one_tick) .none kV9 dc9 pm9 an9 cd9 ct9), sl9⟩) (c9 : PySem.W.codeIn K cd9 "World.one_tick" = true) (k9 : PySem.W.keepIn K (.ref f9) = true)
    (a10 : PySem.W.nsIn K mainGlobals "start_state" = some (some (.ref f10)))
    (l10 : K.lookup f10 = some ⟨oc10, od10, .func (PySem.W.fnOf "start_state" "start_state" (defArgs S_start_state) (defBody S_start_state) (defScope S_start_state) .none kV10 dc10 pm10 an10 cd10 ct10), sl10⟩) (c10 : PySem.W.codeIn K cd10 "start_state" = true) (k10 : PySem.W.keepIn K (.ref f10) = true)
    (a11 : PySem.W.findIn K (.ref C) "__init__" = some (some (.ref f11))) (i11 : PySem.W.isFn K (.ref f11) = true)
    (l11 : K.lookup f11 = some ⟨oc11, od11, .func (PySem.W.fnOf "__init__" "World.__init__" (defArgs S_init) (defBody S_init) (defScope S_init) .none kV11 dc11 pm11 an11 cd11 ct11), sl11⟩) (c11 : PySem.W.codeIn K cd11 "World.__init__" = true) (k11 : PySem.W.keepIn K (.ref f11) = true)
    (a12 : PySem.W.nsIn K mainGlobals "is_over" = some (some (.ref f12)))
    (l12 : K.lookup f12 = some ⟨oc12, od12, .func (PySem.W.fnOf "is_over" "is_over" (defArgs S_is_over) (defBody S_is_over) (defScope S_is_over) .none kV12 dc12 pm12 an12 cd12 ct12), sl12⟩) (c12 : PySem.W.codeIn K cd12 "is_over" = true) (k12 : PySem.W.keepIn K (.ref f12) = true)
    (a13 : PySem.W.findIn K (.ref C) "state" = some (some (.ref f13))) (i13 : PySem.W.isFn K (.ref f13) = true)
    (l13 : K.lookup f13 = some ⟨oc13, od13, .func (PySem.W.fnOf "state" "World.state" (defArgs S_state) (defBody S_state) (defScope S_state) .none kV13 dc13 pm13 an13 cd13 ct13), sl13⟩) (c13 : PySem.W.codeIn K cd13 "World.state" = true) (k13 : PySem.W.keepIn K (.ref f13) = true)
    (a14 : PySem.W.nsIn K mainGlobals "thread_deeds" = some (some (.ref f14)))
    (l14 : K.lookup f14 = some ⟨oc14, od14, .func (PySem.W.fnOf "thread_deeds" "thread_deeds" (defArgs S_thread_deeds) (defBody S_thread_deeds) (defScope S_thread_deeds) .none kV14 dc14 pm14 an14 cd14 ct14), sl14⟩) (c14 : PySem.W.codeIn K cd14 "thread_deeds" = true) (k14 : PySem.W.keepIn K (.ref f14) = true)
    (a15 : PySem.W.nsIn K mainGlobals "advance" = some (some (.ref f15)))
    (l15 : K.lookup f15 = some ⟨oc15, od15, .func (PySem.W.fnOf "advance" "advance" (defArgs S_advance) (defBody S_advance) (defScope S_advance) .none kV15 dc15 pm15 an15 cd15 ct15), sl15⟩) (c15 : PySem.W.codeIn K cd15 "advance" = true) (k15 : PySem.W.keepIn K (.ref f15) = true)
    (a16 : PySem.W.nsIn K mainGlobals "run_image" = some (some (.ref f16)))
    (l16 : K.lookup f16 = some ⟨oc16, od16, .func (PySem.W.fnOf "run_image" "run_image" (defArgs S_run_image) (defBody S_run_image) (defScope S_run_image) .none kV16 dc16 pm16 an16 cd16 ct16), sl16⟩) (c16 : PySem.W.codeIn K cd16 "run_image" = true) (k16 : PySem.W.keepIn K (.ref f16) = true)
    (a17 : PySem.W.nsIn K mainGlobals "whole_run" = some (some (.ref f17)))
    (l17 : K.lookup f17 = some ⟨oc17, od17, .func (PySem.W.fnOf "whole_run" "whole_run" (defArgs S_whole_run) (defBody S_whole_run) (defScope S_whole_run) .none kV17 dc17 pm17 an17 cd17 ct17), sl17⟩) (c17 : PySem.W.codeIn K cd17 "whole_run" = true) (k17 : PySem.W.keepIn K (.ref f17) = true)
    (a18 : PySem.W.nsIn K mainGlobals "_law_any" = some (some (.ref f18)))
    (l18 : K.lookup f18 = some ⟨oc18, od18, .func (PySem.W.fnOf "_law_any" "_law_any" (defArgs S_l_any) (defBody S_l_any) (defScope S_l_any) .none kV18 dc18 pm18 an18 cd18 ct18), sl18⟩) (c18 : PySem.W.codeIn K cd18 "_law_any" = true) (k18 : PySem.W.keepIn K (.ref f18) = true)
    (a19 : PySem.W.nsIn K mainGlobals "_law_of" = some (some (.ref f19)))
    (l19 : K.lookup f19 = some ⟨oc19, od19, .func (PySem.W.fnOf "_law_of" "_law_of" (defArgs S_l_of) (defBody S_l_of) (defScope S_l_of) .none kV19 dc19 pm19 an19 cd19 ct19), sl19⟩) (c19 : PySem.W.codeIn K cd19 "_law_of" = true) (k19 : PySem.W.keepIn K (.ref f19) = true)
    (a20 : PySem.W.nsIn K mainGlobals "_law_mixed" = some (some (.ref f20)))
    (l20 : K.lookup f20 = some ⟨oc20, od20, .func (PySem.W.fnOf "_law_mixed" "_law_mixed" (defArgs S_l_mixed) (defBody S_l_mixed) (defScope S_l_mixed) .none kV20 dc20 pm20 an20 cd20 ct20), sl20⟩) (c20 : PySem.W.codeIn K cd20 "_law_mixed" = true) (k20 : PySem.W.keepIn K (.ref f20) = true)
    (a21 : PySem.W.nsIn K mainGlobals "_law_draw" = some (some (.ref f21)))
    (l21 : K.lookup f21 = some ⟨oc21, od21, .func (PySem.W.fnOf "_law_draw" "_law_draw" (defArgs S_l_draw) (defBody S_l_draw) (defScope S_l_draw) .none kV21 dc21 pm21 an21 cd21 ct21), sl21⟩) (c21 : PySem.W.codeIn K cd21 "_law_draw" = true) (k21 : PySem.W.keepIn K (.ref f21) = true)
    (a22 : PySem.W.nsIn K mainGlobals "_law_lot" = some (some (.ref f22)))
    (l22 : K.lookup f22 = some ⟨oc22, od22, .func (PySem.W.fnOf "_law_lot" "_law_lot" (defArgs S_l_lot) (defBody S_l_lot) (defScope S_l_lot) .none kV22 dc22 pm22 an22 cd22 ct22), sl22⟩) (c22 : PySem.W.codeIn K cd22 "_law_lot" = true) (k22 : PySem.W.keepIn K (.ref f22) = true)
    (a23 : PySem.W.nsIn K mainGlobals "_law_closed" = some (some (.ref f23)))
    (l23 : K.lookup f23 = some ⟨oc23, od23, .func (PySem.W.fnOf "_law_closed" "_law_closed" (defArgs S_l_closed) (defBody S_l_closed) (defScope S_l_closed) .none kV23 dc23 pm23 an23 cd23 ct23), sl23⟩) (c23 : PySem.W.codeIn K cd23 "_law_closed" = true) (k23 : PySem.W.keepIn K (.ref f23) = true)
    (a24 : PySem.W.nsIn K mainGlobals "_law_order" = some (some (.ref f24)))
    (l24 : K.lookup f24 = some ⟨oc24, od24, .func (PySem.W.fnOf "_law_order" "_law_order" (defArgs S_l_order) (defBody S_l_order) (defScope S_l_order) .none kV24 dc24 pm24 an24 cd24 ct24), sl24⟩) (c24 : PySem.W.codeIn K cd24 "_law_order" = true) (k24 : PySem.W.keepIn K (.ref f24) = true)
    (a25 : PySem.W.nsIn K mainGlobals "_law_instruction" = some (some (.ref f25)))
    (l25 : K.lookup f25 = some ⟨oc25, od25, .func (PySem.W.fnOf "_law_instruction" "_law_instruction" (defArgs S_l_instruction) (defBody S_l_instruction) (defScope S_l_instruction) .none kV25 dc25 pm25 an25 cd25 ct25), sl25⟩) (c25 : PySem.W.codeIn K cd25 "_law_instruction" = true) (k25 : PySem.W.keepIn K (.ref f25) = true)
    (a26 : PySem.W.nsIn K mainGlobals "_law_inputs" = some (some (.ref f26)))
    (l26 : K.lookup f26 = some ⟨oc26, od26, .func (PySem.W.fnOf "_law_inputs" "_law_inputs" (defArgs S_l_inputs) (defBody S_l_inputs) (defScope S_l_inputs) .none kV26 dc26 pm26 an26 cd26 ct26), sl26⟩) (c26 : PySem.W.codeIn K cd26 "_law_inputs" = true) (k26 : PySem.W.keepIn K (.ref f26) = true)
    (a27 : PySem.W.nsIn K mainGlobals "_law_image" = some (some (.ref f27)))
    (l27 : K.lookup f27 = some ⟨oc27, od27, .func (PySem.W.fnOf "_law_image" "_law_image" (defArgs S_l_image) (defBody S_l_image) (defScope S_l_image) .none kV27 dc27 pm27 an27 cd27 ct27), sl27⟩) (c27 : PySem.W.codeIn K cd27 "_law_image" = true) (k27 : PySem.W.keepIn K (.ref f27) = true)
    (a28 : PySem.W.nsIn K mainGlobals "_law_begin" = some (some (.ref f28)))
    (l28 : K.lookup f28 = some ⟨oc28, od28, .func (PySem.W.fnOf "_law_begin" "_law_begin" (defArgs S_l_begin) (defBody S_l_begin) (defScope S_l_begin) .none kV28 dc28 pm28 an28 cd28 ct28), sl28⟩) (c28 : PySem.W.codeIn K cd28 "_law_begin" = true) (k28 : PySem.W.keepIn K (.ref f28) = true)
    (a29 : PySem.W.nsIn K mainGlobals "_law_hold" = some (some (.ref f29)))
    (l29 : K.lookup f29 = some ⟨oc29, od29, .func (PySem.W.fnOf "_law_hold" "_law_hold" (defArgs S_l_hold) (defBody S_l_hold) (defScope S_l_hold) .none kV29 dc29 pm29 an29 cd29 ct29), sl29⟩) (c29 : PySem.W.codeIn K cd29 "_law_hold" = true) (k29 : PySem.W.keepIn K (.ref f29) = true)
    (a30 : PySem.W.nsIn K mainGlobals "_law_tick" = some (some (.ref f30)))
    (l30 : K.lookup f30 = some ⟨oc30, od30, .func (PySem.W.fnOf "_law_tick" "_law_tick" (defArgs S_l_tick) (defBody S_l_tick) (defScope S_l_tick) .none kV30 dc30 pm30 an30 cd30 ct30), sl30⟩) (c30 : PySem.W.codeIn K cd30 "_law_tick" = true) (k30 : PySem.W.keepIn K (.ref f30) = true)
    (a31 : PySem.W.nsIn K mainGlobals "_law_alone" = some (some (.ref f31)))
    (l31 : K.lookup f31 = some ⟨oc31, od31, .func (PySem.W.fnOf "_law_alone" "_law_alone" (defArgs S_l_alone) (defBody S_l_alone) (defScope S_l_alone) .none kV31 dc31 pm31 an31 cd31 ct31), sl31⟩) (c31 : PySem.W.codeIn K cd31 "_law_alone" = true) (k31 : PySem.W.keepIn K (.ref f31) = true)
    (a32 : PySem.W.nsIn K mainGlobals "_law_run" = some (some (.ref f32)))
    (l32 : K.lookup f32 = some ⟨oc32, od32, .func (PySem.W.fnOf "_law_run" "_law_run" (defArgs S_l_run) (defBody S_l_run) (defScope S_l_run) .none kV32 dc32 pm32 an32 cd32 ct32), sl32⟩) (c32 : PySem.W.codeIn K cd32 "_law_run" = true) (k32 : PySem.W.keepIn K (.ref f32) = true)
    (a33 : PySem.W.nsIn K mainGlobals "law" = some (some (.ref f33)))
    (l33 : K.lookup f33 = some ⟨oc33, od33, .func (PySem.W.fnOf "law" "law" (defArgs S_law) (defBody S_law) (defScope S_law) .none kV33 dc33 pm33 an33 cd33 ct33), sl33⟩) (c33 : PySem.W.codeIn K cd33 "law" = true) (k33 : PySem.W.keepIn K (.ref f33) = true)
    (pg : PySem.W.plainGet K C Str.empty = true) (hd : PySem.W.hasDictIn K C = true) (po : PySem.W.plainOver K C = true) (sa : PySem.W.findIn K (.ref C) "__setattr__" = some (some (.builtin "object.__setattr__"))) (mk : PySem.W.makesIn K C = true) (kc : PySem.W.keepIn K (.ref C) = true)
    (nI : PySem.W.findIn K (.ref C) "image" = some none) (nT : PySem.W.findIn K (.ref C) "tick" = some none) (nB : PySem.W.findIn K (.ref C) "boxes" = some none) (nR : PySem.W.findIn K (.ref C) "rows" = some none) (nS : PySem.W.findIn K (.ref C) "streams" = some none) (nH : PySem.W.findIn K (.ref C) "threads" = some none)
    (z_len : PySem.W.nsIn K mainGlobals "len" = some none) (z_range : PySem.W.nsIn K mainGlobals "range" = some none) (z_list : PySem.W.nsIn K mainGlobals "list" = some none) (z_tuple : PySem.W.nsIn K mainGlobals "tuple" = some none) (z_int : PySem.W.nsIn K mainGlobals "int" = some none) (z_abs : PySem.W.nsIn K mainGlobals "abs" = some none) (z_min : PySem.W.nsIn K mainGlobals "min" = some none) (z_max : PySem.W.nsIn K mainGlobals "max" = some none) (z_sorted : PySem.W.nsIn K mainGlobals "sorted" = some none) (z_repr : PySem.W.nsIn K mainGlobals "repr" = some none) (z_all : PySem.W.nsIn K mainGlobals "all" = some none)
    (aO_ : PySem.W.nsIn K mainGlobals "OPS" = some (some (.ref aO))) (lO : K.lookup aO = some ⟨.type "tuple", none, .seq its nO, slO⟩)
    (zO : its.size ≤ sizeLine) (vO : Vals (opns.map V.str) its.toList) :
    ∃ fd : FuncData, (∀ (s : Shared) (u : Value), BindsTo s fd ⟨[u], []⟩ [("_law_script", u)]) ∧ ∀ base : Heap, K.In base → base.Ns mainGlobals mg → FnA l.prog w K mg base fa fd "_law_script" (spLaw K) := by
  have e := hfa.symm.trans (PySem.W.mg_of X G a33)
  cases e
  have T : Tx mg := ⟨PySem.W.mg_none_of X G z_len, PySem.W.mg_none_of X G z_range, PySem.W.mg_none_of X G z_list, PySem.W.mg_none_of X G z_tuple, PySem.W.mg_none_of X G z_int, PySem.W.mg_none_of X G z_abs, PySem.W.mg_none_of X G z_min, PySem.W.mg_none_of X G z_max, PySem.W.mg_none_of X G z_sorted, PySem.W.mg_none_of X G z_repr, PySem.W.mg_none_of X G z_all⟩
  have wc : Wc K mg C := ⟨⟨pg, hd, po, sa⟩, nI, nT, nB, nR, nS, nH, PySem.W.mg_of X G aC⟩
  have ops : OpsAt K mg aO := ⟨PySem.W.mg_of X G aO_, _, its, nO, lO, rfl, rfl, rfl, zO, vO⟩
  have F0 := fun_mk (st := S_taken) l0 c0 k0
  have b0 := F0.binds (ps := ["words"]) fun _ _ _ _ _ _ us hl => match us, hl with | [_], _ => rfl
  have F1 := fun_mk (st := S_l_pop) l1 c1 k1
  have b1 := F1.binds (ps := ["_law_words"]) fun _ _ _ _ _ _ us hl => match us, hl with | [_], _ => rfl
  have F2 := fun_mk (st := S_by_sums) l2 c2 k2
  have b2 := F2.binds (ps := ["op", "one", "other"]) fun _ _ _ _ _ _ us hl => match us, hl with | [_, _, _], _ => rfl
  have F3 := fun_mk (st := S_by_bits) l3 c3 k3
  have b3 := F3.binds (ps := ["op", "width", "one", "other"]) fun _ _ _ _ _ _ us hl => match us, hl with | [_, _, _, _], _ => rfl
  have F4 := fun_mk (st := S_word_op) l4 c4 k4
  have b4 := F4.binds (ps := ["op", "width", "one", "other"]) fun _ _ _ _ _ _ us hl => match us, hl with | [_, _, _, _], _ => rfl
  have F5 := fun_mk (st := S_l_word_op) l5 c5 k5
  have b5 := F5.binds (ps := ["_law_op", "_law_w", "_law_a", "_law_b"]) fun _ _ _ _ _ _ us hl => match us, hl with | [_, _, _, _], _ => rfl
  have F6 := fun_mk (st := S_own) l6 c6 k6
  have b6 := F6.binds (ps := ["self", "thread", "one", "widths"]) fun _ _ _ _ _ _ us hl => match us, hl with | [_, _, _, _], _ => rfl
  have F7 := fun_mk (st := S_shared) l7 c7 k7
  have b7 := F7.binds (ps := ["self", "stack", "one"]) fun _ _ _ _ _ _ us hl => match us, hl with | [_, _, _], _ => rfl
  have F8 := fun_mk (st := S_plain) l8 c8 k8
  have b8 := F8.binds (ps := ["self", "stack", "one"]) fun _ _ _ _ _ _ us hl => match us, hl with | [_, _, _], _ => rfl
  have F9 := fun_mk (st := S_one_tick) l9 c9 k9
  have b9 := F9.binds (ps := ["self"]) fun _ _ _ _ _ _ us hl => match us, hl with | [_], _ => rfl
  have F10 := fun_mk (st := S_start_state) l10 c10 k10
  have b10 := F10.binds (ps := ["image", "inputs"]) fun _ _ _ _ _ _ us hl => match us, hl with | [_, _], _ => rfl
  have F11 := fun_mk (st := S_init) l11 c11 k11
  have b11 := F11.binds (ps := ["self", "image", "state"]) fun _ _ _ _ _ _ us hl => match us, hl with | [_, _, _], _ => rfl
  have F12 := fun_mk (st := S_is_over) l12 c12 k12
  have b12 := F12.binds (ps := ["state"]) fun _ _ _ _ _ _ us hl => match us, hl with | [_], _ => rfl
  have F13 := fun_mk (st := S_state) l13 c13 k13
  have b13 := F13.binds (ps := ["self"]) fun _ _ _ _ _ _ us hl => match us, hl with | [_], _ => rfl
  have F14 := fun_mk (st := S_thread_deeds) l14 c14 k14
  have b14 := F14.binds (ps := ["record", "thread", "many"]) fun _ _ _ _ _ _ us hl => match us, hl with | [_, _, _], _ => rfl
  have F15 := fun_mk (st := S_advance) l15 c15 k15
  have b15 := F15.binds (ps := ["image", "state", "ticks"]) fun _ _ _ _ _ _ us hl => match us, hl with | [_, _, _], _ => rfl
  have F16 := fun_mk (st := S_run_image) l16 c16 k16
  have b16 := F16.binds (ps := ["image", "inputs", "ticks"]) fun _ _ _ _ _ _ us hl => match us, hl with | [_, _, _], _ => rfl
  have F17 := fun_mk (st := S_whole_run) l17 c17 k17
  have b17 := F17.binds (ps := ["image", "inputs", "most"]) fun _ _ _ _ _ _ us hl => match us, hl with | [_, _, _], _ => rfl
  have F18 := fun_mk (st := S_l_any) l18 c18 k18
  have b18 := F18.binds (ps := ["_law_deal", "_law_bound"]) fun _ _ _ _ _ _ us hl => match us, hl with | [_, _], _ => rfl
  have F19 := fun_mk (st := S_l_of) l19 c19 k19
  have b19 := F19.binds (ps := ["_law_deal", "_law_some"]) fun _ _ _ _ _ _ us hl => match us, hl with | [_, _], _ => rfl
  have F20 := fun_mk (st := S_l_mixed) l20 c20 k20
  have b20 := F20.binds (ps := ["_law_deal", "_law_some"]) fun _ _ _ _ _ _ us hl => match us, hl with | [_, _], _ => rfl
  have F21 := fun_mk (st := S_l_draw) l21 c21 k21
  have b21 := F21.binds (ps := ["_law_script", "_law_salt"]) fun _ _ _ _ _ _ us hl => match us, hl with | [_, _], _ => rfl
  have F22 := fun_mk (st := S_l_lot) l22 c22 k22
  have b22 := F22.binds (ps := ["_law_deal", "_law_many"]) fun _ _ _ _ _ _ us hl => match us, hl with | [_, _], _ => rfl
  have F23 := fun_mk (st := S_l_closed) l23 c23 k23
  have b23 := F23.binds (ps := ["_law_many", "_law_pairs"]) fun _ _ _ _ _ _ us hl => match us, hl with | [_, _], _ => rfl
  have F24 := fun_mk (st := S_l_order) l24 c24 k24
  have b24 := F24.binds (ps := ["_law_deal"]) fun _ _ _ _ _ _ us hl => match us, hl with | [_], _ => rfl
  have F25 := fun_mk (st := S_l_instruction) l25 c25 k25
  have b25 := F25.binds (ps := ["_law_deal", "_law_bounds", "_law_at", "_law_many"]) fun _ _ _ _ _ _ us hl => match us, hl with | [_, _, _, _], _ => rfl
  have F26 := fun_mk (st := S_l_inputs) l26 c26 k26
  have b26 := F26.binds (ps := ["_law_deal", "_law_order_here"]) fun _ _ _ _ _ _ us hl => match us, hl with | [_, _], _ => rfl
  have F27 := fun_mk (st := S_l_image) l27 c27 k27
  have b27 := F27.binds (ps := ["_law_deal"]) fun _ _ _ _ _ _ us hl => match us, hl with | [_], _ => rfl
  have F28 := fun_mk (st := S_l_begin) l28 c28 k28
  have b28 := F28.binds (ps := ["_law_image_here", "_law_inputs_here"]) fun _ _ _ _ _ _ us hl => match us, hl with | [_, _], _ => rfl
  have F29 := fun_mk (st := S_l_hold) l29 c29 k29
  have b29 := F29.binds (ps := ["_law_image_here", "_law_world", "_law_thread", "_law_one", "_law_widths"]) fun _ _ _ _ _ _ us hl => match us, hl with | [_, _, _, _, _], _ => rfl
  have F30 := fun_mk (st := S_l_tick) l30 c30 k30
  have b30 := F30.binds (ps := ["_law_image_here", "_law_world"]) fun _ _ _ _ _ _ us hl => match us, hl with | [_, _], _ => rfl
  have F31 := fun_mk (st := S_l_alone) l31 c31 k31
  have b31 := F31.binds (ps := ["_law_code"]) fun _ _ _ _ _ _ us hl => match us, hl with | [_], _ => rfl
  have F32 := fun_mk (st := S_l_run) l32 c32 k32
  have b32 := F32.binds (ps := ["_law_image_here", "_law_inputs_here", "_law_ticks"]) fun _ _ _ _ _ _ us hl => match us, hl with | [_, _, _], _ => rfl
  have F33 := fun_mk (st := S_law) l33 c33 k33
  refine ⟨PySem.W.fnOf "law" "law" (defArgs S_law) (defBody S_law) (defScope S_law) .none kV33 dc33 pm33 an33 cd33 ct33, fun s u => .of_eq rfl, fun base _ _ => ?_⟩
  have g0 := ok_taken (P := l.prog) (w := w) (mg := mg) (base := base) F0 T
  have c_taken : Cl l.prog w K mg base 1 "taken" ["words"] spPop := ⟨_, _, g0, PySem.W.mg_of X G a0, k0, b0⟩
  have g1 := ok_l_pop (P := l.prog) (w := w) (mg := mg) (base := base) F1 
  have c__law_pop : Cl l.prog w K mg base 1 "_law_pop" ["_law_words"] spPop := ⟨_, _, g1, PySem.W.mg_of X G a1, k1, b1⟩
  have g2 := ok_by_sums (P := l.prog) (w := w) (mg := mg) (base := base) F2 
  have c_by_sums : Cl l.prog w K mg base 1 "by_sums" ["op", "one", "other"] spSums := ⟨_, _, g2, PySem.W.mg_of X G a2, k2, b2⟩
  have g3 := ok_by_bits (P := l.prog) (w := w) (mg := mg) (base := base) F3 
  have c_by_bits : Cl l.prog w K mg base 1 "by_bits" ["op", "width", "one", "other"] spBits := ⟨_, _, g3, PySem.W.mg_of X G a3, k3, b3⟩
  have g4 := ok_word_op (P := l.prog) (w := w) (mg := mg) (base := base) F4 ops c_by_sums c_by_bits
  have c_word_op : Cl l.prog w K mg base 2 "word_op" ["op", "width", "one", "other"] spWop := ⟨_, _, g4, PySem.W.mg_of X G a4, k4, b4⟩
  have g5 := ok_l_word_op (P := l.prog) (w := w) (mg := mg) (base := base) F5 T
  have c__law_word_op : Cl l.prog w K mg base 1 "_law_word_op" ["_law_op", "_law_w", "_law_a", "_law_b"] spWop := ⟨_, _, g5, PySem.W.mg_of X G a5, k5, b5⟩
  have g6 := ok_own (P := l.prog) (w := w) (mg := mg) (base := base) F6 c_taken
  have c_own : Mt l.prog w K mg base 2 C "own" ["self", "thread", "one", "widths"] spOwn := ⟨_, _, wc.cl, ⟨a6, i6, k6⟩, g6, b6⟩
  have g7 := ok_shared (P := l.prog) (w := w) (mg := mg) (base := base) F7 T wc c_taken
  have c_shared : Mt l.prog w K mg base 2 C "shared" ["self", "stack", "one"] (spShared C) := ⟨_, _, wc.cl, ⟨a7, i7, k7⟩, g7, b7⟩
  have g8 := ok_plain (P := l.prog) (w := w) (mg := mg) (base := base) F8 wc c_taken c_word_op
  have c_plain : Mt l.prog w K mg base 3 C "plain" ["self", "stack", "one"] (spPlain C) := ⟨_, _, wc.cl, ⟨a8, i8, k8⟩, g8, b8⟩
  have g9 := ok_one_tick (P := l.prog) (w := w) (mg := mg) (base := base) F9 T wc c_taken c_own c_shared c_plain
  have c_one_tick : Mt l.prog w K mg base 4 C "one_tick" ["self"] (spTick C) := ⟨_, _, wc.cl, ⟨a9, i9, k9⟩, g9, b9⟩
  have g10 := ok_start_state (P := l.prog) (w := w) (mg := mg) (base := base) F10 T
  have c_start_state : Cl l.prog w K mg base 1 "start_state" ["image", "inputs"] spStart := ⟨_, _, g10, PySem.W.mg_of X G a10, k10, b10⟩
  have g11 := ok_init (P := l.prog) (w := w) (mg := mg) (base := base) F11 T wc
  have c_World : Cw l.prog w K mg base C := ⟨_, _, ⟨mk, a11, i11, kc⟩, g11, wc.mgC, b11⟩
  have g12 := ok_is_over (P := l.prog) (w := w) (mg := mg) (base := base) F12 T
  have c_is_over : Cl l.prog w K mg base 1 "is_over" ["state"] spOver := ⟨_, _, g12, PySem.W.mg_of X G a12, k12, b12⟩
  have g13 := ok_state (P := l.prog) (w := w) (mg := mg) (base := base) F13 T wc
  have c_state : Mt l.prog w K mg base 1 C "state" ["self"] (spState C) := ⟨_, _, wc.cl, ⟨a13, i13, k13⟩, g13, b13⟩
  have g14 := ok_thread_deeds (P := l.prog) (w := w) (mg := mg) (base := base) F14 T
  have c_thread_deeds : Cl l.prog w K mg base 1 "thread_deeds" ["record", "thread", "many"] spDeeds := ⟨_, _, g14, PySem.W.mg_of X G a14, k14, b14⟩
  have k_thread_deeds : Clk l.prog w K mg base 1 "thread_deeds" ["record", "thread", "many"] ["many", "thread", "record"] rev3 spDeeds := ⟨_, _, rev3, g14, PySem.W.mg_of X G a14, k14, kb3 rfl fun _ _ _ _ => .of_eq rfl⟩
  have g15 := ok_advance (P := l.prog) (w := w) (mg := mg) (base := base) F15 T wc c_World c_one_tick c_state
  have c_advance : Cl l.prog w K mg base 5 "advance" ["image", "state", "ticks"] spAdvance := ⟨_, _, g15, PySem.W.mg_of X G a15, k15, b15⟩
  have g16 := ok_run_image (P := l.prog) (w := w) (mg := mg) (base := base) F16 T c_advance c_start_state
  have c_run_image : Cl l.prog w K mg base 6 "run_image" ["image", "inputs", "ticks"] spRunI := ⟨_, _, g16, PySem.W.mg_of X G a16, k16, b16⟩
  have g17 := ok_whole_run (P := l.prog) (w := w) (mg := mg) (base := base) F17 T wc c_World c_one_tick c_is_over c_start_state
  have c_whole_run : Cl l.prog w K mg base 5 "whole_run" ["image", "inputs", "most"] spWhole := ⟨_, _, g17, PySem.W.mg_of X G a17, k17, b17⟩
  have k_whole_run : Clk l.prog w K mg base 5 "whole_run" ["image", "inputs", "most"] ["most", "inputs", "image"] rev3 spWhole := ⟨_, _, rev3, g17, PySem.W.mg_of X G a17, k17, kb3 rfl fun _ _ _ _ => .of_eq rfl⟩
  have g18 := ok_l_any (P := l.prog) (w := w) (mg := mg) (base := base) F18 T
  have c__law_any : Cl l.prog w K mg base 1 "_law_any" ["_law_deal", "_law_bound"] spAny := ⟨_, _, g18, PySem.W.mg_of X G a18, k18, b18⟩
  have g19 := ok_l_of (P := l.prog) (w := w) (mg := mg) (base := base) F19 T c__law_any
  have c__law_of : Cl l.prog w K mg base 2 "_law_of" ["_law_deal", "_law_some"] spOf := ⟨_, _, g19, PySem.W.mg_of X G a19, k19, b19⟩
  have g20 := ok_l_mixed (P := l.prog) (w := w) (mg := mg) (base := base) F20 T c__law_any
  have c__law_mixed : Cl l.prog w K mg base 2 "_law_mixed" ["_law_deal", "_law_some"] spMixed := ⟨_, _, g20, PySem.W.mg_of X G a20, k20, b20⟩
  have g21 := ok_l_draw (P := l.prog) (w := w) (mg := mg) (base := base) F21 T
  have c__law_draw : Cl l.prog w K mg base 1 "_law_draw" ["_law_script", "_law_salt"] (spDraw K) := ⟨_, _, g21, PySem.W.mg_of X G a21, k21, b21⟩
  have g22 := ok_l_lot (P := l.prog) (w := w) (mg := mg) (base := base) F22 T c__law_any
  have c__law_lot : Cl l.prog w K mg base 2 "_law_lot" ["_law_deal", "_law_many"] spLot := ⟨_, _, g22, PySem.W.mg_of X G a22, k22, b22⟩
  have g23 := ok_l_closed (P := l.prog) (w := w) (mg := mg) (base := base) F23 T
  have c__law_closed : Cl l.prog w K mg base 1 "_law_closed" ["_law_many", "_law_pairs"] spClosed := ⟨_, _, g23, PySem.W.mg_of X G a23, k23, b23⟩
  have g24 := ok_l_order (P := l.prog) (w := w) (mg := mg) (base := base) F24 T c__law_any c__law_mixed c__law_closed
  have c__law_order : Cl l.prog w K mg base 3 "_law_order" ["_law_deal"] spOrder := ⟨_, _, g24, PySem.W.mg_of X G a24, k24, b24⟩
  have g25 := ok_l_instruction (P := l.prog) (w := w) (mg := mg) (base := base) F25 T c__law_any c__law_of
  have c__law_instruction : Cl l.prog w K mg base 3 "_law_instruction" ["_law_deal", "_law_bounds", "_law_at", "_law_many"] spInstr := ⟨_, _, g25, PySem.W.mg_of X G a25, k25, b25⟩
  have g26 := ok_l_inputs (P := l.prog) (w := w) (mg := mg) (base := base) F26 T c__law_any
  have c__law_inputs : Cl l.prog w K mg base 2 "_law_inputs" ["_law_deal", "_law_order_here"] spInputs := ⟨_, _, g26, PySem.W.mg_of X G a26, k26, b26⟩
  have g27 := ok_l_image (P := l.prog) (w := w) (mg := mg) (base := base) F27 T c__law_any c__law_of c__law_lot c__law_order c__law_instruction
  have c__law_image : Cl l.prog w K mg base 4 "_law_image" ["_law_deal"] spImage := ⟨_, _, g27, PySem.W.mg_of X G a27, k27, b27⟩
  have g28 := ok_l_begin (P := l.prog) (w := w) (mg := mg) (base := base) F28 T
  have c__law_begin : Cl l.prog w K mg base 1 "_law_begin" ["_law_image_here", "_law_inputs_here"] spBegin := ⟨_, _, g28, PySem.W.mg_of X G a28, k28, b28⟩
  have g29 := ok_l_hold (P := l.prog) (w := w) (mg := mg) (base := base) F29 T c__law_pop
  have c__law_hold : Cl l.prog w K mg base 2 "_law_hold" ["_law_image_here", "_law_world", "_law_thread", "_law_one", "_law_widths"] spHold := ⟨_, _, g29, PySem.W.mg_of X G a29, k29, b29⟩
  have g30 := ok_l_tick (P := l.prog) (w := w) (mg := mg) (base := base) F30 T c__law_pop c__law_word_op c__law_hold
  have c__law_tick : Cl l.prog w K mg base 3 "_law_tick" ["_law_image_here", "_law_world"] spLTick := ⟨_, _, g30, PySem.W.mg_of X G a30, k30, b30⟩
  have g31 := ok_l_alone (P := l.prog) (w := w) (mg := mg) (base := base) F31 T
  have c__law_alone : Cl l.prog w K mg base 1 "_law_alone" ["_law_code"] spAlone := ⟨_, _, g31, PySem.W.mg_of X G a31, k31, b31⟩
  have g32 := ok_l_run (P := l.prog) (w := w) (mg := mg) (base := base) F32 T c__law_begin c__law_tick
  have c__law_run : Cl l.prog w K mg base 4 "_law_run" ["_law_image_here", "_law_inputs_here", "_law_ticks"] spLRun := ⟨_, _, g32, PySem.W.mg_of X G a32, k32, b32⟩
  exact ok_law F33 T c__law_draw c__law_image c__law_inputs c_run_image c__law_run c_thread_deeds k_thread_deeds c__law_any c__law_alone c__law_begin c__law_tick k_whole_run
end Lk
open PySem PySem.W PyProof.Rows
set_option maxRecDepth 100000 in
set_option maxHeartbeats 0 in
theorem PySem.Challenge.cw_lookalike_k39_whole_slots_and_whole_runs_holds : PySem.Challenge.rw_lookalike_k39_whole_slots_and_whole_runs.Holds := by
  w_on; o_law; k_head; (case hw => w_witness2)
  k_fill
  refine Lk.law_walk (l := PySem.Challenge.rw_lookalike_k39_whole_slots_and_whole_runs) rfl rfl (fun w h Y => PySem.W.kIn_of Y) ?F
  case F =>
    intro w mg fa h KX G hmg
    refine' Lk.all_mk KX G hmg ?aC ?a0 ?l0 ?c0 ?k0 ?a1 ?l1 ?c1 ?k1 ?a2 ?l2 ?c2 ?k2 ?a3 ?l3 ?c3 ?k3 ?a4 ?l4 ?c4 ?k4 ?a5 ?l5 ?c5 ?k5 ?a6 ?i6 ?l6 ?c6 ?k6 ?a7 ?i7 ?l7 ?c7 ?k7 ?a8 ?i8 ?l8 ?c8 ?k8 ?a9 ?i9 ?l9 ?c9 ?k9 ?a10 ?l10 ?c10 ?k10 ?a11 ?i11 ?l11 ?c11 ?k11 ?a12 ?l12 ?c12 ?k12 ?a13 ?i13 ?l13 ?c13 ?k13 ?a14 ?l14 ?c14 ?k14 ?a15 ?l15 ?c15 ?k15 ?a16 ?l16 ?c16 ?k16 ?a17 ?l17 ?c17 ?k17 ?a18 ?l18 ?c18 ?k18 ?a19 ?l19 ?c19 ?k19 ?a20 ?l20 ?c20 ?k20 ?a21 ?l21 ?c21 ?k21 ?a22 ?l22 ?c22 ?k22 ?a23 ?l23 ?c23 ?k23 ?a24 ?l24 ?c24 ?k24 ?a25 ?l25 ?c25 ?k25 ?a26 ?l26 ?c26 ?k26 ?a27 ?l27 ?c27 ?k27 ?a28 ?l28 ?c28 ?k28 ?a29 ?l29 ?c29 ?k29 ?a30 ?l30 ?c30 ?k30 ?a31 ?l31 ?c31 ?k31 ?a32 ?l32 ?c32 ?k32 ?a33 ?l33 ?c33 ?k33 ?pg ?hd ?po ?sa ?mk ?kc ?nI ?nT ?nB ?nR ?nS ?nH ?z_len ?z_range ?z_list ?z_tuple ?z_int ?z_abs ?z_min ?z_max ?z_sorted ?z_repr ?z_all ?aO_ ?lO ?zO ?vO
    (case aC => k_is)
    (case a0 => k_is)
    (case l0 => k_is)
    (case c0 => k_is)
    (case k0 => k_is)
    (case a1 => k_is)
    (case l1 => k_is)
    (case c1 => k_is)
    (case k1 => k_is)
    (case a2 => k_is)
    (case l2 => k_is)
    (case c2 => k_is)
    (case k2 => k_is)
    (case a3 => k_is)
    (case l3 => k_is)
    (case c3 => k_is)
    (case k3 => k_is)
    (case a4 => k_is)
    (case l4 => k_is)
    (case c4 => k_is)
    (case k4 => k_is)
    (case a5 => k_is)
    (case l5 => k_is)
    (case c5 => k_is)
    (case k5 => k_is)
    (case a6 => k_is)
    (case i6 => k_is)
    (case l6 => k_is)
    (case c6 => k_is)
    (case k6 => k_is)
    (case a7 => k_is)
    (case i7 => k_is)
    (case l7 => k_is)
    (case c7 => k_is)
    (case k7 => k_is)
    (case a8 => k_is)
    (case i8 => k_is)
    (case l8 => k_is)
    (case c8 => k_is)
    (case k8 => k_is)
    (case a9 => k_is)
    (case i9 => k_is)
    (case l9 => k_is)
    (case c9 => k_is)
    (case k9 => k_is)
    (case a10 => k_is)
    (case l10 => k_is)
    (case c10 => k_is)
    (case k10 => k_is)
    (case a11 => k_is)
    (case i11 => k_is)
    (case l11 => k_is)
    (case c11 => k_is)
    (case k11 => k_is)
    (case a12 => k_is)
    (case l12 => k_is)
    (case c12 => k_is)
    (case k12 => k_is)
    (case a13 => k_is)
    (case i13 => k_is)
    (case l13 => k_is)
    (case c13 => k_is)
    (case k13 => k_is)
    (case a14 => k_is)
    (case l14 => k_is)
    (case c14 => k_is)
    (case k14 => k_is)
    (case a15 => k_is)
    (case l15 => k_is)
    (case c15 => k_is)
    (case k15 => k_is)
    (case a16 => k_is)
    (case l16 => k_is)
    (case c16 => k_is)
    (case k16 => k_is)
    (case a17 => k_is)
    (case l17 => k_is)
    (case c17 => k_is)
    (case k17 => k_is)
    (case a18 => k_is)
    (case l18 => k_is)
    (case c18 => k_is)
    (case k18 => k_is)
    (case a19 => k_is)
    (case l19 => k_is)
    (case c19 => k_is)
    (case k19 => k_is)
    (case a20 => k_is)
    (case l20 => k_is)
    (case c20 => k_is)
    (case k20 => k_is)
    (case a21 => k_is)
    (case l21 => k_is)
    (case c21 => k_is)
    (case k21 => k_is)
    (case a22 => k_is)
    (case l22 => k_is)
    (case c22 => k_is)
    (case k22 => k_is)
    (case a23 => k_is)
    (case l23 => k_is)
    (case c23 => k_is)
    (case k23 => k_is)
    (case a24 => k_is)
    (case l24 => k_is)
    (case c24 => k_is)
    (case k24 => k_is)
    (case a25 => k_is)
    (case l25 => k_is)
    (case c25 => k_is)
    (case k25 => k_is)
    (case a26 => k_is)
    (case l26 => k_is)
    (case c26 => k_is)
    (case k26 => k_is)
    (case a27 => k_is)
    (case l27 => k_is)
    (case c27 => k_is)
    (case k27 => k_is)
    (case a28 => k_is)
    (case l28 => k_is)
    (case c28 => k_is)
    (case k28 => k_is)
    (case a29 => k_is)
    (case l29 => k_is)
    (case c29 => k_is)
    (case k29 => k_is)
    (case a30 => k_is)
    (case l30 => k_is)
    (case c30 => k_is)
    (case k30 => k_is)
    (case a31 => k_is)
    (case l31 => k_is)
    (case c31 => k_is)
    (case k31 => k_is)
    (case a32 => k_is)
    (case l32 => k_is)
    (case c32 => k_is)
    (case k32 => k_is)
    (case a33 => k_is)
    (case l33 => k_is)
    (case c33 => k_is)
    (case k33 => k_is)
    (case pg => k_is)
    (case hd => k_is)
    (case po => k_is)
    (case sa => k_is)
    (case mk => k_is)
    (case kc => k_is)
    (case nI => k_is)
    (case nT => k_is)
    (case nB => k_is)
    (case nR => k_is)
    (case nS => k_is)
    (case nH => k_is)
    (case z_len => k_is)
    (case z_range => k_is)
    (case z_list => k_is)
    (case z_tuple => k_is)
    (case z_int => k_is)
    (case z_abs => k_is)
    (case z_min => k_is)
    (case z_max => k_is)
    (case z_sorted => k_is)
    (case z_repr => k_is)
    (case z_all => k_is)
    (case aO_ => k_is)
    (case lO => k_is)
    (case zO => decide)
    (case vO => exact .cons ⟨_, rfl⟩ (.cons ⟨_, rfl⟩ (.cons ⟨_, rfl⟩ (.cons ⟨_, rfl⟩ (.cons ⟨_, rfl⟩ (.cons ⟨_, rfl⟩ (.cons ⟨_, rfl⟩ (.cons ⟨_, rfl⟩ (.cons ⟨_, rfl⟩ (.cons ⟨_, rfl⟩ (.cons ⟨_, rfl⟩ (.cons ⟨_, rfl⟩ (.nil)))))))))))))
