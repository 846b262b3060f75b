import PyProof.Rows.All
import Wide.All
import OpenK.AllK
import Wide.FinOn
import HandS.ForMost
import HandS.Walk
import KE.GoesEnum
import PyProof.ReprRoads
import PyProof.ReprLen
import HandS.ForExc
import HandS.AnyAll
import HandS.Defaults
import HandS.Zip
import HandS.TupAny
import HandS.Conv
import HandS.WrittenGet
import HandS.Deep
import HandS.Evl
import PySem.Challenge.RW_railshut_k07_layouts_led
import HandS.Steps
import KE.OsGo
import KE.KExcSuper
import KE.KSuper
import HandS.ForSpec
import HandS.WordsExc
import HandS.Dict
import HandS.NoneIn
import HandS.SortRule
import HandS.EndBits
import HandS.EndTab
import HandS.Head2
import HandS.HeadHook4
section
set_option autoImplicit false
set_option linter.all false
/-! The plain law: poses, pieces, ends, layouts, islands. No program in sight. -/
namespace Rk

/-! ### positions and poses -/
structure P4 where
  a : Int
  b : Int
  c : Int
  d : Int
  deriving DecidableEq
structure Po where
  a : Int
  b : Int
  c : Int
  d : Int
  h : Int
  deriving DecidableEq
def P4.l (p : P4) : List Int := [p.a, p.b, p.c, p.d]
def Po.l (p : Po) : List Int := [p.a, p.b, p.c, p.d, p.h]
def Po.pos (p : Po) : P4 := ⟨p.a, p.b, p.c, p.d⟩
theorem P4.l_inj {p q : P4} (e : p.l = q.l) : p = q := by
  obtain ⟨a, b, c, d⟩ := p
  obtain ⟨a', b', c', d'⟩ := q
  simp only [P4.l, List.cons.injEq, and_true] at e
  obtain ⟨rfl, rfl, rfl, rfl⟩ := e
  rfl
theorem Po.l_inj {p q : Po} (e : p.l = q.l) : p = q := by
  obtain ⟨a, b, c, d, h⟩ := p
  obtain ⟨a', b', c', d', h'⟩ := q
  simp only [Po.l, List.cons.injEq, and_true] at e
  obtain ⟨rfl, rfl, rfl, rfl, rfl⟩ := e
  rfl
/-- so many steps further in a direction -/
def mv (p : P4) (dir n : Int) : P4 := match (dir % 8).toNat with
  | 0 => { p with a := p.a + n }
  | 1 => { p with b := p.b + n }
  | 2 => { p with c := p.c + n }
  | 3 => { p with d := p.d + n }
  | 4 => { p with a := p.a - n }
  | 5 => { p with b := p.b - n }
  | 6 => { p with c := p.c - n }
  | _ => { p with d := p.d - n }
theorem eight (z : Int) : z % 8 = 0 ∨ z % 8 = 1 ∨ z % 8 = 2 ∨ z % 8 = 3 ∨ z % 8 = 4 ∨ z % 8 = 5 ∨ z % 8 = 6 ∨ z % 8 = 7 := by omega
theorem mv_mod {p : P4} {d e n : Int} (h : d % 8 = e % 8) : mv p d n = mv p e n := by
  unfold mv
  rw [h]
theorem mv_zero (p : P4) (d : Int) : mv p d 0 = p := by
  obtain ⟨a, b, c, e⟩ := p
  unfold mv
  rcases eight d with q | q | q | q | q | q | q | q <;> rw [q] <;> simp
/-- a position turned -/
def rot (q : P4) (e : Int) : P4 := mv (mv (mv (mv ⟨0, 0, 0, 0⟩ (0 + e) q.a) (1 + e) q.b) (2 + e) q.c) (3 + e) q.d
/-- the first i of its four steps -/
def tn (q : P4) (e : Int) : Nat → P4
  | 0 => ⟨0, 0, 0, 0⟩
  | i + 1 => mv (tn q e i) ((i : Int) + e) (q.l.getD i 0)
theorem tn_four (q : P4) (e : Int) : tn q e 4 = rot q e := rfl
theorem mv_add (p : P4) (d n : Int) : List.zipWith (· + ·) p.l (mv ⟨0, 0, 0, 0⟩ d n).l = (mv p d n).l := by
  obtain ⟨a, b, c, e⟩ := p
  unfold mv
  rcases eight d with q | q | q | q | q | q | q | q <;> rw [q] <;> simp [P4.l] <;> omega
theorem rot_mod {q : P4} {d e : Int} (h : d % 8 = e % 8) : rot q d = rot q e := by
  unfold rot
  rw [mv_mod (show (0 + d) % 8 = (0 + e) % 8 by omega), mv_mod (show (1 + d) % 8 = (1 + e) % 8 by omega), mv_mod (show (2 + d) % 8 = (2 + e) % 8 by omega), mv_mod (show (3 + d) % 8 = (3 + e) % 8 by omega)]
def laid (p q : Po) : Po := ⟨p.a + (rot q.pos p.h).a, p.b + (rot q.pos p.h).b, p.c + (rot q.pos p.h).c, p.d + (rot q.pos p.h).d, (p.h + q.h) % 8⟩
def back (p : Po) : Po := ⟨p.a, p.b, p.c, p.d, (p.h + 4) % 8⟩
theorem laid_back (p : Po) : laid p ⟨0, 0, 0, 0, 4⟩ = back p := by
  have e : rot (Po.pos ⟨0, 0, 0, 0, 4⟩) p.h = ⟨0, 0, 0, 0⟩ := by
    unfold rot Po.pos
    simp only [mv_zero]
  unfold laid back
  rw [e]
  simp

/-! ### letters, kinds -/
inductive Lt where
  | S | H | L | R
  deriving DecidableEq
inductive Kd where
  | S | H | C | P | Q | X
  deriving DecidableEq
def Lt.cp : Lt → Nat
  | .S => 83
  | .H => 72
  | .L => 76
  | .R => 82
def Kd.cp : Kd → Nat
  | .S => 83
  | .H => 72
  | .C => 67
  | .P => 80
  | .Q => 81
  | .X => 88
def AH : Po := ⟨2, 0, 0, 0, 0⟩
def HF : Po := ⟨1, 0, 0, 0, 0⟩
def LF : Po := ⟨0, 0, 2, -2, 1⟩
def RT : Po := ⟨0, 2, -2, 0, 7⟩
def X2 : Po := ⟨1, 0, 1, 0, 2⟩
def X3 : Po := ⟨1, 0, -1, 0, 6⟩
def leadP : Lt → Po
  | .S => AH
  | .H => HF
  | .L => LF
  | .R => RT
/-- the pose behind a piece -/
def stp (p : Po) (l : Lt) : Po := laid p (leadP l)
/-- the same, as the law reckons it -/
def ledP (p : Po) : Lt → P4
  | .S => mv p.pos p.h 2
  | .H => mv p.pos p.h 1
  | .L => mv (mv p.pos (p.h + 2) 2) (p.h + 7) 2
  | .R => mv (mv p.pos (p.h + 1) 2) (p.h + 6) 2
def ledH (p : Po) : Lt → Int
  | .S => p.h
  | .H => p.h
  | .L => p.h + 1
  | .R => p.h + 7
def led (p : Po) (l : Lt) : Po := ⟨(ledP p l).a, (ledP p l).b, (ledP p l).c, (ledP p l).d, ledH p l % 8⟩
theorem led_eq (p : Po) (l : Lt) : led p l = stp p l := by
  obtain ⟨a, b, c, d, h⟩ := p
  have key : ∀ k : Int, h % 8 = k % 8 → ((ledP ⟨a, b, c, d, k⟩ l) = ⟨a + (rot (leadP l).pos k).a, b + (rot (leadP l).pos k).b, c + (rot (leadP l).pos k).c, d + (rot (leadP l).pos k).d⟩) → led ⟨a, b, c, d, h⟩ l = stp ⟨a, b, c, d, h⟩ l := by
    intro k hk e
    have e1 : ledP ⟨a, b, c, d, h⟩ l = ledP ⟨a, b, c, d, k⟩ l := by
      cases l with
      | S => exact mv_mod hk
      | H => exact mv_mod hk
      | L =>
        show mv (mv _ (h + 2) 2) (h + 7) 2 = mv (mv _ (k + 2) 2) (k + 7) 2
        rw [mv_mod (show (h + 2) % 8 = (k + 2) % 8 by omega), mv_mod (show (h + 7) % 8 = (k + 7) % 8 by omega)]
        rfl
      | R =>
        show mv (mv _ (h + 1) 2) (h + 6) 2 = mv (mv _ (k + 1) 2) (k + 6) 2
        rw [mv_mod (show (h + 1) % 8 = (k + 1) % 8 by omega), mv_mod (show (h + 6) % 8 = (k + 6) % 8 by omega)]
        rfl
    unfold led stp laid
    rw [e1, e]
    show (⟨_, _, _, _, _⟩ : Po) = ⟨a + (rot (leadP l).pos h).a, b + (rot (leadP l).pos h).b, c + (rot (leadP l).pos h).c, d + (rot (leadP l).pos h).d, (h + (leadP l).h) % 8⟩
    rw [rot_mod hk]
    have eh : ledH ⟨a, b, c, d, h⟩ l = h + (leadP l).h := by
      cases l <;> simp [ledH, leadP, AH, HF, LF, RT]
    rw [eh]
  rcases eight h with q | q | q | q | q | q | q | q
  · exact key 0 q (by cases l <;> simp [ledP, leadP, rot, mv, Po.pos, AH, HF, LF, RT] <;> omega)
  · exact key 1 q (by cases l <;> simp [ledP, leadP, rot, mv, Po.pos, AH, HF, LF, RT] <;> omega)
  · exact key 2 q (by cases l <;> simp [ledP, leadP, rot, mv, Po.pos, AH, HF, LF, RT] <;> omega)
  · exact key 3 q (by cases l <;> simp [ledP, leadP, rot, mv, Po.pos, AH, HF, LF, RT] <;> omega)
  · exact key 4 q (by cases l <;> simp [ledP, leadP, rot, mv, Po.pos, AH, HF, LF, RT] <;> omega)
  · exact key 5 q (by cases l <;> simp [ledP, leadP, rot, mv, Po.pos, AH, HF, LF, RT] <;> omega)
  · exact key 6 q (by cases l <;> simp [ledP, leadP, rot, mv, Po.pos, AH, HF, LF, RT] <;> omega)
  · exact key 7 q (by cases l <;> simp [ledP, leadP, rot, mv, Po.pos, AH, HF, LF, RT] <;> omega)

/-! ### pieces, ends -/
abbrev Pc : Type := Kd × Po
abbrev Lay : Type := List (Option Pc)
def others : Kd → List Po
  | .S => [AH]
  | .H => [HF]
  | .C => [LF]
  | .P => [AH, LF]
  | .Q => [AH, RT]
  | .X => [AH, X2, X3]
def endsOf (k : Kd) (p : Po) : List Po := back p :: (others k).map (laid p)
def endRows : Kd → List Lt
  | .S => [.S]
  | .H => [.H]
  | .C => [.L]
  | .P => [.S, .L]
  | .Q => [.S, .R]
  | .X => []
theorem ends_led (k : Kd) (h : k ≠ .X) (p : Po) : back p :: (endRows k).map (stp p) = endsOf k p := by
  cases k <;> first | rfl | exact absurd rfl h
def srcs (k : Kd) : List Po := ⟨0, 0, 0, 0, 4⟩ :: others k
theorem ends_srcs (k : Kd) (p : Po) : (srcs k).map (laid p) = endsOf k p := by
  unfold srcs endsOf
  rw [List.map_cons, laid_back]
theorem back_home : back ⟨0, 0, 0, 0, 0⟩ = ⟨0, 0, 0, 0, 4⟩ := by decide
theorem ends_len (k : Kd) (p : Po) : (endsOf k p).length ≤ 4 ∧ 2 ≤ (endsOf k p).length := by
  cases k <;> simp [endsOf, others]
/-- all ends of a layout whose first piece has the number n -/
def allFrom : Nat → Lay → List (Nat × Nat × Po)
  | _, [] => []
  | n, none :: r => allFrom (n + 1) r
  | n, some pc :: r => ((endsOf pc.1 pc.2).zipIdx.map fun q => (n, q.2, q.1)) ++ allFrom (n + 1) r
def allEnds (y : Lay) : List (Nat × Nat × Po) := allFrom 0 y
def poses (y : Lay) : List Po := (allEnds y).map (·.2.2)
def pcPoses (l : List Pc) : List Po := l.flatMap fun pc => endsOf pc.1 pc.2
theorem zip_map {α β : Type} (f : α → β) (l : List α) : (l.zipIdx.map fun q => f q.1) = l.map f := by
  have e : (l.zipIdx.map fun q => f q.1) = (l.zipIdx.map Prod.fst).map f := by rw [List.map_map]; rfl
  rw [e, List.zipIdx_map_fst]
end Rk
end
section
set_option Elab.async false
set_option linter.all false
set_option maxRecDepth 100000
set_option maxHeartbeats 4000000
/-! Own rules over the hand layer: enumerate of a tuple; repr of data. -/
namespace Rk
open PySem PySem.Spec PyProof.Rows L2

/-! ### enumerate(t), t a tuple -/
theorem newEnumT (t : Addr) (items : Array Value) :
    Meets (Builtin.«enumerate.__new__» ⟨[.type "enumerate", .ref t], []⟩) (fun _ R s => s.heap.IsTuple t items ∧
      R (.ok (.ret (.ref (s.heap.push { cls := .type "tuple_iterator", data := .fields #[.ref t, .int 0 0] }).objs.size)))
        { s with heap := (s.heap.push { cls := .type "tuple_iterator", data := .fields #[.ref t, .int 0 0] }).push { cls := .type "enumerate", data := .fields #[.none, .bool false, .ref s.heap.objs.size, rawInt 0, .none, .none] } }) :=
  .of_wp fun prog w A R s h => by
    obtain ⟨hp, g, d, tk, os⟩ := s
    obtain ⟨h1, h⟩ := h
    have hsub := sub_enumerate
    have q1 : ∀ {A' : Around} {E : Value → Shared → Prop} {Q : Value → Shared → Prop}, Q (.ref hp.objs.size) ⟨hp.push { cls := .type "tuple_iterator", data := .fields #[.ref t, .int 0 0] }, g, d, tk, os⟩ → wpAny (model prog w) A' (pyIter (.ref t)) Q E ⟨hp, g, d, tk, os⟩ :=
      fun q => (begins_tuple t items).iter prog w _ _ ⟨hp, g, d, tk, os⟩ _ h1 q
    obtain ⟨ot, hot, hct, nt, hdt⟩ := id h1
    obtain ⟨c0, d0, t0, s0⟩ := ot
    simp only at hct hdt
    subst hct hdt
    wp_walk using AutoSeq1.wpAny_loadPart' hot, q1
    refine wpAny_stack_any fun st => wpAny_pure ?_
    split
    · rename_i c _ _ _ _ _
      cases (c == Value.type "enumerate")
      · wp_walk using AutoSeq1.wpAny_loadPart' hot, q1
        exact ⟨_, rfl, h⟩
      · wp_walk using AutoSeq1.wpAny_loadPart' hot, q1
        exact ⟨_, rfl, h⟩
    · wp_walk using AutoSeq1.wpAny_loadPart' hot, q1
      exact ⟨_, rfl, h⟩
section
variable {prog : Program} {w : World} {A : Around} {E : Value → Shared → Prop} {s : Shared}
theorem callEnumT {t : Addr} {items : Array Value} {Q : Value → Shared → Prop} (hT : s.heap.IsTuple t items)
    (h : ∀ h', IsEnum h' (s.heap.objs.size + 1) s.heap.objs.size 0 .none → h'.IsTupleIter s.heap.objs.size t 0 → (∀ b o, s.heap.get? b = some o → h'.get? b = some o) → Q (.ref (s.heap.objs.size + 1)) { s with heap := h' }) :
    wpAny (model prog w) A (call (.type "enumerate") [.ref t]) Q E s := by
  refine callType_new F.called_enumerate (by decide) (F.typeCall_enumerate_1 _) (F.newCall_enumerate_1 _) (fun obj => F.args_object_init_2 obj _) F.entry_enumerate_new (newEnumT t items) ⟨hT, ?_⟩
  have hz : (s.heap.push { cls := .type "tuple_iterator", data := .fields #[.ref t, .int 0 0] }).objs.size = s.heap.objs.size + 1 := Heap.size_push ..
  show _ ∧ _
  rw [hz]
  have he : ((s.heap.push { cls := .type "tuple_iterator", data := .fields #[.ref t, .int 0 0] }).push { cls := .type "enumerate", data := .fields #[.none, .bool false, .ref s.heap.objs.size, rawInt 0, .none, .none] }).get? (s.heap.objs.size + 1) =
      some { cls := .type "enumerate", data := .fields #[.none, .bool false, .ref s.heap.objs.size, rawInt 0, .none, .none] } := by
    rw [← hz]
    exact Heap.get?_push_size _ rfl
  exact ⟨⟨_, he, rfl⟩, h _ he ⟨_, Heap.get?_push_of_some _ (Heap.get?_push_size _ rfl), rfl, rfl⟩ fun b o x => Heap.get?_push_of_some _ (Heap.get?_push_of_some _ x)⟩
end
/-- the tuple at a, each item in a new pair with its place -/
def IeT (K : PySem.W.Frag) (a : Addr) : It :=
  ⟨fun i H => ∃ (xs : List V) (x : V), SqT K H a xs ∧ xs[i]? = some x, fun i H v H' => ∃ T x, v = .ref T ∧ H T = none ∧ H' = upd H T (.tup [.int (i : Nat), x]) ∧ ∀ xs, SqT K H a xs → xs[i]? = some x, fun i H => ∃ xs : List V, SqT K H a xs ∧ xs.length ≤ i⟩
theorem turnEnumT {P : Program} {w : World} {K : PySem.W.Frag} {elts : List Expr} {kk : Nat} {tpos : Pos} (a e it : Addr) :
    Turn P w K (.Tuple elts kk tpos) (IeT K a) [e, it] e (fun i h => (∃ old, IsEnum h e it ((i : Nat) : Int) old) ∧ h.IsTupleIter it a i ∧ e ≠ it ∧ a ≠ it ∧ a ≠ e) where
  mem := List.mem_cons_self
  obj := fun i h st b hb => by
    obtain ⟨⟨old, he⟩, ⟨o, ho, hc, hd⟩, _⟩ := st
    rcases List.mem_cons.mp hb with z | z
    · subst z
      exact ⟨_, he, fun v q => nomatch q⟩
    · rw [List.mem_singleton.mp z]
      exact ⟨o, ho, fun v q => by rw [hd] at q; cases q⟩
  keep := fun i h h' st k => by
    obtain ⟨⟨old, he⟩, hi, hne⟩ := st
    exact ⟨⟨old, k e (by simp) _ he⟩, hi.at fun o q => k it (by simp) o q, hne⟩
  item := by
    intro X hP hw hK hc i pins s σ H E I hf st hg
    subst hP hw hK
    obtain ⟨⟨old, he⟩, hit, hne, hai, hae⟩ := st
    obtain ⟨xs, x, hq, hx⟩ := hg
    obtain ⟨its, rv, p, hz⟩ := I.tuple hq
    obtain ⟨u, hu, ru⟩ := rv.get hx
    have hel : e < s.heap.objs.size := Heap.lt_size he
    have hil : it < s.heap.objs.size := by
      obtain ⟨_, q, _⟩ := hit
      exact Heap.lt_size q
    have hlt : i < its.toArray.size := by
      obtain ⟨z, _⟩ := List.getElem?_eq_some_iff.mp hu
      simpa using z
    refine wpAny_pyNext_enum_itemD (Draws.tuple (A := X.A.in1) (I.ok.hd hc) it a hai its.toArray) he ⟨hit, p⟩ hlt hne (by simp [hne, Ne.symm hae]) fun y h' tk hy ho st' hT hsz hk => ?_
    have ey : y = u := by
      have z : its.toArray[i]? = some u := by simpa using hu
      exact Option.some.inj (hy.symm.trans z)
    subst ey
    refine ⟨_, rfl, wpAny_letOwnedTupleGo_enum (s := { s with heap := h', toks := tk + 1 }) ho fun h'' he' sb => ?_⟩
    have hT2 : h''.get? s.heap.objs.size = some { cls := .type "tuple", data := .seq #[.int i tk, y] } := (sb.2 _ (Nat.ne_of_gt hel)).trans hT
    have new : ObjOk X.prog X.w (upd H s.heap.objs.size (.tup [.int (i : Nat), x])) h'' s.heap.objs.size (.tup [.int (i : Nat), x]) :=
      ⟨by show 2 ≤ sizeLine; decide, [.int i tk, y], .cons ⟨_, rfl⟩ (.cons ru .nil), ⟨_, hT2, rfl, _, rfl⟩⟩
    have I1 : Inv X pins σ (upd H s.heap.objs.size (.tup [.int (i : Nat), x])) { s with heap := h'', toks := tk + 1 } :=
      I.turnedNew (ch := [e, it]) (fun b ob hb q => (sb.2 b (fun z => hb (by simp [z]))).trans (hk b ob (fun z => hb (by simp [z])) (fun z => hb (by simp [z])) q)) hf (Nat.le_refl _) new
    refine ⟨.ref s.heap.objs.size, _, I1, rfl, ⟨_, x, rfl, I.hok.fresh (Nat.le_refl _), rfl, fun ys hy => by rw [I.tuple_inj hy hq]; exact hx⟩, ⟨⟨y, ?_⟩, st'.1.at fun o q => (sb.2 it (Ne.symm hne)).trans q, hne, hai, hae⟩, fun b hb => ?_⟩
    · have e1 : ((i + 1 : Nat) : Int) = (i : Int) + 1 := by omega
      rw [e1]
      exact he'
    · have hb' : b < s.heap.objs.size := by
        rcases List.mem_cons.mp hb with z | z
        · rw [z]; exact hel
        · rw [List.mem_singleton.mp z]; exact hil
      rw [upd_ne (Nat.ne_of_lt hb')]
      exact (hf b hb).1
  done := by
    intro X hP hw hK hc i pins s σ H E I hf st hg
    subst hP hw hK
    obtain ⟨⟨old, he⟩, hit, hne, hai, hae⟩ := st
    obtain ⟨xs, hq, hx⟩ := hg
    obtain ⟨its, rv, p, hz⟩ := I.tuple hq
    obtain ⟨f0, f1, f2, f3, f4, f5⟩ := hf it (by simp)
    have hl := rv.length
    have hT : s.TypeIs (.ref e) "enumerate" := ⟨_, he, rfl⟩
    unfold pyNext
    refine wpAny_bind (wpAny_attempt (wpAny_callSpecial?_slot (name := Str.ofString "__next__") hT F.slot_enumerate_next
      (wpAny_call_entry F.slot_enumerate_next hT F.entry_enumerate_next ?_ (F.args_enumerate_next_1 _))))
    show wpAny _ _ (field (.ref e) 2 >>= _) _ _ _
    refine wpAny_bind (wpAny_field he rfl (x := .ref it) rfl ?_)
    refine wpAny_bind (wpAny_nextOf_tuple_end (I.ok.hd hc) hit p (by simp; omega) fun h' x he' hx' => ?_)
    obtain ⟨o, ho, hco⟩ := hx'
    refine wpAny_bind (wpAny_isInstance (T := "StopIteration") (b := true) ⟨o, ho, hco⟩ isSubtype_stop ?_)
    exact wpAny_pure ⟨rfl, I.turned (t' := s.toks) (fun b o hb q => he' b o hb q) f0 f1 f3 f4 f5⟩
  self := fun A i s Q E st h => by
    obtain ⟨⟨_, he⟩, _⟩ := st
    exact wpAny_pyIter_enum he h
def iEnumT (K : PySem.W.Frag) (ta : TA) : TI := fun σ H R => ta σ H fun vs H1 => ∃ a xs, vs = [.ref a] ∧ SqT K H1 a xs ∧ R (IeT K a) H1
theorem pi_enumT {X : Cx} {e : Expr} {ta : TA} {p pos tpos : Pos} {elts : List Expr} {kk : Nat} (hg : Gl X "enumerate") (hm : X.mg "enumerate" = none) (ha : PA X [e] ta) (hs : starEach [e] X.env = [(false, eval e X.env)] := by rfl) :
    PI X (.Tuple elts kk tpos) (.Call (.Name "enumerate" p) [e] [] pos) (iEnumT X.K ta) := by
  refine ⟨fun pins s σ H R I h => ?_⟩
  refine Call_ (ld_blt I hg hm boot_enumerate (PyProof.Rows.callWith_type1 (thn (ha.run pos pins s σ H _ I h) fun us s1 ⟨vs, H1, I1, r1, q1⟩ => ?_) hs rfl))
  obtain ⟨a, xs, ex, hq, q⟩ := q1
  subst ex
  cases r1 with
  | cons r rr =>
    cases rr
    cases r
    obtain ⟨its, rv, p', hz⟩ := I1.tuple hq
    have hal : a < s1.heap.objs.size := by
      obtain ⟨o, ho, _⟩ := id p'
      exact Heap.lt_size ho
    refine callEnumT (show s1.heap.IsTuple a its.toArray from p') fun h' he hit hk => wpAny_pyIter_enum he ?_
    have I2 : Inv X pins σ H1 { s1 with heap := h' } := I1.kept (t' := s1.toks) hk
    refine ⟨s1.heap.objs.size + 1, [s1.heap.objs.size + 1, s1.heap.objs.size], _, _, H1, rfl, I2, turnEnumT a (s1.heap.objs.size + 1) s1.heap.objs.size, ⟨⟨.none, he⟩, hit, Nat.succ_ne_self _, Nat.ne_of_lt hal, Nat.ne_of_lt (Nat.lt_succ_of_lt hal)⟩, fun b hb => ?_, q⟩
    have hle : s1.heap.objs.size ≤ b := by
      rcases List.mem_cons.mp hb with z | z
      · rw [z]; exact Nat.le_add_right _ _
      · rw [List.mem_singleton.mp z]; exact Nat.le_refl _
    exact I1.fpOk hle (I1.hok.fresh hle)
theorem walk_enumT {K : PySem.W.Frag} {a : Addr} {xs : List V} : Walk (IeT K a) xs.length (fun H => SqT K H a xs) (YPair (fun i => some (.int (i : Nat))) (fun i => xs[i]?)) := by
  refine ⟨fun i _ hi q => ⟨xs, xs[i], q, by simp [hi]⟩, fun _ q => ⟨xs, q, Nat.le_refl _⟩, fun i H v H' _ q y => ?_⟩
  obtain ⟨T, x, e1, e2, e3, e4⟩ := y
  exact ⟨T, .int (i : Nat), x, e1, e2, e3, rfl, e4 xs q⟩

/-! ### repr of data -/
def rReprD (K : PySem.W.Frag) : List V → Hp → VK → Prop := fun xs H Q => ∃ x d, xs = [x] ∧ Dp K H x d ∧ d.showable = true ∧ d.hasDict = false ∧ d.depth ≤ 20 ∧ d.shown.length ≤ sizeLine ∧ Q (.str d.shown) H
theorem call_reprD {X : Cx} (hg : X.A.guards = some []) (hu : X.A.units + 64 < cLine) : CallR X (.builtin "repr") (rReprD X.K) := by
  intro pins s σ H xs us Q I r h
  obtain ⟨x, d, rfl, hd, hs, hn, hdp, hz, q⟩ := h
  obtain ⟨u, rfl, rx⟩ := vals1 r
  obtain ⟨as, rd⟩ := Dp.reads I d x u hd rx
  have dn : d.hasDict = true → sysModules ∉ as := fun z => by
    rw [hn] at z
    cases z
  have key : ∀ h' t tk, (∀ b o, s.heap.get? b = some o → h'.get? b = some o) → EP X pins σ Q (.str d.shown t) { s with heap := h', toks := tk } := fun h' t tk hk => ⟨.str d.shown, H, I.kept (t' := tk) hk, ⟨_, rfl⟩, q⟩
  cases hd with
  | non =>
    cases rx
    exact PySem.P.repr_of_none (key _ _ _ fun _ _ e => e)
  | bl b =>
    cases rx
    exact PySem.P.repr_of_bool (key _ _ _ fun _ _ e => e)
  | int i =>
    obtain ⟨t, rfl⟩ := rx
    exact PySem.P.repr_of_int (by simpa [PyData.showable] using hs) (key _ _ _ fun _ _ e => e)
  | str z =>
    obtain ⟨t, rfl⟩ := rx
    exact PySem.P.repr_of_str (hsz := hz) (key _ _ _ fun _ _ e => e)
  | lst hs' ha =>
    cases rx
    exact repr_of_reads' rd hs dn hg (by omega) (fun _ _ e => e) (fun h' t tk hk => key h' t tk hk) hz
  | tup hs' ha =>
    cases rx
    exact repr_of_reads' rd hs dn hg (by omega) (fun _ _ e => e) (fun h' t tk hk => key h' t tk hk) hz
end Rk
end
section
set_option Elab.async false
set_option linter.all false
set_option maxRecDepth 100000
set_option maxHeartbeats 4000000
/-! Defs that are entered with no guard around (repr wants that): FnG beside the layer's FnOk. -/
namespace Rk
open PySem PySem.Spec PyProof.Rows L2
/-- as FnOk, for callers around whom no guard stands -/
structure FnG (P : Program) (w : World) (K : PySem.W.Frag) (mg : Str → Option Value) (base : Heap) (CX : CXT) (k : Nat) (f : Addr) (fd : FuncData) (ps : List Str) (sp : Sp) : Prop where
  len : ∀ vs H Q E, sp vs H Q E → vs.length = ps.length
  run : ∀ (A : Around) (outer : List Env) (s : Shared) (H : Hp) (args : Args) (us : List Value) (vs : List V) (Q : VK) (E : XK), A.guards = some [] → Room k A → Env0 P w K mg base A outer s H →
    BindsTo s fd args (ps.zip us) → Vals vs us → sp vs H Q E → codeAny (model P w) A (.call (.ref f) args) (CR CX outer P w H s Q E) s
section
variable {P : Program} {w : World} {K : PySem.W.Frag} {mg : Str → Option Value} {base : Heap}
/-- a def's body gives its promise, no guard around -/
theorem funG {x qual : Str} {st : Stmt} {f : Addr} {fd : FuncData} {N ps : List Str} {k : Nat} {sp : Sp} (F : Fun K x qual st f fd) (S : FnScope N ps (defScope st)) (len : ∀ vs H Q E, sp vs H Q E → vs.length = ps.length)
    (hb : ∀ (cdv : Value) (A : Around) (outer : List Env) (s : Shared) (H : Hp) (vs : List V) (Q : VK) (E : XK), A.guards = some [] → Room k (A.deeper (envOfC qual (defScope st) s.heap.objs.size f cdv)) → sp vs H Q E →
      ∃ t, PSs (cxOf CX0 P w K mg base N qual (defScope st) f cdv A outer s H E).nox (defBody st) t ∧ t { nx := fun _ H' => Q .non H', rt := Q } (start N vs) H) : FnG P w K mg base CX0 (k + 1) f fd ps sp := by
  obtain ⟨oc, od, kV, doc, pm, an, cdv, ct, osl, efd, lk, hcd⟩ := F.ex
  subst efd
  refine ⟨len, fun A outer s H args us vs Q E hg hr e0 hbi r hsp => ?_⟩
  have hn := len _ _ _ _ hsp
  have stays : ∀ b o, base.get? b = some o → s.heap.get? b = some o := fun b o e => (e0.bs b o e).1
  have kin : K.In s.heap := e0.mod.kin.keeps stays
  have kinds : ∀ y ∈ ps.zip us, (defScope st).names.lookup y.1 = some .local ∨ ((defScope st).names.lookup y.1 = some .cell ∧ ((cellsFrom (s.heap.objs.size + 1) (defScope st).names []).lookup y.1).isSome = true) := by
    rintro ⟨n, v⟩ hy
    cases S.par n (List.of_mem_zip hy).1 with
    | inl q => exact .inl q
    | inr q => exact .inr ⟨q, PySem.W.cellsFrom_some _ _ _ (.inl q)⟩
  refine codeAny_call_function hr.depth (kin _ _ lk) rfl S.co S.gen rfl (PySem.W.codeRec_of kin hcd) (hbi _ _ _ _ (wpAny_newFunctionEnv_cells S.kind kinds fun env he s1 inCall => ?_))
  subst he
  obtain ⟨t, ht, hq⟩ := hb cdv A outer s H vs Q E hg (hr.deeper _) hsp
  have I := inv_start (CX := CX0) (E := E) S hr.hd e0 hn r inCall
  refine ⟨(e0.mod.nolimit.keeps stays).keeps inCall.toInCall.keep, codeAny_func ?_⟩
  refine wpAny_mono (ht.nox.run [] s1 (start N vs) H _ I hq) (fun fl s' done => ?_) fun _ _ q => q
  cases fl with
  | next =>
    obtain ⟨σ', H', J, q⟩ := done
    exact ⟨.non, H', J.os, J.bare, J.base, J.hok, rfl, q⟩
  | ret u =>
    obtain ⟨v, σ', H', J, rv, q⟩ := done
    exact ⟨v, H', J.os, J.bare, J.base, J.hok, rv, q⟩
  | brk =>
    obtain ⟨_, _, _, q⟩ := done
    exact q.elim
  | cont =>
    obtain ⟨_, _, _, q⟩ := done
    exact q.elim
end
section
variable {X : Cx} {CX : CXT} {k : Nat} {f : Addr} {fd : FuncData} {ps : List Str} {sp : Sp} {E : XK} {x : Str} {p pos : Pos} {e : Expr} {es : List Expr} {t : TA}
/-- f(e, ..) of such a def, where no guard stands around -/
theorem pe_callG (F : FnG X.prog X.w X.K X.mg X.base CX k f fd ps sp) (hgd : X.A.guards = some []) (hr : Room k X.A) (hg : Gl X x) (hm : X.mg x = some (.ref f)) (hk : PySem.W.keepIn X.K (.ref f) = true) (hb : Binds X.K fd ps []) (hx : Passes CX X E)
    (ha : PA X (e :: es) t) (hdb : (x == ("__debug__" : Str)) = false := by decide) (he : starEach (e :: es) X.env = (false, eval e X.env) :: starEach es X.env := by rfl) (hpl : (backTo pos (starEach es X.env)).any (·.1) = false := by rfl) :
    PE X (.Call (.Name x p) (e :: es) [] pos) (tCall sp [] E t) := by
  refine ⟨fun pins s σ H Q I h => wpAny_Call_Name_kw (ld_glob I hg hm ?_ hdb)⟩
  refine PySem.W.callWith_K (h₀ := X.base) I.ok.mod.kin hk (thn (ha.run pos pins s σ H _ I h) fun us s1 done => ?_) he hpl
  obtain ⟨vs, H1, I1, r, q⟩ := done
  rw [List.append_nil] at q
  have hl : (us ++ []).length = ps.length := by
    rw [List.append_nil, ← r.length]
    exact F.len _ _ _ _ q
  have bnd := hb s1 us I1.kIn hl
  rw [List.append_nil] at bnd
  refine ⟨I1.kIn, wpAny_call (codeAny_mono (F.run X.A X.stack s1 H1 ⟨us, []⟩ us vs Q E hgd hr I1.env0 bnd r q) fun r s' hq => ?_)⟩
  cases r with
  | error er => exact hx pins σ H1 s1 er s' I1 hq
  | ok fl =>
    cases fl with
    | ret u => exact I1.after hq
    | next => exact hq.elim
    | brk => exact hq.elim
    | cont => exact hq.elim
end
end Rk
end
section
set_option Elab.async false
set_option linter.all false
set_option maxRecDepth 100000
set_option maxHeartbeats 4000000
/-! any(number in island for island in found): the generator walks a list of tuples of ints; number is a captured name. -/
namespace Rk
open PySem PySem.Spec PyProof.Rows L2 GxR
/-- the answer at place j -/
def anAt (n : Int) (xs : List (List Int)) (j : Nat) : Bool := (xs[j]?.map fun ns => inV (.int n) (ns.map V.int)).getD false
theorem anAt_range (n : Int) (xs : List (List Int)) : (List.range xs.length).any (anAt n xs) = xs.any fun ns => inV (.int n) (ns.map V.int) := by
  have e : ∀ l : List Nat, l.any (anAt n xs) = (l.map (anAt n xs)).any id := fun l => by rw [List.any_map]; rfl
  have e2 : (List.range xs.length).map (anAt n xs) = xs.map fun ns => inV (.int n) (ns.map V.int) := by
    refine List.ext_getElem? fun i => ?_
    rw [List.getElem?_map, List.getElem?_map]
    by_cases h : i < xs.length
    · rw [List.getElem?_range h, List.getElem?_eq_getElem h]
      show some (anAt n xs i) = some _
      unfold anAt
      rw [List.getElem?_eq_getElem h] <;> rfl
    · rw [List.getElem?_eq_none (by simpa using Nat.le_of_not_lt h), List.getElem?_eq_none (Nat.le_of_not_lt h)] <;> rfl
  rw [e, e2, List.any_map]
  rfl
theorem eqV_int (a b : Int) : eqV (.int a) (.int b) = decide (a = b) := by
  first | rfl | simp [eqV]
theorem inV_ints (n : Int) (ns : List Int) : inV (.int n) (ns.map V.int) = decide (n ∈ ns) := by
  unfold inV
  rw [List.any_map, Bool.eq_iff_iff, List.any_eq_true, decide_eq_true_iff]
  constructor
  · rintro ⟨m, hm, q⟩
    have q' : decide (m = n) = true := by rw [← eqV_int]; exact q
    rw [← of_decide_eq_true q']
    exact hm
  · intro h
    exact ⟨n, h, by show eqV (.int n) (.int n) = true; rw [eqV_int]; exact decide_eq_true rfl⟩
def IslsAt (K : PySem.W.Frag) (H : Hp) : List V → List (List Int) → Prop := Paired fun r ns => ∃ a, r = .ref a ∧ SqT K H a (ns.map V.int)
theorem IslsAt.get {K : PySem.W.Frag} {H : Hp} : ∀ {rs : List V} {xs : List (List Int)} {i : Nat} {r : V}, IslsAt K H rs xs → rs[i]? = some r → ∃ ns a, xs[i]? = some ns ∧ r = .ref a ∧ SqT K H a (ns.map V.int)
  | _, _, _, _, .nil, e => by simp at e
  | _, _, 0, _, .cons h _, e => by
    obtain ⟨a, e1, q⟩ := h
    have e2 := Option.some.inj e
    subst e2
    exact ⟨_, a, rfl, e1, q⟩
  | _, _, i + 1, _, .cons _ t, e => by
    obtain ⟨ns, a, h1, h2⟩ := IslsAt.get (i := i) t (by simpa using e)
    exact ⟨ns, a, by simpa using h1, h2⟩
theorem IslsAt.length {K : PySem.W.Frag} {H : Hp} {rs : List V} {xs : List (List Int)} (h : IslsAt K H rs xs) : rs.length = xs.length := Paired.length h
def tAnyI (K : PySem.W.Frag) (P : Addr) (i : Nat) (te : TE) : TE := fun σ H Q => te σ H fun v H1 => ∃ (l : Addr) (n : Int) (rs : List V) (xs : List (List Int)), v = .ref l ∧ σ[i]? = some (some (.int n)) ∧ SqL K H1 l rs ∧ IslsAt K H1 rs xs ∧ TabG H1 P ∧
  ∀ H2, Tabbed P H1 H2 → Q (.bl (xs.any fun ns => inV (.int n) (ns.map V.int))) H2
section
variable {X : Cx}
theorem pe_anyI {c P : Addr} {iter : Expr} {x y : Str} {px p pos gpos p1 p2 p3 : Pos} {scope : Scope} {te : TE} {k i : Nat}
    (hr : Room k X.A) (hg : Gl X "any") (hm : X.mg "any" = none) (TB : TabB X.base X.mg c P) (hcode : X.env.code = .ref c) (S : GenS X.env scope x) (hi : PE X iter te)
    (hN : X.N[i]? = some y) (hky : X.env.scope.names.lookup y = some .cell) (hsy : scope.names.lookup y = some .free) (hclo : ∀ cells : List (Str × Addr), (cloFrom cells scope.names []).lookup y = some ((cells.lookup y).getD 0))
    (hs : ∀ v, genFold iter X.env v = pure v) (hdx : (x == ("__debug__" : Str)) = false := by decide) (hdy : (y == ("__debug__" : Str)) = false := by decide) (hdc : (y == ("__classdict__" : Str)) = false := by decide)
    (he : starEach [.GeneratorExp (.Compare (.Name y p1) [.In] [.Name x p2] p3) [⟨.Name x px, iter, [], 0⟩] scope gpos] X.env = (false, eval (.GeneratorExp (.Compare (.Name y p1) [.In] [.Name x p2] p3) [⟨.Name x px, iter, [], 0⟩] scope gpos) X.env) :: starEach [] X.env := by rfl) :
    PE X (.Call (.Name "any" p) [.GeneratorExp (.Compare (.Name y p1) [.In] [.Name x p2] p3) [⟨.Name x px, iter, [], 0⟩] scope gpos] [] pos) (tAnyI X.K P i te) := by
  refine ⟨fun pins s σ H Q I h => wpAny_Call_Name_kw (ld_blt I hg hm boot_any (PyProof.Rows.callWith_builtin1 ?_ he (by rfl)))⟩
  rw [he]
  show wpAny _ _ (spliced ((false, eval (.GeneratorExp (.Compare (.Name y p1) [.In] [.Name x p2] p3) [⟨.Name x px, iter, [], 0⟩] scope gpos) X.env) :: backTo pos (starEach [] X.env))) _ _ s
  refine Calls.spliced_cons (wpAny_GeneratorExp_walksQ hr.hd S.co (closure_ok S.free) S.cell S.dot S.loc S.kind (by have := hr.dp; omega) ?_ hs)
  refine thn (hi.run pins s σ H _ I h) fun xv s1 ⟨v, H1, I1, r1, q1⟩ => ?_
  obtain ⟨l, n, rs, xs, rfl, hσ, hl, hxs, ⟨ps, hP, htr⟩, q1⟩ := q1
  obtain rfl : xv = Value.ref l := r1
  -- the captured name's cell
  obtain ⟨m, hns, hlook⟩ := I1.loc
  obtain ⟨un, run_, look⟩ := hlook i y _ hN hσ (.inr (.inl hky))
  obtain ⟨tn, rfl⟩ := run_
  obtain ⟨cc, hcc, hcell⟩ : ∃ cc, X.env.cells.lookup y = some cc ∧ s1.heap.IsCell cc (some (.int n tn)) := by
    rcases look with ⟨z, _⟩ | ⟨_, cc, h1, h2⟩
    · have z' : X.env.scope.names.lookup y = some .local := z
      rw [hky] at z'
      cases z'
    · exact ⟨cc, h1, h2⟩
  -- the list and its iterator
  obtain ⟨its, rv, pl, hz⟩ := I1.list hl
  have lst := pl.isList
  have hlen : its.length = xs.length := by rw [← rv.length, hxs.length]
  refine wpAny_pyIter_list lst ?_
  generalize ho : ({ cls := .type "list_iterator", data := .fields #[.ref l, .int 0 0] } : Obj) = o
  have itr : (s1.heap.push o).IsListIter s1.heap.objs.size l 0 := by
    subst ho
    exact ⟨_, Heap.get?_push_size _ rfl, rfl, rfl⟩
  have ll : l < s1.heap.objs.size := by
    obtain ⟨_, e, _⟩ := id lst
    exact Heap.lt_size e
  have tabs : s1.heap.get? P = some { cls := .none, data := .fields ps } := I1.hok P _ hP
  have lP : P < s1.heap.objs.size := Heap.lt_size tabs
  have tabs2 : (s1.heap.push o).get? P = some { cls := .none, data := .fields ps } := Heap.get?_push_of_some _ tabs
  have chd : PySem.W.CodeHd (s1.heap.push o) c P := TB.code.keeps fun b u e => Heap.get?_push_of_some _ (I1.bk b u e)
  have free : (s1.heap.push o).NoLimit := I1.nolimit.push o
  have notP : ∀ {b : Addr} {ob : Obj}, s1.heap.get? b = some ob → (∀ vs, ob.data ≠ .fields vs) → b ≠ P := fun {b ob} e q z => by
    rw [z, tabs] at e
    exact q ps (congrArg Obj.data (Option.some.inj e)).symm
  have go : ∀ (code : Value) (h3 : Heap) (tk : Nat) (ps' : Array Value), Heap.ExtBut P (s1.heap.push o) h3 → (s1.heap.push o).objs.size ≤ h3.objs.size → h3.get? P = some { cls := .none, data := .fields ps' } → (∃ more, ps' = ps ++ more) → TriplesOk ps'.toList →
      wpAny (model X.prog X.w) X.A (builtinsFor X.env.globals X.env.builtins) (fun bi s4 =>
        ∃ Ia fp wr n0 Pf St0 pz F, Value.ref s1.heap.objs.size = .ref Ia ∧ (∀ A' : Around, A'.handled = none → Walks X.prog X.w A' Ia fp wr n0 Pf St0) ∧ St0 0 s4.heap ∧ (∀ b ∈ fp, b < s4.heap.objs.size) ∧ s4.heap.NoLimit ∧ cStatics ∉ wr ∧
          (∀ href : Heap, (∀ b o, s4.heap.get? b = some o → href.get? b = some o) →
            QuietGen X.prog X.w (genEnv scope (cloFrom X.env.cells scope.names []) s4.heap.objs.size code bi X.env) x [] (.Compare (.Name y p1) [.In] [.Name x p2] p3) (List.range s4.heap.objs.size) wr Pf pz F href) ∧
          (∀ a h5 tk gs, gs.bare = true → s4.heap.objs.size < a → h5.objs.size = a + 1 → (∀ b o, s4.heap.get? b = some o → h5.get? b = some o) →
            WalksS X.prog X.w X.A.in4 a (a :: s4.heap.objs.size :: List.range s4.heap.objs.size) (s4.heap.objs.size :: wr) (GenOnlyQ s4.gens.size) (passing pz n0 0).length
              (fun j y => ∃ i, (passing pz n0 0)[j]? = some i ∧ F i y) (GenAt X.prog X.w X.A.in4 a s4.gens.size s4.heap.objs.size (List.range s4.heap.objs.size) wr pz n0 F) →
            GenAt X.prog X.w X.A.in4 a s4.gens.size s4.heap.objs.size (List.range s4.heap.objs.size) wr pz n0 F 0 { s4 with gens := s4.gens.push gs, toks := tk, heap := h5 } →
            (fun u s' => wpAny (model X.prog X.w) X.A (spliced (backTo pos (starEach [] X.env))) (fun us => (fun vs s'' => wpAny (model X.prog X.w) X.A (call (.builtin "any") vs) (EP X pins σ Q) X.xe s'') (u :: us)) X.xe s') (.ref a) { s4 with gens := s4.gens.push gs, toks := tk, heap := h5 })) X.xe { s1 with heap := h3, toks := tk } := by
    intro code h3 tk ps' hx hsz hP3 hmore ht3
    obtain ⟨bm, ob, e1, e2, e3, e4, e5, e6, e7, e8⟩ := TB.bm
    have stP : cStatics ≠ P := fun e => by
      obtain ⟨_, q, _⟩ := I1.nolimit
      obtain ⟨o', es, ep, q1, q2, _⟩ := q
      rw [e, tabs] at q1
      cases q1
      cases q2
    have stl : cStatics < s1.heap.objs.size := by
      obtain ⟨_, q, _⟩ := I1.nolimit
      exact q.lt
    have keep3 : ∀ b u, b ≠ P → s1.heap.get? b = some u → h3.get? b = some u := fun b u hb e => hx b u hb (Heap.get?_push_of_some _ e)
    have big : s1.heap.objs.size + 1 ≤ h3.objs.size := by
      rw [← Heap.size_push (h := s1.heap) (o := o)]
      exact hsz
    refine wpAny_builtinsFor (m := X.mg) (by rw [I1.ok.glob]; exact ((I1.mod.glob.keeps I1.bk).push o).extBut hx TB.gP) e1 e2 (keep3 _ _ e4 (I1.bk _ _ e5)) e6 e7 e8 ?_
    have lst3 : h3.IsList l its.toArray := by
      obtain ⟨ol, e, hc, nn, hd⟩ := id lst
      exact ⟨ol, keep3 _ _ (notP e fun vs z => by rw [hd] at z; cases z) e, hc, nn, hd⟩
    have itr3 : h3.IsListIter s1.heap.objs.size l 0 := itr.at fun u e => hx _ u (Nat.ne_of_gt lP) e
    refine ⟨s1.heap.objs.size, [s1.heap.objs.size, l], [s1.heap.objs.size], its.toArray.size, (fun i v => its.toArray[i]? = some v), (fun i h => h.IsListIter s1.heap.objs.size l i ∧ h.IsList l its.toArray), (fun _ => true),
      (fun j z => j < xs.length ∧ z = .bool (anAt n xs j)), rfl, (fun A' hA => Walks.list hA _ _ (Nat.ne_of_lt ll) _), ⟨itr3, lst3⟩, ?_, free.extBut hx stP, ?_, ?_, ?_⟩
    · intro b hb
      show b < h3.objs.size
      rcases List.mem_cons.mp hb with z | z
      · rw [z]
        exact big
      · rw [List.mem_singleton.mp z]
        exact Nat.lt_of_lt_of_le (Nat.lt_succ_of_lt ll) big
    · intro z
      exact Nat.ne_of_lt stl (List.mem_singleton.mp z)
    · intro href hhref
      refine ⟨fun A' E' i v s2 m2 hA hPv hn hm hk => ?_, fun A' E' i v s2 m2 hA hPv hp hn hm hk => ?_⟩
      · simp only [List.forIn_nil]
        exact wpAny_pure ⟨rfl, keeps_refl _⟩
      · -- the element
        have hv : its[i]? = some v := by simpa using hPv
        have hi2 : i < xs.length := by rw [← hlen]; exact (List.getElem?_eq_some_iff.mp hv).1
        obtain ⟨r, hr0⟩ : ∃ r, rs[i]? = some r := ⟨rs[i]'(by rw [hxs.length]; exact hi2), List.getElem?_eq_getElem _⟩
        obtain ⟨ns, a, hns2, rfl, hsq⟩ := hxs.get hr0
        obtain ⟨u, hu, ru⟩ := rv.get hr0
        rw [hv] at hu
        obtain rfl := Option.some.inj hu
        obtain rfl : v = Value.ref a := ru
        obtain ⟨ims, rm, tup, _⟩ := I1.tuple hsq
        -- what stood, stands
        have stood : ∀ {b : Addr} {ob : Obj}, s1.heap.get? b = some ob → (∀ vs, ob.data ≠ .fields vs) → s2.heap.get? b = some ob := fun {b ob} e q =>
          hk b (List.mem_range.mpr (Nat.lt_of_lt_of_le (Nat.lt_succ_of_lt (Heap.lt_size e)) big)) (fun z => Nat.ne_of_lt (Heap.lt_size e) (List.mem_singleton.mp z)) ob (hhref _ _ (keep3 b ob (notP e q) e))
        have tup2 : s2.heap.IsTuple a ims.toArray := by
          obtain ⟨ot, e, hc, nn, hd⟩ := id tup
          exact ⟨ot, stood e (fun vs z => by rw [hd] at z; cases z), hc, nn, hd⟩
        have cell2 : s2.heap.IsCell cc (some (.int n tn)) := by
          obtain ⟨oc, e, hd⟩ := id hcell
          exact ⟨oc, stood e (fun vs z => by rw [hd] at z; cases z), hd⟩
        have hcl : (genEnv scope (cloFrom X.env.cells scope.names []) h3.objs.size code builtinsNs X.env).cells.lookup y = some cc := by
          show (cloFrom X.env.cells scope.names []).lookup y = some cc
          rw [hclo, hcc] <;> rfl
        refine wpAny_Compare1 ?_
        refine wpAny_Name (wpAny_loadName_free S.kind hsy hcl cell2 ?_ hdc) hdy
        refine wpAny_Name (wpAny_loadName_local S.kind S.loc hn hm ?_) hdx
        have rx : RelV (V.int n) (Value.int n tn) := ⟨tn, rfl⟩
        have fl : (ns.map V.int).all flatV = true := by
          rw [List.all_map, List.all_eq_true]
          intro z hz
          rfl
        refine SeqAt.in_tupleAt (eqU (.int n)) tup2 (fun w hw => mem_eqAt rx rfl rm fl w (by simpa using hw)) ⟨⟨hi2, ?_⟩, keeps_refl _⟩
        rw [show ims.toArray.any (eqU (.int n)) = ims.any (eqU (.int n)) by simp, any_eqU rm fl]
        unfold anAt
        rw [hns2]
        rfl
    · intro g h5 tk5 gs hgb hag hsz5 hk5 W5 hat
      simp only [GxR.passing_true, List.length_range] at W5
      have hn5 : its.toArray.size = xs.length := by rw [List.size_toArray, hlen]
      rw [hn5] at W5 hat
      refine Calls.spliced_nil ?_
      have st : GenAt X.prog X.w X.A.in4 g s1.gens.size h3.objs.size (List.range h3.objs.size) [s1.heap.objs.size] (fun _ => true) xs.length (fun j z => j < xs.length ∧ z = .bool (anAt n xs j)) 0 { s1 with heap := h5, gens := s1.gens.push gs, toks := tk5 } := hat
      refine call_any_walkS (W5.in4_1.self 0 _ _ _ st ⟨g, _, _, _, _, _, _, anAt n xs, rfl, W5.in4_1, st, ?_, fun s' hmv => ?_⟩)
      · intro j z sj Qj Ej hz hQj
        obtain ⟨i', hij, _, rfl⟩ := hz
        obtain ⟨hj, ej⟩ := List.getElem?_eq_some_iff.mp hij
        rw [List.getElem_range] at ej
        subst ej
        exact wpAny_truthy_bool hQj
      · obtain ⟨more, em⟩ := hmore
        have nwr : ∀ b u, s1.heap.get? b = some u → b ∉ h3.objs.size :: [s1.heap.objs.size] := fun b u e hb => by
          have hlt := Heap.lt_size e
          rcases List.mem_cons.mp hb with z | z
          · exact absurd (z ▸ Nat.lt_of_lt_of_le (Nat.lt_succ_of_lt hlt) big) (Nat.lt_irrefl _)
          · exact absurd (List.mem_singleton.mp z ▸ hlt) (Nat.lt_irrefl _)
        have J := inv_tab (more := more) (h' := s'.heap) (g' := s'.gens) (d' := s'.drawn) (t' := s'.toks) I1 hP (fun b u hb e => hmv.heap b u (nwr b u e) (hk5 b u (keep3 b u hb e)))
          (by rw [← em]; exact hmv.heap P _ (nwr P _ tabs) (hk5 P _ hP3)) (AllBare.movedS (I1.bare.push hgb) hmv)
        rw [sh_eta s1 s' hmv.os] at J
        refine ⟨.bl _, _, J, rfl, ?_⟩
        rw [anAt_range]
        exact q1 _ ⟨⟨ps ++ more, upd_same, by rw [← em]; exact ht3⟩, fun b hb => upd_ne hb⟩
  refine ⟨free, ?_⟩
  cases hf : codeAmong gpos ps.toList with
  | none =>
    refine wpAny_genexprCodeX hcode (chd.code tabs2 htr) (chd.tab tabs2) hf fun c' h' tk hx hge hlt hco' _ htab' _ => ?_
    obtain ⟨o1, vs, f1, tf, fl, tg, inF, tx, tt, op, _, _, _, _, _, _, _, _, _, htr2, _⟩ := hco'
    exact go _ h' tk _ hx (Nat.le_trans hge (Nat.le_of_lt hlt)) htab'.2 ⟨_, rfl⟩ htr2
  | some cv =>
    refine wpAny_genexprCode_hit hcode (chd.code tabs2 htr) hf ?_
    exact go cv (s1.heap.push o) s1.toks ps (Heap.ExtBut.refl _ _) (Nat.le_refl _) tabs2 ⟨#[], by simp⟩ htr
end
end Rk
end
section
set_option Elab.async false
set_option linter.all false
set_option maxRecDepth 100000
set_option maxHeartbeats 4000000
/-! The text by places, what the top has written, what lies on the heap. -/
namespace Rk
open PySem PySem.Spec PyProof.Rows L2

def top (i : Nat) : Stmt := PySem.Challenge.pw_railshut_k07_layouts_led.main.body.getD i (.Pass ⟨0, 0, 0, 0⟩)
abbrev s_step : Stmt := top 8
abbrev s_moved : Stmt := top 9
abbrev s_turned : Stmt := top 10
abbrev s_laid : Stmt := top 11
abbrev s_back : Stmt := top 12
abbrev s_ends_of : Stmt := top 18
abbrev s_lead : Stmt := top 21
abbrev s_check : Stmt := top 24
abbrev s_all_ends : Stmt := top 25
abbrev s_has_overlap : Stmt := top 26
abbrev s_laid_piece : Stmt := top 27
abbrev s_joined_to : Stmt := top 29
abbrev s_neighbours : Stmt := top 30
abbrev s_island_of : Stmt := top 31
abbrev s_islands_of : Stmt := top 32
abbrev s_law_cell : Stmt := top 35
abbrev s_law_same : Stmt := top 37
abbrev s_law_digits : Stmt := top 38
abbrev s_law_draw : Stmt := top 39
abbrev s_law_pick : Stmt := top 40
abbrev s_law_move : Stmt := top 41
abbrev s_law_turned : Stmt := top 42
abbrev s_law_laid : Stmt := top 43
abbrev s_law_back : Stmt := top 45
abbrev s_law_led : Stmt := top 46
abbrev s_law_ends_of : Stmt := top 53
abbrev s_law_all_ends : Stmt := top 54
abbrev s_law_is_free : Stmt := top 55
abbrev s_law_placed : Stmt := top 56
abbrev s_law_told : Stmt := top 57
abbrev s_law_joins : Stmt := top 58
abbrev s_law_islands : Stmt := top 59
abbrev s_law_seems : Stmt := top 60
abbrev s_law_place : Stmt := top 61
abbrev s_law_deed : Stmt := top 62
abbrev s_law : Stmt := top 63
abbrev m_init : Stmt := inClass (top 28) 0
abbrev m_put : Stmt := inClass (top 28) 1
abbrev m_place : Stmt := inClass (top 28) 2
abbrev m_lay : Stmt := inClass (top 28) 3
abbrev m_check_piece : Stmt := inClass (top 28) 4
abbrev m_remove : Stmt := inClass (top 28) 5
abbrev m_undo : Stmt := inClass (top 28) 6
abbrev m_layout : Stmt := inClass (top 28) 7
abbrev m_ends : Stmt := inClass (top 28) 8
abbrev m_joined : Stmt := inClass (top 28) 9
abbrev m_open_ends : Stmt := inClass (top 28) 10
abbrev m_islands : Stmt := inClass (top 28) 11
abbrev m_is_shut : Stmt := inClass (top 28) 12

/-! ### a def of the text -/
abbrev Fn (K : PySem.W.Frag) (x qual : Str) (st : Stmt) (f : Addr) (fd : FuncData) : Prop := FunD K x qual (defArgs st) (defBody st) (defScope st) [] [] f fd
/-- a def of the module -/
structure Dn (K : PySem.W.Frag) (mg : Str → Option Value) (x : Str) (st : Stmt) : Prop where
  ex : ∃ f fd, Fn K x x st f fd ∧ mg x = some (.ref f)
section
variable {P : Program} {w : World} {K : PySem.W.Frag} {mg : Str → Option Value} {base : Heap}
theorem Fn.okk {x qual : Str} {st : Stmt} {f : Addr} {fd : FuncData} {N ps : List Str} {k : Nat} {sp : Sp} (F : Fn K x qual st f fd) (S : FnScope N ps (defScope st)) (len : ∀ vs H Q E, sp vs H Q E → vs.length = ps.length)
    (hb : ∀ (cdv : Value) (A : Around) (outer : List Env) (s : Shared) (H : Hp) (vs : List V) (Q : VK) (E : XK), Room k (A.deeper (envOfC qual (defScope st) s.heap.objs.size f cdv)) → sp vs H Q E →
      ∃ t, PSs (cxOf CX0 P w K mg base N qual (defScope st) f cdv A outer s H E).nox (defBody st) t ∧ t { nx := fun _ H' => Q .non H', rt := Q } (start N vs) H) : FnOk P w K mg base CX0 (k + 1) f fd ps sp :=
  FunD.ok F S len fun cdv A outer s H vs Q E hr h => by
    obtain ⟨t, h1, h2⟩ := hb cdv A outer s H vs Q E hr h
    exact ⟨t, h1.nox, h2⟩
/-- a def that raises nothing, ready to be called by its name -/
structure Cal (P : Program) (w : World) (K : PySem.W.Frag) (mg : Str → Option Value) (base : Heap) (k : Nat) (x : Str) (sp : Sp) : Prop where
  ex : ∃ (f : Addr) (fd : FuncData) (ps : List Str), FnOk P w K mg base CX0 k f fd ps sp ∧ mg x = some (.ref f) ∧ PySem.W.keepIn K (.ref f) = true ∧ Binds K fd ps []
/-- a def that raises nothing keeps its promise -/
theorem Dn.cal {x : Str} {st : Stmt} {N ps : List Str} {k : Nat} {sp : Sp} (D : Dn K mg x st) (S : FnScope N ps (defScope st)) (len : ∀ vs H Q E, sp vs H Q E → vs.length = ps.length)
    (bi : ∀ (kV doc pm : Value) (an : Option Addr) (cdv ct : Value) (us : List Value), us.length = ps.length → bindArgs (PySem.W.fnOf x x (defArgs st) (defBody st) (defScope st) .none kV doc pm an cdv ct) ⟨us, []⟩ = pure (ps.zip us))
    (hb : ∀ (f : Addr) (cdv : Value) (A : Around) (outer : List Env) (s : Shared) (H : Hp) (vs : List V) (Q : VK) (E : XK), Room k (A.deeper (envOfC x (defScope st) s.heap.objs.size f cdv)) → sp vs H Q E →
      ∃ t, PSs (cxOf CX0 P w K mg base N x (defScope st) f cdv A outer s H E).nox (defBody st) t ∧ t { nx := fun _ H' => Q .non H', rt := Q } (start N vs) H) : Cal P w K mg base (k + 1) x sp := by
  obtain ⟨f, fd, F, hm⟩ := D.ex
  exact ⟨f, fd, ps, Fn.okk F S len (hb f), hm, F.kp, F.bindsN bi⟩
end
section
variable {X : Cx} {k j : Nat} {x : Str} {sp : Sp} {p pos : Pos} {e : Expr} {es : List Expr} {t : TA}
theorem pe_c (c : Cal X.prog X.w X.K X.mg X.base k x sp) (hr : Room j X.A) (hk : k ≤ j) (hg : Gl X x) (ha : PA X (e :: es) t)
    (hdb : (x == ("__debug__" : Str)) = false := by decide) (he : starEach (e :: es) X.env = (false, eval e X.env) :: starEach es X.env := by rfl) (hpl : (backTo pos (starEach es X.env)).any (·.1) = false := by rfl) :
    PE X (.Call (.Name x p) (e :: es) [] pos) (tCall sp [] E0 t) := by
  obtain ⟨f, fd, ps, F, hm, kp, b⟩ := c.ex
  exact pe_call F (hr.mono hk) hg hm kp b .nil pass0 ha hdb he hpl
/-- a module's name by its value -/
theorem pe_gv {v : V} (hg : Gl X x) (h : ∃ u, X.mg x = some u ∧ RelV v u) (hd : (x == ("__debug__" : Str)) = false := by decide) : PE X (.Name x pos) (tC v) := by
  obtain ⟨u, h1, h2⟩ := h
  exact pe_glob hg h1 h2 hd
end
section
variable {P : Program} {w : World} {K : PySem.W.Frag} {mg : Str → Option Value} {base : Heap}
/-- a written int -/
def IntG (mg : Str → Option Value) (x : Str) (i : Int) : Prop := ∃ u, mg x = some u ∧ RelV (.int i) u
/-- a written tuple of ints -/
def TupG (K : PySem.W.Frag) (mg : Str → Option Value) (x : Str) (ns : List Int) : Prop := ∃ a, mg x = some (.ref a) ∧ ∀ H, SqT K H a (ns.map V.int)
end

/-! ### what lies on the heap -/
def Po.vs (p : Po) : List V := p.l.map V.int
def Po.ks (p : Po) : List Key := p.l.map Sum.inl
theorem Po.vs_ks (p : Po) : p.ks.map kV = p.vs := by
  unfold Po.ks Po.vs
  rw [List.map_map]
  rfl
def Lt.str (l : Lt) : Str := ⟨#[l.cp]⟩
def Kd.str (k : Kd) : Str := ⟨#[k.cp]⟩
/-- what is said of tuples alone stays whatever is written -/
def Tk (H H' : Hp) : Prop := ∀ a xs, H a = some (.tup xs) → H' a = some (.tup xs)
theorem Tk.refl (H : Hp) : Tk H H := fun _ _ h => h
theorem Tk.trans {H H1 H2 : Hp} (a : Tk H H1) (b : Tk H1 H2) : Tk H H2 := fun c o h => b c o (a c o h)
theorem sm_tk {H H' : Hp} (h : Same H H') : Tk H H' := fun a xs e => h a _ e
theorem sm_upd {H : Hp} {p : Addr} {o : HO} (h : H p = none) : Same H (upd H p o) := fun b u e => by
  rw [upd_ne (ne_of_none e h)]
  exact e
theorem sm_upd' {H H1 : Hp} {p : Addr} {o : HO} (x : Same H H1) (h : H p = none) : Same H (upd H1 p o) := fun b u e => by
  rw [upd_ne (ne_of_none e h)]
  exact x b u e
theorem sm_updN {H H1 : Hp} {p : Addr} {o : HO} (x : Same H H1) (h : H1 p = none) : Same H (upd H1 p o) := x.trans (sm_upd h)
theorem tk_upd {H : Hp} {p : Addr} {o : HO} (h : ∀ xs, H p ≠ some (.tup xs)) : Tk H (upd H p o) := fun a xs e => by
  rw [upd_ne (fun z => h xs (by rw [← z]; exact e))]
  exact e
theorem sm_tup {K : PySem.W.Frag} {H H' : Hp} {a : Addr} {xs : List V} (e : Same H H') (h : SqT K H a xs) : SqT K H' a xs := by
  rcases h with (h | ⟨o, h⟩) | h
  · exact .inl (.inl (e _ _ h))
  · exact .inl (.inr ⟨o, e _ _ h⟩)
  · exact .inr h
theorem sqt_of {K : PySem.W.Frag} {H : Hp} {a : Addr} {xs : List V} (h : H a = some (.tup xs)) : SqT K H a xs := .inl (.inl h)
/-- the written tables -/
def OEnds (K : PySem.W.Frag) (w : World) (mg : Str → Option Value) : Prop := ∃ d, mg "OTHER_ENDS" = some (.ref d) ∧ ∀ k : Kd, ∃ (t : Addr) (rs : List V), KDct K w d k.str (.ref t) ∧ (∀ H, SqT K H t rs) ∧
  Paired (fun (v : V) (o : Po) => ∃ a, v = V.ref a ∧ ∀ H, SqT K H a o.vs) rs (others k)
def Leads (K : PySem.W.Frag) (w : World) (mg : Str → Option Value) : Prop := ∃ d, mg "LEADS" = some (.ref d) ∧ ∀ l : Lt, ∃ t : Addr, KDct K w d l.str (.ref t) ∧ ∀ H, SqT K H t (leadP l).vs
/-- poses that lie on the heap -/
def PoH (H : Hp) (v : V) (p : Po) : Prop := ∃ q, v = .ref q ∧ H q = some (.tup p.vs)
theorem PoH.tk {H H' : Hp} {v : V} {p : Po} (t : Tk H H') (h : PoH H v p) : PoH H' v p := by
  obtain ⟨q, e, h⟩ := h
  exact ⟨q, e, t _ _ h⟩
abbrev PosH (H : Hp) : List V → List Po → Prop := Paired (PoH H)
theorem PosH.tk {H H' : Hp} {vs : List V} {ps : List Po} (t : Tk H H') (h : PosH H vs ps) : PosH H' vs ps := Paired.mapP h fun _ _ z => z.tk t
theorem pr_snoc {α β : Type} {F : α → β → Prop} : ∀ {xs : List α} {ys : List β} {x : α} {y : β}, Paired F xs ys → F x y → Paired F (xs ++ [x]) (ys ++ [y])
  | _, _, _, _, .nil, h => .cons h .nil
  | _, _, _, _, .cons r t, h => .cons r (pr_snoc t h)
theorem pr_get {α β : Type} {F : α → β → Prop} : ∀ {xs : List α} {ys : List β} {i : Nat} {x : α}, Paired F xs ys → xs[i]? = some x → ∃ y, ys[i]? = some y ∧ F x y
  | _, _, _, _, .nil, e => by simp at e
  | _, _, 0, _, .cons r _, e => by
    have e2 := Option.some.inj e
    subst e2
    exact ⟨_, rfl, r⟩
  | _, _, i + 1, _, .cons _ t, e => by
    obtain ⟨y, h1, h2⟩ := pr_get (i := i) t (by simpa using e)
    exact ⟨y, by simpa using h1, h2⟩
theorem pr_got {α β : Type} {F : α → β → Prop} : ∀ {xs : List α} {ys : List β} {i : Nat} {y : β}, Paired F xs ys → ys[i]? = some y → ∃ x, xs[i]? = some x ∧ F x y
  | _, _, _, _, .nil, e => by simp at e
  | _, _, 0, _, .cons r _, e => by
    have e2 := Option.some.inj e
    subst e2
    exact ⟨_, rfl, r⟩
  | _, _, i + 1, _, .cons _ t, e => by
    obtain ⟨y, h1, h2⟩ := pr_got (i := i) t (by simpa using e)
    exact ⟨y, by simpa using h1, h2⟩
theorem pr_app {α β : Type} {F : α → β → Prop} : ∀ {xs xs' : List α} {ys ys' : List β}, Paired F xs ys → Paired F xs' ys' → Paired F (xs ++ xs') (ys ++ ys')
  | _, _, _, _, .nil, h => h
  | _, _, _, _, .cons r t, h => .cons r (pr_app t h)
theorem pr_len {α β : Type} {F : α → β → Prop} {xs : List α} {ys : List β} (h : Paired F xs ys) : xs.length = ys.length := Paired.length h
/-- a new tuple of such -/
def NewTL (H : Hp) (ps : List Po) (Q : VK) : Prop := ∀ H' t xs, Same H H' → H t = none → H' t = some (.tup xs) → PosH H' xs ps → Q (.ref t) H'
/-- a new list of such -/
def NewLL (H : Hp) (ps : List Po) (Q : VK) : Prop := ∀ H' t xs, Same H H' → H t = none → H' t = some (.lst xs) → PosH H' xs ps → Q (.ref t) H'
theorem tk_lst {H : Hp} {D : Addr} {acc : List V} {o : HO} (e : H D = some (.lst acc)) : Tk H (upd H D o) := tk_upd fun xs z => by
  rw [e] at z
  cases z
theorem pos_put {H : Hp} {D g : Addr} {acc : List V} {ps : List Po} {p : Po} (eD : H D = some (.lst acc)) (h : PosH H acc ps) (e : H g = some (.tup p.vs)) : PosH (upd H D (.lst (acc ++ [.ref g]))) (acc ++ [.ref g]) (ps ++ [p]) :=
  pr_snoc (h.tk (tk_lst eD)) ⟨g, rfl, tk_lst eD _ _ e⟩
/-- a new list of ints -/
def NewL (H : Hp) (ns : List Int) (Q : VK) : Prop := ∀ H' p, Same H H' → H p = none → H' p = some (.lst (ns.map V.int)) → Q (.ref p) H'
/-- a text of letters -/
def rowS (ls : List Lt) : Str := ⟨(ls.map Lt.cp).toArray⟩
theorem rowS_at {ls : List Lt} {i c : Nat} (h : (rowS ls).cps[i]? = some c) : ∃ l, ls[i]? = some l ∧ c = l.cp := by
  have h' : (ls.map Lt.cp)[i]? = some c := by simpa [rowS] using h
  rw [List.getElem?_map] at h'
  cases e : ls[i]? with
  | none =>
    rw [e] at h'
    cases h'
  | some l =>
    rw [e] at h'
    exact ⟨l, rfl, (Option.some.inj h').symm⟩
theorem rowS_size (ls : List Lt) : (rowS ls).cps.size = ls.length := by simp [rowS]
/-- the drawn digits, and how many are taken -/
def BoxH (H : Hp) (b d : Addr) : Prop := ∃ (n : Nat) (ds : List Int), H b = some (.lst [.ref d, .int n]) ∧ H d = some (.lst (ds.map V.int))
/-- all but what stands at b is as it was -/
def SameX (b : Addr) (H H' : Hp) : Prop := ∀ a o, a ≠ b → H a = some o → H' a = some o
theorem SameX.refl (b : Addr) (H : Hp) : SameX b H H := fun _ _ _ h => h
theorem SameX.trans {b : Addr} {H H1 H2 : Hp} (x : SameX b H H1) (y : SameX b H1 H2) : SameX b H H2 := fun a o n e => y a o n (x a o n e)
theorem sx_of {b : Addr} {H H' : Hp} (s : Same H H') : SameX b H H' := fun a o _ e => s a o e
theorem SameX.tk {b d : Addr} {H H' : Hp} (x : SameX b H H') (h : BoxH H b d) : Tk H H' := fun a xs e => by
  refine x a _ (fun z => ?_) e
  obtain ⟨n, ds, e1, _⟩ := h
  rw [z, e1] at e
  cases e
theorem BoxH.same {H H' : Hp} {b d : Addr} (h : BoxH H b d) (s : Same H H') : BoxH H' b d := by
  obtain ⟨n, ds, e1, e2⟩ := h
  exact ⟨n, ds, s _ _ e1, s _ _ e2⟩
theorem walk_zipT {K : PySem.W.Frag} {a b : Addr} {xs ys : List V} (hl : xs.length = ys.length) : Walk (RZ.ItzT K a b) xs.length (fun H => SqT K H a xs ∧ SqT K H b ys) (YPair (fun i => xs[i]?) (fun i => ys[i]?)) := by
  refine ⟨fun i H hi q => ⟨xs, ys, xs[i], ys[i]'(by omega), q.1, q.2, by simp [hi], by simp [show i < ys.length by omega]⟩, fun H q => ⟨xs, ys, q.1, q.2, .inl (Nat.le_refl _)⟩, fun i H v H' _ q y => ?_⟩
  obtain ⟨T, x, y, e1, e2, e3, f1, f2⟩ := y
  exact ⟨T, x, y, e1, e2, e3, f1 xs q.1, f2 ys q.2⟩
theorem map_at {α : Type} {f : α → V} {xs : List α} {i : Nat} {v : V} (hi : i < xs.length) (h : (xs.map f)[i]? = some v) : v = f xs[i] := by
  rw [List.getElem?_map, List.getElem?_eq_getElem hi] at h
  exact (Option.some.inj h).symm
theorem small24 {n : Nat} (h : n ≤ 16777216) : n ≤ sizeLine := by
  rw [sizeLine_eq]
  exact h
theorem lt24 {n : Nat} (h : n < 16777216) : n < sizeLine := by
  rw [sizeLine_eq]
  exact h
end Rk
end
section
set_option Elab.async false
set_option linter.all false
set_option maxRecDepth 100000
set_option maxHeartbeats 4000000
/-! poses.py: step, moved, turned, laid, back. -/
namespace Rk
open PySem PySem.Spec PyProof.Rows L2
section
variable {P : Program} {w : World} {K : PySem.W.Frag} {mg : Str → Option Value} {base : Heap}
/-- a new tuple of ints -/
def NewT (H : Hp) (ns : List Int) (Q : VK) : Prop := ∀ H' p, Same H H' → H p = none → H' p = some (.tup (ns.map V.int)) → Q (.ref p) H'
theorem ixN_ok {n : Nat} {i : Int} (h0 : 0 ≤ i) (h1 : i < n) : ixN n i = some i.toNat := by
  unfold ixN
  rw [if_pos h0, if_pos h1]
def spStep : Sp := fun vs H Q _ => ∃ d n : Int, vs = [.int d, .int n] ∧ NewT H (mv ⟨0, 0, 0, 0⟩ d n).l Q
theorem sc_step : FnScope ["direction", "many", "found"] ["direction", "many"] (defScope s_step) := ⟨rfl, rfl, rfl, by decide +kernel, rfl, by decide +kernel, by decide +kernel⟩
theorem step_set (d n : Int) : (([0, 0, 0, 0] : List Int).map V.int).set (d % 8 % 4).toNat (.int (if d % 8 < 4 then n else 0 - n)) = (mv ⟨0, 0, 0, 0⟩ d n).l.map V.int := by
  unfold mv
  rcases eight d with q | q | q | q | q | q | q | q <;> rw [q] <;> simp [P4.l]
theorem c_step (D : Dn K mg "step" s_step) (e8 : IntG mg "EIGHTHS" 8) (e4 : IntG mg "HALF" 4) (mt : mg "tuple" = none) : Cal P w K mg base 1 "step" spStep := by
  refine D.cal sc_step (fun vs H Q E h => ?_) (fun _ _ _ _ _ _ us hl => match us, hl with | [_, _], _ => rfl) (fun f cdv A outer s H vs Q E hr h => ?_)
  · obtain ⟨d, n, rfl, _⟩ := h
    rfl
  · obtain ⟨d, n, rfl, q⟩ := h
    refine ⟨_, pss_cons (ps_set (i := 2) sc_step.nd rfl (.inl rfl) (pe_lst (pa_cons pe_int (pa_cons pe_int (pa_cons pe_int (pa_cons pe_int pa_nil))))))
      (pss_cons (ps_set (i := 0) sc_step.nd rfl (.inl rfl) (pe_op op_mod (pv 0) (pe_gv rfl e8)))
      (pss_cons (ps_asg (pe_ifExp (pt_cmpR op_lt (pv 0) (pe_gv rfl e4) (nomark _)) (pv 1) (pe_op op_sub pe_int (pv 1))) (pg_sub (pv 2) (pe_op op_mod (pv 0) (pe_gv rfl e4)) set_list))
      (pss_one (ps_ret (pe_callTy call_tuple_of (by rfl) mt boot_tuple (pa_cons (pv 2) pa_nil)))))), ?_⟩
    refine ⟨small24 (by decide), fun l hl => ?_⟩
    -- direction = direction % EIGHTHS
    refine ⟨_, rfl, d, 8, rfl, rfl, (by show (0 : Int) < 8; decide), ?_⟩
    -- many if direction < HALF else 0 - many
    refine ⟨_, rfl, d % 8, 4, rfl, rfl, _, rfl, ?_⟩
    have fin : ∀ z : Int, z = (if d % 8 < 4 then n else 0 - n) → ∀ Q1 : Hp → Prop, (∀ H', H' = upd (upd H l (.lst (([0, 0, 0, 0] : List Int).map V.int))) l (.lst ((mv ⟨0, 0, 0, 0⟩ d n).l.map V.int)) → Q1 H') →
        rSetL (.ref l) (.int (d % 8 % 4)) (.int z) (upd H l (.lst (([0, 0, 0, 0] : List Int).map V.int))) Q1 := fun z ez Q1 h => by
      refine ⟨l, _, _, _, rfl, rfl, upd_same, ixN_ok (by omega) (by show d % 8 % 4 < 4; omega), ?_⟩
      rw [ez, step_set]
      exact h _ rfl
    have ret : ∀ H', H' = upd (upd H l (.lst (([0, 0, 0, 0] : List Int).map V.int))) l (.lst ((mv ⟨0, 0, 0, 0⟩ d n).l.map V.int)) → ∀ q2, H' q2 = none → Q (.ref q2) (upd H' q2 (.tup ((mv ⟨0, 0, 0, 0⟩ d n).l.map V.int))) := fun H' e q2 hq2 => by
      rw [upd_upd] at e
      have s1 : Same H H' := by
        rw [e]
        exact sm_upd hl
      exact q _ _ (sm_updN s1 hq2) (s1.free hq2) upd_same
    refine ite2 (fun c => ?_) (fun c => ?_)
    · have c' : d % 8 < 4 := of_decide_eq_true c
      refine ⟨_, rfl, _, rfl, _, rfl, d % 8, 4, rfl, rfl, (by show (0 : Int) < 4; decide), fin n (by rw [if_pos c']) _ fun H' e => ?_⟩
      exact ⟨_, rfl, l, _, rfl, .inl ⟨SqL.of (by rw [e]; exact upd_same), ret H' e⟩⟩
    · have c' : ¬ d % 8 < 4 := fun z => c (decide_eq_true z)
      refine ⟨_, rfl, 0, n, rfl, rfl, _, rfl, _, rfl, d % 8, 4, rfl, rfl, (by show (0 : Int) < 4; decide), fin (0 - n) (by rw [if_neg c']) _ fun H' e => ?_⟩
      exact ⟨_, rfl, l, _, rfl, .inl ⟨SqL.of (by rw [e]; exact upd_same), ret H' e⟩⟩

def spMoved (K : PySem.W.Frag) : Sp := fun vs H Q _ => ∃ (a b : Addr) (xs ys : List Int), vs = [.ref a, .ref b] ∧ SqT K H a (xs.map V.int) ∧ SqT K H b (ys.map V.int) ∧ xs.length = ys.length ∧ xs.length ≤ 100 ∧ NewT H (List.zipWith (· + ·) xs ys) Q
theorem sc_moved : FnScope ["position", "other", "one", "two"] ["position", "other"] (defScope s_moved) := ⟨rfl, rfl, rfl, by decide +kernel, rfl, by decide +kernel, by decide +kernel⟩
theorem c_moved (D : Dn K mg "moved" s_moved) (mt : mg "tuple" = none) (mz : mg "zip" = none) : Cal P w K mg base 1 "moved" (spMoved K) := by
  refine D.cal sc_moved (fun vs H Q E h => ?_) (fun _ _ _ _ _ _ us hl => match us, hl with | [_, _], _ => rfl) (fun f cdv A outer s H vs Q E hr h => ?_)
  · obtain ⟨a, b, xs, ys, rfl, _⟩ := h
    rfl
  · obtain ⟨a, b, xs, ys, rfl, ha, hb, hl, hs, q⟩ := h
    refine ⟨_, pss_one (ps_ret (pe_callTy call_tuple_of (by rfl) mt boot_tuple (pa_cons
      (pe_lc (own := [("one", 2), ("two", 3)]) (g := gTup K 2 (gCons (gName 2) (gCons (gName 3) gNil))) (tt := tYes) (by rfl) sc_moved.nd (RZ.pi_zipA (by rfl) mz (pa_cons (pv 0) (pa_cons (pv 1) pa_nil))) (blkOk_by (N := ["position", "other", "one", "two"]) (sc := defScope s_moved) (by decide +kernel))
        (fun _ _ _ _ _ => pg_tup rfl (pgs_cons (pg_name (i := 2) sc_moved.nd rfl (.inl rfl)) (pgs_cons (pg_name (i := 3) sc_moved.nd rfl (.inl rfl)) pgs_nil)))
        (fun _ _ _ _ _ => pts_nil) (fun _ _ _ _ _ => pe_op op_add (pv 2) (pv 3))) pa_nil))), ?_⟩
    refine ⟨_, rfl, _, rfl, a, b, _, _, rfl, .inr ⟨ha, hb, fun D hD => ?_⟩⟩
    refine lc_it (walk_zipT (K := K) (a := a) (b := b) (xs := xs.map V.int) (ys := ys.map V.int) (by simpa using hl))
      (fun i H' => Same H H' ∧ H' D = some (.lst (((List.zipWith (· + ·) xs ys).take i).map V.int))) ⟨sm_upd hD, upd_same⟩ (fun i H' _ p => ⟨sm_tup p.1 ha, sm_tup p.1 hb⟩) ?_ ?_
    · rintro i v H1 H2 hi ⟨s1, eD⟩ ⟨T, x, y, rfl, nT, rfl, gx, gy⟩
      have hi1 : i < xs.length := by simpa using hi
      have hi2 : i < ys.length := by omega
      have ex : x = .int xs[i] := map_at hi1 gx
      have ey : y = .int ys[i] := map_at hi2 gy
      subst ex ey
      have nDT : D ≠ T := ne_of_none eD nT
      refine ⟨T, [_, _], rfl, .inl (.inl upd_same), rfl, _, [_], rfl, _, [], rfl, rfl, rfl, ?_⟩
      refine ⟨_, rfl, _, rfl, _, _, rfl, rfl, _, (upd_ne nDT).trans eD, ?_, ?_, ?_⟩
      · rw [List.length_map, List.length_take]
        exact lt24 (by omega)
      · exact sm_upd' (sm_updN s1 nT) hD
      · rw [upd_same, List.take_add_one, List.map_append]
        have e : (List.zipWith (· + ·) xs ys)[i]? = some (xs[i] + ys[i]) := by
          rw [List.getElem?_zipWith, List.getElem?_eq_getElem hi1, List.getElem?_eq_getElem hi2]
        rw [e]
        rfl
    · rintro H1 ⟨s1, eD⟩
      have el : (List.zipWith (· + ·) xs ys).take (xs.map V.int).length = List.zipWith (· + ·) xs ys := List.take_of_length_le (by rw [List.length_zipWith, List.length_map]; omega)
      rw [el] at eD
      exact ⟨D, _, rfl, .inl ⟨SqL.of eD, fun p hp => q _ _ (sm_updN s1 hp) (s1.free hp) upd_same⟩⟩

def spTurned (K : PySem.W.Frag) : Sp := fun vs H Q _ => ∃ (a : Addr) (q : P4) (e : Int), vs = [.ref a, .int e] ∧ SqT K H a (q.l.map V.int) ∧ NewT H (rot q e).l Q
theorem sc_turned : FnScope ["position", "eighths", "found", "direction", "many"] ["position", "eighths"] (defScope s_turned) := ⟨rfl, rfl, rfl, by decide +kernel, rfl, by decide +kernel, by decide +kernel⟩
theorem c_turned (D : Dn K mg "turned" s_turned) (me : mg "enumerate" = none) (nw : TupG K mg "NOWHERE" [0, 0, 0, 0]) (cs : Cal P w K mg base 1 "step" spStep) (cm : Cal P w K mg base 1 "moved" (spMoved K)) : Cal P w K mg base 2 "turned" (spTurned K) := by
  refine D.cal sc_turned (fun vs H Q E h => ?_) (fun _ _ _ _ _ _ us hl => match us, hl with | [_, _], _ => rfl) (fun f cdv A outer s H vs Q E hr h => ?_)
  · obtain ⟨a, q, e, rfl, _⟩ := h
    rfl
  · obtain ⟨a, q, e, rfl, ha, k⟩ := h
    obtain ⟨n0, hn0, tn0⟩ := nw
    refine ⟨_, pss_cons (ps_set (i := 2) sc_turned.nd rfl (.inl rfl) (pe_gv (v := .ref n0) rfl ⟨_, hn0, rfl⟩))
      (pss_cons (ps_for PassesOwn.never rfl (pi_enumT (by rfl) me (pa_cons (pv 0) pa_nil)) (pg_tup rfl (pgs_cons (pg_name (i := 3) sc_turned.nd rfl (.inl rfl)) (pgs_cons (pg_name (i := 4) sc_turned.nd rfl (.inl rfl)) pgs_nil)))
        (pss_one (ps_set (i := 2) sc_turned.nd rfl (.inl rfl) (pe_c cm hr (by decide) rfl (pa_cons (pv 2) (pa_cons (pe_c cs hr (by decide) rfl (pa_cons (pe_op op_add (pv 3) (pv 1)) (pa_cons (pv 4) pa_nil))) pa_nil))))))
      (pss_one (ps_ret (pv 2)))), ?_⟩
    refine ⟨_, rfl, a, _, rfl, ha, ?_⟩
    refine for_it (walk_enumT (K := K) (a := a) (xs := q.l.map V.int))
      (fun i σ H' => Same H H' ∧ ∃ (g : Addr) (d m : Option V), σ = [some (.ref a), some (.int e), some (.ref g), d, m] ∧ SqT K H' g ((tn q e i).l.map V.int) ∧ (0 < i → H g = none ∧ H' g = some (.tup ((tn q e i).l.map V.int))))
      ⟨Same.refl H, n0, none, none, rfl, tn0 H, fun z => absurd z (Nat.lt_irrefl _)⟩ (fun i σ H' _ p => sm_tup p.1 ha) ?_ ?_
    · rintro i v σ H1 H2 hi ⟨s1, g, d, m, rfl, hg, _⟩ ⟨T, x, y, rfl, nT, rfl, gx, gy⟩
      have hi1 : i < q.l.length := by simpa using hi
      obtain rfl : V.int (i : Nat) = x := Option.some.inj gx
      have ey : y = .int q.l[i] := map_at hi1 gy
      subst ey
      have s2 : Same H1 (upd H1 T (.tup [.int (i : Nat), .int q.l[i]])) := sm_upd nT
      refine ⟨T, [_, _], rfl, .inl (.inl upd_same), rfl, _, [_], rfl, _, [], rfl, rfl, ?_⟩
      refine ⟨_, rfl, _, rfl, _, rfl, (i : Int), e, rfl, rfl, _, rfl, (i : Int) + e, q.l[i], rfl, fun H3 p3 s3 n3 e3 => ?_⟩
      refine ⟨g, p3, (tn q e i).l, (mv ⟨0, 0, 0, 0⟩ ((i : Int) + e) q.l[i]).l, rfl, sm_tup (s2.trans s3) hg, sqt_of e3, rfl, by show (4 : Nat) ≤ 100; decide, fun H4 p4 s4 n4 e4 => ?_⟩
      rw [mv_add] at e4
      have en : tn q e (i + 1) = mv (tn q e i) ((i : Int) + e) q.l[i] := by
        show mv (tn q e i) ((i : Int) + e) (q.l.getD i 0) = _
        rw [List.getD_eq_getElem?_getD, List.getElem?_eq_getElem hi1]
        rfl
      rw [← en] at e4
      have s5 : Same H H4 := s1.trans (s2.trans (s3.trans s4))
      exact ⟨s5, p4, _, _, rfl, sqt_of e4, fun _ => ⟨s1.free (s2.free (s3.free n4)), e4⟩⟩
    · rintro σ H1 ⟨s1, g, d, m, rfl, hg, hn⟩
      obtain ⟨h1, h2⟩ := hn (by show 0 < 4; decide)
      exact ⟨_, rfl, k H1 g s1 h1 h2⟩

theorem cut4 (p : Po) : cutV p.vs none (some 4) = p.pos.l.map V.int := rfl
theorem notAll (p : Po) : ¬ (HT.sIx p.vs.length 0 none = 0 ∧ HT.sIx p.vs.length p.vs.length (some 4) = p.vs.length) := by
  rintro ⟨_, h⟩
  have : (4 : Nat) = 5 := h
  omega
def spLaid (K : PySem.W.Frag) : Sp := fun vs H Q _ => ∃ (a b : Addr) (p q : Po), vs = [.ref a, .ref b] ∧ SqT K H a p.vs ∧ SqT K H b q.vs ∧ NewT H (laid p q).l Q
theorem sc_laid : FnScope ["pose", "other"] ["pose", "other"] (defScope s_laid) := ⟨rfl, rfl, rfl, by decide +kernel, rfl, by decide +kernel, by decide +kernel⟩
theorem c_laid (D : Dn K mg "laid" s_laid) (e8 : IntG mg "EIGHTHS" 8) (cm : Cal P w K mg base 1 "moved" (spMoved K)) (ct : Cal P w K mg base 2 "turned" (spTurned K)) : Cal P w K mg base 3 "laid" (spLaid K) := by
  refine D.cal sc_laid (fun vs H Q E h => ?_) (fun _ _ _ _ _ _ us hl => match us, hl with | [_, _], _ => rfl) (fun f cdv A outer s H vs Q E hr h => ?_)
  · obtain ⟨a, b, p, q, rfl, _⟩ := h
    rfl
  · obtain ⟨a, b, p, q, rfl, ha, hb, k⟩ := h
    refine ⟨_, pss_one (ps_ret (pe_op op_catA
      (pe_c cm hr (by decide) rfl (pa_cons (pe_slice sl_tupA (pv 0) po_none (po_some pe_int)) (pa_cons
        (pe_c ct hr (by decide) rfl (pa_cons (pe_slice sl_tupA (pv 1) po_none (po_some pe_int)) (pa_cons (pe_ix ix_tup (pv 0) pe_int (fun _ _ => rfl)) pa_nil))) pa_nil)))
      (pe_tup (pa_cons (pe_op op_mod (pe_op op_add (pe_ix ix_tup (pv 0) pe_int (fun _ _ => rfl)) (pe_ix ix_tup (pv 1) pe_int (fun _ _ => rfl))) (pe_gv rfl e8)) pa_nil)))), ?_⟩
    refine ⟨_, rfl, _, rfl, a, p.vs, rfl, ha, fun z => absurd z (notAll p), fun _ t1 h1 => ?_⟩
    have s1 := sm_upd (o := .tup (cutV p.vs none (some 4))) h1
    refine ⟨_, rfl, _, rfl, b, q.vs, rfl, sm_tup s1 hb, fun z => absurd z (notAll q), fun _ t2 h2 => ?_⟩
    have s2 := sm_upd (o := .tup (cutV q.vs none (some 4))) h2
    have s12 := s1.trans s2
    refine ⟨_, rfl, a, p.vs, 4, .int p.h, rfl, rfl, sm_tup s12 ha, rfl, ?_⟩
    refine ⟨t2, q.pos, p.h, rfl, sqt_of upd_same, fun H3 p3 s3 n3 e3 => ?_⟩
    have s13 := s12.trans s3
    have e1 : H3 t1 = some (.tup (p.pos.l.map V.int)) := s3 _ _ (s2 _ _ upd_same)
    refine ⟨t1, p3, p.pos.l, (rot q.pos p.h).l, rfl, sqt_of e1, sqt_of e3, rfl, by show (4 : Nat) ≤ 100; decide, fun H4 p4 s4 n4 e4 => ?_⟩
    have s14 := s13.trans s4
    refine ⟨_, rfl, a, p.vs, 4, .int p.h, rfl, rfl, sm_tup s14 ha, rfl, _, rfl, b, q.vs, 4, .int q.h, rfl, rfl, sm_tup s14 hb, rfl, p.h, q.h, rfl, rfl, p.h + q.h, 8, rfl, rfl, (by show (0 : Int) < 8; decide), (by show 1 ≤ sizeLine; decide), fun t5 n5 => ?_⟩
    have s5 := sm_upd (o := .tup [V.int ((p.h + q.h) % 8)]) n5
    refine ⟨p4, t5, _, _, rfl, rfl, sqt_of (s5 _ _ e4), sqt_of upd_same, (by show 4 + 1 ≤ sizeLine; decide), (fun z => by cases z), (fun _ z => by cases z), fun _ _ t6 n6 => ?_⟩
    have s15 := s14.trans s5
    exact k _ t6 (sm_updN s15 n6) (s15.free n6) upd_same
def spBack (K : PySem.W.Frag) : Sp := fun vs H Q _ => ∃ (a : Addr) (p : Po), vs = [.ref a] ∧ SqT K H a p.vs ∧ NewT H (back p).l Q
theorem sc_back : FnScope ["pose"] ["pose"] (defScope s_back) := ⟨rfl, rfl, rfl, by decide +kernel, rfl, by decide +kernel, by decide +kernel⟩
theorem c_back (D : Dn K mg "back" s_back) (e8 : IntG mg "EIGHTHS" 8) (e4 : IntG mg "HALF" 4) : Cal P w K mg base 1 "back" (spBack K) := by
  refine D.cal sc_back (fun vs H Q E h => ?_) (fun _ _ _ _ _ _ us hl => match us, hl with | [_], _ => rfl) (fun f cdv A outer s H vs Q E hr h => ?_)
  · obtain ⟨a, p, rfl, _⟩ := h
    rfl
  · obtain ⟨a, p, rfl, ha, k⟩ := h
    refine ⟨_, pss_one (ps_ret (pe_op op_catA (pe_slice sl_tupA (pv 0) po_none (po_some pe_int))
      (pe_tup (pa_cons (pe_op op_mod (pe_op op_add (pe_ix ix_tup (pv 0) pe_int (fun _ _ => rfl)) (pe_gv rfl e4)) (pe_gv rfl e8)) pa_nil)))), ?_⟩
    refine ⟨_, rfl, _, rfl, a, p.vs, rfl, ha, fun z => absurd z (notAll p), fun _ t1 h1 => ?_⟩
    have s1 := sm_upd (o := .tup (cutV p.vs none (some 4))) h1
    refine ⟨_, rfl, a, p.vs, 4, .int p.h, rfl, rfl, sm_tup s1 ha, rfl, p.h, 4, rfl, rfl, p.h + 4, 8, rfl, rfl, (by show (0 : Int) < 8; decide), (by show 1 ≤ sizeLine; decide), fun t5 n5 => ?_⟩
    have s5 := sm_upd (o := .tup [V.int ((p.h + 4) % 8)]) n5
    refine ⟨t1, t5, _, _, rfl, rfl, sqt_of (s5 _ _ upd_same), sqt_of upd_same, (by show 4 + 1 ≤ sizeLine; decide), (fun z => by cases z), (fun _ z => by cases z), fun _ _ t6 n6 => ?_⟩
    have s15 := s1.trans s5
    exact k _ t6 (sm_updN s15 n6) (s15.free n6) upd_same
end
end Rk
end
section
set_option Elab.async false
set_option linter.all false
set_option maxRecDepth 100000
set_option maxHeartbeats 4000000
/-! pieces.py, rows.py: ends_of, lead. -/
namespace Rk
open PySem PySem.Spec PyProof.Rows L2
section
variable {P : Program} {w : World} {K : PySem.W.Frag} {mg : Str → Option Value} {base : Heap}
def spEnds (K : PySem.W.Frag) : Sp := fun vs H Q _ => ∃ (k : Kd) (a : Addr) (p : Po), vs = [.str k.str, .ref a] ∧ SqT K H a p.vs ∧ NewTL H (endsOf k p) Q
theorem sc_ends : FnScope ["kind", "pose", "ends", "end"] ["kind", "pose"] (defScope s_ends_of) := ⟨rfl, rfl, rfl, by decide +kernel, rfl, by decide +kernel, by decide +kernel⟩
theorem c_ends (D : Dn K mg "ends_of" s_ends_of) (mt : mg "tuple" = none) (ho : TupG K mg "HOME" [0, 0, 0, 0, 0]) (oe : OEnds K w mg) (cb : Cal P w K mg base 1 "back" (spBack K)) (cl : Cal P w K mg base 3 "laid" (spLaid K)) : Cal P w K mg base 4 "ends_of" (spEnds K) := by
  refine D.cal sc_ends (fun vs H Q E h => ?_) (fun _ _ _ _ _ _ us hl => match us, hl with | [_, _], _ => rfl) (fun f cdv A outer s H vs Q E hr h => ?_)
  · obtain ⟨k, a, p, rfl, _⟩ := h
    rfl
  · obtain ⟨k, a, p, rfl, ha, q⟩ := h
    obtain ⟨h0, hh0, th0⟩ := ho
    obtain ⟨d, hd, hk⟩ := oe
    obtain ⟨t, rs, kd, ht, hrs⟩ := hk k
    refine ⟨_, pss_cons (ps_set (i := 2) sc_ends.nd rfl (.inl rfl) (pe_op op_catA (pe_tup (pa_cons (pe_c cb hr (by decide) rfl (pa_cons (pe_gv (v := .ref h0) rfl ⟨_, hh0, rfl⟩) pa_nil)) pa_nil)) (pe_ix ix_kdict (pe_gv (v := .ref d) rfl ⟨_, hd, rfl⟩) (pv 0) (fun _ _ => rfl))))
      (pss_one (ps_ret (pe_callTy call_tuple_of (by rfl) mt boot_tuple (pa_cons
        (pe_lc (own := [("end", 3)]) (g := gName 3) (tt := tYes) (by rfl) sc_ends.nd (pi_tup (pv 2)) (blkOk_by (N := ["kind", "pose", "ends", "end"]) (sc := defScope s_ends_of) (by decide +kernel))
          (fun _ _ _ _ _ => pg_name (i := 3) sc_ends.nd rfl (.inl rfl)) (fun _ _ _ _ _ => pts_nil) (fun _ _ _ _ _ => pe_c cl hr (by decide) rfl (pa_cons (pv 1) (pa_cons (pv 3) pa_nil)))) pa_nil)))), ?_⟩
    refine ⟨h0, ⟨0, 0, 0, 0, 0⟩, rfl, th0 H, fun H1 b s1 n1 e1 => ⟨by show 1 ≤ sizeLine; decide, fun t2 n2 => ?_⟩⟩
    rw [back_home] at e1
    have s2 := sm_upd (o := .tup [V.ref b]) n2
    refine ⟨_, rfl, d, k.str, .ref t, rfl, rfl, kd, t2, t, [V.ref b], rs, rfl, rfl, sqt_of upd_same, ht _, ?_, (fun z => by cases z), (fun _ z => ?_), fun _ _ t3 n3 => ?_⟩
    · have e := pr_len hrs
      have e2 : (others k).length ≤ 3 := by cases k <;> decide
      show 1 + rs.length ≤ sizeLine
      exact small24 (by omega)
    · subst z
      have e := pr_len hrs
      have e2 : 1 ≤ (others k).length := by cases k <;> decide
      simp at e
      omega
    have s3 := sm_upd (o := .tup ([V.ref b] ++ rs)) n3
    have s13 : Same H _ := s1.trans (s2.trans s3)
    generalize hH3 : upd (upd H1 t2 (.tup [V.ref b])) t3 (.tup ([V.ref b] ++ rs)) = H3 at s3 s13
    have e3 : H3 t3 = some (.tup (V.ref b :: rs)) := by
      rw [← hH3]
      exact upd_same
    have eb : H3 b = some (.tup (Po.vs ⟨0, 0, 0, 0, 4⟩)) := s3 _ _ (s2 _ _ e1)
    -- what the tuple holds
    have src : ∀ H', Same H3 H' → Paired (fun (v : V) (o : Po) => ∃ a, v = V.ref a ∧ SqT K H' a o.vs) (V.ref b :: rs) (srcs k) := fun H' s' =>
      .cons ⟨b, rfl, sqt_of (s' _ _ eb)⟩ (Paired.mapP hrs fun v o z => by
        obtain ⟨a1, e, z⟩ := z
        exact ⟨a1, e, z H'⟩)
    have hlen : (V.ref b :: rs).length = (srcs k).length := pr_len (src H3 (Same.refl _))
    refine ⟨_, rfl, t3, rfl, ⟨_, sqt_of e3⟩, fun D0 hD => ?_⟩
    refine lc_it (walk_tup (K := K) (a := t3) (xs := V.ref b :: rs)) (fun i H' => Same H3 H' ∧ ∃ acc, H' D0 = some (.lst acc) ∧ PosH H' acc (((srcs k).map (laid p)).take i)) ⟨sm_upd hD, [], upd_same, .nil⟩ (fun i H' _ p => sqt_of (p.1 _ _ e3)) ?_ ?_
    · rintro i v H4 H5 hi ⟨s4, acc, eD, hacc⟩ ⟨rfl, gx⟩
      obtain ⟨o, go, a1, rfl, ha1⟩ := pr_get (src _ s4) gx
      refine ⟨rfl, ?_⟩
      refine ⟨_, rfl, _, rfl, a, a1, p, o, rfl, sm_tup s4 (sm_tup s13 ha), ha1, fun H6 p6 s6 n6 e6 => ?_⟩
      have hl6 : acc.length = i := by
        rw [pr_len hacc, List.length_take, List.length_map]
        omega
      have hi4 : i < 4 := by
        have e2 : (srcs k).length ≤ 4 := by cases k <;> decide
        omega
      refine ⟨acc, s6 _ _ eD, lt24 (by omega), sm_upd' (s4.trans s6) hD, acc ++ [.ref p6], upd_same, ?_⟩
      rw [List.take_add_one, List.getElem?_map, go]
      have nDp : p6 ≠ D0 := fun z => by
        rw [z, s6 _ _ eD] at e6
        cases e6
      have tk6 : Tk H6 (upd H6 D0 (.lst (acc ++ [.ref p6]))) := tk_upd fun xs z => by
        rw [s6 _ _ eD] at z
        cases z
      exact pr_snoc ((hacc.tk (sm_tk s6)).tk tk6) ⟨p6, rfl, (upd_ne nDp).trans e6⟩
    · rintro H4 ⟨s4, acc, eD, hacc⟩
      have el : ((srcs k).map (laid p)).take (V.ref b :: rs).length = endsOf k p := by
        rw [hlen, ← ends_srcs]
        exact List.take_of_length_le (by rw [List.length_map]; exact Nat.le_refl _)
      rw [el] at hacc
      refine ⟨D0, acc, rfl, .inl ⟨SqL.of eD, fun t5 n5 => ?_⟩⟩
      have s5 := sm_upd (o := .tup acc) n5
      exact q _ t5 acc (s13.trans (s4.trans s5)) (s13.free (s4.free n5)) upd_same (hacc.tk (sm_tk s5))
def spLead (K : PySem.W.Frag) : Sp := fun vs H Q _ => ∃ (a : Addr) (p : Po) (l : Lt), vs = [.ref a, .str l.str] ∧ SqT K H a p.vs ∧ NewT H (stp p l).l Q
theorem sc_lead : FnScope ["pose", "row", "letter"] ["pose", "row"] (defScope s_lead) := ⟨rfl, rfl, rfl, by decide +kernel, rfl, by decide +kernel, by decide +kernel⟩
theorem c_lead (D : Dn K mg "lead" s_lead) (ld : Leads K w mg) (cl : Cal P w K mg base 3 "laid" (spLaid K)) : Cal P w K mg base 4 "lead" (spLead K) := by
  refine D.cal sc_lead (fun vs H Q E h => ?_) (fun _ _ _ _ _ _ us hl => match us, hl with | [_, _], _ => rfl) (fun f cdv A outer s H vs Q E hr h => ?_)
  · obtain ⟨a, p, l, rfl, _⟩ := h
    rfl
  · obtain ⟨a, p, l, rfl, ha, q⟩ := h
    obtain ⟨d, hd, hk⟩ := ld
    obtain ⟨t, kd, ht⟩ := hk l
    refine ⟨_, pss_cons (ps_for PassesOwn.never rfl (pi_str (pv 1)) (pg_name (i := 2) sc_lead.nd rfl (.inl rfl))
        (pss_one (ps_set (i := 0) sc_lead.nd rfl (.inl rfl) (pe_c cl hr (by decide) rfl (pa_cons (pv 0) (pa_cons (pe_ix ix_kdict (pe_gv (v := .ref d) rfl ⟨_, hd, rfl⟩) (pv 2) (fun _ _ => rfl)) pa_nil))))))
      (pss_one (ps_ret (pv 0))), ?_⟩
    refine ⟨_, rfl, l.str, rfl, ?_⟩
    refine for_it (walk_str (z := l.str)) (fun i σ H' => (i = 0 ∧ H' = H ∧ σ = [some (.ref a), some (.str l.str), none]) ∨ (i = 1 ∧ ∃ g c, σ = [some (.ref g), some (.str l.str), c] ∧ Same H H' ∧ H g = none ∧ H' g = some (.tup (stp p l).vs)))
      (.inl ⟨rfl, rfl, rfl⟩) (fun _ _ _ _ _ => trivial) ?_ ?_
    · rintro i v σ H1 H2 hi h ⟨rfl, c, hc, rfl⟩
      have hi0 : i = 0 := by
        have : i < 1 := hi
        omega
      subst hi0
      rcases h with ⟨_, rfl, rfl⟩ | ⟨z, _⟩
      · have ec : c = l.cp := (Option.some.inj hc).symm
        subst ec
        refine ⟨_, rfl, _, rfl, d, l.str, .ref t, rfl, rfl, kd, a, t, p, leadP l, rfl, ha, ht _, fun H3 g s3 n3 e3 => ?_⟩
        exact .inr ⟨rfl, g, _, rfl, s3, n3, e3⟩
      · exact absurd z (by decide)
    · rintro σ H1 h
      rcases h with ⟨z, _⟩ | ⟨_, g, c, rfl, s1, n1, e1⟩
      · exact absurd z (by cases l <;> decide)
      · exact ⟨_, rfl, q H1 g s1 n1 e1⟩
end
end Rk
end
section
set_option Elab.async false
set_option linter.all false
set_option maxRecDepth 100000
set_option maxHeartbeats 4000000
/-! The law's draws: cell, digits, draw, pick. -/
namespace Rk
open PySem PySem.Spec PyProof.Rows L2
section
variable {P : Program} {w : World} {K : PySem.W.Frag} {mg : Str → Option Value} {base : Heap}
def spCell (K : PySem.W.Frag) : Sp := fun vs H Q _ => ∃ (a : Addr) (ns : List Int) (j : Nat), vs = [.ref a, .int j] ∧ SqL K H a (ns.map V.int) ∧ ∀ z : Int, Q (.int z) H
theorem sc_cell : FnScope ["_law_script", "_law_k"] ["_law_script", "_law_k"] (defScope s_law_cell) := ⟨rfl, rfl, rfl, by decide +kernel, rfl, by decide +kernel, by decide +kernel⟩
theorem c_cell (D : Dn K mg "_law_cell" s_law_cell) (ml : mg "len" = none) : Cal P w K mg base 1 "_law_cell" (spCell K) := by
  refine D.cal sc_cell (fun vs H Q E h => ?_) (fun _ _ _ _ _ _ us hl => match us, hl with | [_, _], _ => rfl) (fun f cdv A outer s H vs Q E hr h => ?_)
  · obtain ⟨a, ns, j, rfl, _⟩ := h
    rfl
  · obtain ⟨a, ns, j, rfl, ha, q⟩ := h
    refine ⟨_, pss_cons (ps_if (pt_cmpR op_lt (pv 1) (pe_callB call_len_seq (by rfl) ml PySem.boot_len (pa_cons (pv 0) pa_nil)) (nomark _)) (pss_one (ps_ret (pe_ix ix_list (pv 0) (pv 1) (fun _ _ => rfl)))) pss_nil)
      (pss_one (ps_ret pe_int)), ?_⟩
    refine ⟨_, rfl, _, rfl, a, _, rfl, .inl ha, (j : Int), _, rfl, rfl, _, rfl, ite2 (fun c => ?_) (fun _ => q 0)⟩
    have c' : (j : Int) < ((ns.map V.int).length : Nat) := of_decide_eq_true c
    have hj : j < ns.length := by
      rw [List.length_map] at c'
      omega
    refine ⟨_, rfl, _, rfl, a, _, (j : Int), .int ns[j], rfl, rfl, ha, atI_nat ?_, q _⟩
    rw [List.getElem?_map, List.getElem?_eq_getElem hj]
    rfl
def spDigits (K : PySem.W.Frag) : Sp := fun vs H Q _ => ∃ (a : Addr) (ns : List Int), vs = [.ref a, .int 0, .int 63] ∧ SqL K H a (ns.map V.int) ∧ ∀ ds : List Int, NewL H ds Q
theorem sc_digits : FnScope ["_law_script", "_law_first", "_law_last", "_law_digits_here", "_law_k", "_law_cell_here", "_law_turn", "_law_seed"] ["_law_script", "_law_first", "_law_last"] (defScope s_law_digits) := ⟨rfl, rfl, rfl, by decide +kernel, rfl, by decide +kernel, by decide +kernel⟩
theorem c_digits (D : Dn K mg "_law_digits" s_law_digits) (mr : mg "range" = none) (mi : mg "int" = none) (cc : Cal P w K mg base 1 "_law_cell" (spCell K)) : Cal P w K mg base 2 "_law_digits" (spDigits K) := by
  refine D.cal sc_digits (fun vs H Q E h => ?_) (fun _ _ _ _ _ _ us hl => match us, hl with | [_, _, _], _ => rfl) (fun f cdv A outer s H vs Q E hr h => ?_)
  · obtain ⟨a, ns, rfl, _⟩ := h
    rfl
  · obtain ⟨a, ns, rfl, ha, q⟩ := h
    have nd := sc_digits.nd
    refine ⟨_, pss_cons (ps_set (i := 3) nd rfl (.inl rfl) (pe_lst pa_nil))
      (pss_cons (ps_for PassesOwn.never rfl (pi_range2 (by rfl) mr (pa_cons (pv 1) (pa_cons (pv 2) pa_nil))) (pg_name (i := 4) nd rfl (.inl rfl))
        (pss_cons (ps_set (i := 5) nd rfl (.inl rfl) (pe_c cc hr (by decide) rfl (pa_cons (pv 0) (pa_cons (pv 4) pa_nil))))
        (Evl.pss_cut (ps_if (pt_cmpR op_lt (pv 5) pe_int (nomark _)) (pss_one (ps_set (i := 5) nd rfl (.inl rfl) (pe_op op_sub pe_int (pe_op op_mul pe_int (pv 5))))) pss_nil)
        (pss_one (ps_if (pt_cmpR op_ge (pv 5) (pe_op op_pow pe_int pe_int) (nomark _))
          (pss_one (ps_for PassesOwn.never rfl (pi_range1 (by rfl) mr (pa_cons pe_int pa_nil)) (pg_name (i := 6) nd rfl (.inl rfl))
            (pss_one (ps_if (pt_cmpR op_gt (pv 5) pe_int (nomark _))
              (pss_cons (ps_expr (pe_bm PySem.F.plainAttrs_list PySem.F.slot_list_append PySem.F.type_list_append mt_append (pv 3) (pa_cons (pe_op op_mod (pe_callTy call_int1 (by rfl) mi boot_int (pa_cons (pv 5) pa_nil)) pe_int) pa_nil)))
              (pss_one (ps_set (i := 5) nd rfl (.inl rfl) (pe_op op_fdiv (pv 5) pe_int)))) pss_nil))))
          (pss_cons (ps_set (i := 7) nd rfl (.inl rfl) (pe_op op_mod (pe_callTy call_int1 (by rfl) mi boot_int (pa_cons (pe_op op_add (pe_op op_add (pe_op op_mul (pv 5) pe_int) (pe_op op_mul (pv 4) pe_int)) pe_int) pa_nil)) pe_int))
          (pss_one (ps_for PassesOwn.never rfl (pi_range1 (by rfl) mr (pa_cons pe_int pa_nil)) (pg_name (i := 6) nd rfl (.inl rfl))
            (pss_cons (ps_set (i := 7) nd rfl (.inl rfl) (pe_op op_mod (pe_callTy call_int1 (by rfl) mi boot_int (pa_cons (pe_op op_add (pe_op op_add (pe_op op_mul (pv 7) pe_int) (pe_op op_mul pe_int (pv 6))) pe_int) pa_nil)) pe_int))
            (pss_one (ps_expr (pe_bm PySem.F.plainAttrs_list PySem.F.slot_list_append PySem.F.type_list_append mt_append (pv 3) (pa_cons (pe_op op_mod (pe_callTy call_int1 (by rfl) mi boot_int (pa_cons (pe_op op_fdiv (pv 7) pe_int) pa_nil)) pe_int) pa_nil)))))))))))))
      (pss_one (ps_ret (pv 3)))), ?_⟩
    refine ⟨Nat.zero_le _, fun l hl => ?_⟩
    have s0 := sm_upd (o := .lst []) hl
    refine ⟨_, rfl, _, rfl, 0, 63, rfl, ⟨by decide, by decide, by decide, by decide⟩, ?_⟩
    -- behind i cells: the list has at most 60 a cell
    let Lst (n : Nat) (H' : Hp) : Prop := ∃ ds : List Int, H' = upd H l (.lst (ds.map V.int)) ∧ ds.length ≤ n
    have grow : ∀ {n : Nat} {H' : Hp} {z : Int}, Lst n H' → n < 10000 → ∃ xs : List V, H' l = some (.lst xs) ∧ xs.length < sizeLine ∧ Lst (n + 1) (upd H' l (.lst (xs ++ [.int z]))) := fun {n H' z} h hn => by
      obtain ⟨ds, rfl, hd⟩ := h
      refine ⟨_, upd_same, lt24 (by rw [List.length_map]; omega), ds ++ [z], ?_, by rw [List.length_append, List.length_singleton]; omega⟩
      rw [upd_upd, List.map_append]
      rfl
    refine for_range (lo := 0) (n := 63) (fun i σ H' => ∃ y4 y5 y6 y7, σ = [some (.ref a), some (.int 0), some (.int 63), some (.ref l), y4, y5, y6, y7] ∧ Lst (60 * i) H') ⟨none, none, none, none, rfl, [], rfl, Nat.le_refl _⟩ ?_ ?_
    · rintro i σ H1 hi ⟨y4, y5, y6, y7, rfl, hL⟩
      have hS : SqL K H1 a (ns.map V.int) := by
        obtain ⟨ds, rfl, _⟩ := hL
        exact (sm_upd (o := .lst (ds.map V.int)) hl).seq ha
      have e0 : (0 : Int) + (i : Nat) = ((i : Nat) : Int) := by omega
      refine ⟨_, rfl, _, rfl, a, ns, i, (by rw [e0]; rfl), hS, fun z0 => ?_⟩
      refine ⟨fun σ' H' => ∃ z : Int, σ' = [some (.ref a), some (.int 0), some (.int 63), some (.ref l), some (.int (0 + (i : Nat))), some (.int z), y6, y7] ∧ Lst (60 * i) H', ?_, ?_⟩
      · refine ⟨_, rfl, _, _, rfl, rfl, _, rfl, ite2 (fun _ => ?_) (fun _ => ⟨z0, rfl, hL⟩)⟩
        exact ⟨_, rfl, _, _, rfl, rfl, .inl ⟨by decide, by decide⟩, _, _, rfl, rfl, _, rfl, hL⟩
      · rintro σ' H2 ⟨z, rfl, hL2⟩
        refine ⟨_, rfl, _, _, rfl, rfl, ⟨by decide, by decide, by decide⟩, _, _, rfl, rfl, _, rfl, ite2 (fun _ => ?_) (fun _ => ?_)⟩
        · refine ⟨60, rfl, by decide, by decide, for_range (lo := 0) (n := 60) (fun j σ H' => ∃ (z : Int) (y6 : Option V), σ = [some (.ref a), some (.int 0), some (.int 63), some (.ref l), some (.int (0 + (i : Nat))), some (.int z), y6, y7] ∧ Lst (60 * i + j) H') ⟨z, y6, rfl, hL2⟩ ?_ ?_⟩
          · rintro j σ H3 hj ⟨z, y6, rfl, hL3⟩
            refine ⟨_, rfl, _, _, rfl, rfl, _, rfl, ite2 (fun _ => ?_) (fun _ => ?_)⟩
            · obtain ⟨xs, e1, e2, e3⟩ := grow (z := z % 1000) hL3 (by omega)
              refine ⟨_, rfl, .inl ⟨rfl, _, SqL.of e1⟩, _, rfl, .inl ⟨_, rfl, _, _, rfl, rfl, (by show (0 : Int) < 1000; decide), l, xs, _, rfl, rfl, e1, e2, ?_⟩⟩
              exact ⟨_, rfl, _, _, rfl, rfl, ⟨by decide, by decide⟩, _, _, rfl, e3⟩
            · obtain ⟨ds, e1, e2⟩ := hL3
              exact ⟨z, _, rfl, ds, e1, by omega⟩
          · rintro σ H3 ⟨z, y6, rfl, hL3⟩
            exact ⟨_, _, _, _, rfl, by rw [show 60 * (i + 1) = 60 * i + 60 by omega]; exact hL3⟩
        · refine ⟨_, rfl, _, _, rfl, rfl, .inr ⟨by decide, by decide⟩, _, rfl, _, _, rfl, rfl, .inr ⟨by decide, by decide⟩, _, _, rfl, rfl, _, _, rfl, rfl, .inl ⟨_, rfl, _, _, rfl, rfl, (by show (0 : Int) < 2147483647; decide), ?_⟩⟩
          refine ⟨12, rfl, by decide, by decide, for_range (lo := 0) (n := 12) (fun j σ H' => ∃ (z sd : Int) (y6 : Option V), σ = [some (.ref a), some (.int 0), some (.int 63), some (.ref l), some (.int (0 + (i : Nat))), some (.int z), y6, some (.int sd)] ∧ Lst (60 * i + j) H') ⟨z, _, y6, rfl, hL2⟩ ?_ ?_⟩
          · rintro j σ H3 hj ⟨z, sd, y6, rfl, hL3⟩
            refine ⟨_, rfl, _, _, rfl, rfl, .inr ⟨by decide, by decide⟩, _, rfl, _, _, rfl, rfl, .inl ⟨by decide, by decide⟩, _, _, rfl, rfl, _, _, rfl, rfl, .inl ⟨_, rfl, _, _, rfl, rfl, (by show (0 : Int) < 2147483647; decide), ?_⟩⟩
            obtain ⟨xs, e1, e2, e3⟩ := grow (z := (sd * 16807 + 7 * (0 + (j : Nat)) + 1) % 2147483647 / 997 % 1000) hL3 (by omega)
            refine ⟨_, rfl, .inl ⟨rfl, _, SqL.of e1⟩, _, rfl, _, _, rfl, rfl, ⟨by decide, by decide⟩, .inl ⟨_, rfl, _, _, rfl, rfl, (by show (0 : Int) < 1000; decide), l, xs, _, rfl, rfl, e1, e2, ?_⟩⟩
            exact ⟨z, _, _, rfl, e3⟩
          · rintro σ H3 ⟨z, sd, y6, rfl, hL3⟩
            obtain ⟨ds, e1, e2⟩ := hL3
            exact ⟨_, _, _, _, rfl, ds, e1, by omega⟩
    · rintro σ H1 ⟨y4, y5, y6, y7, rfl, ds, rfl, _⟩
      exact ⟨_, rfl, q ds _ l (sm_upd hl) hl upd_same⟩
/-- one number drawn -/
def spDraw : Sp := fun vs H Q _ => ∃ (b d : Addr) (m : Int), vs = [.ref b, .int m] ∧ 0 < m ∧ BoxH H b d ∧ ∀ (H' : Hp) (r : Int), SameX b H H' → BoxH H' b d → 0 ≤ r → r < m → Q (.int r) H'
theorem sc_draw : FnScope ["_law_box", "_law_many", "_law_at"] ["_law_box", "_law_many"] (defScope s_law_draw) := ⟨rfl, rfl, rfl, by decide +kernel, rfl, by decide +kernel, by decide +kernel⟩
theorem c_draw (D : Dn K mg "_law_draw" s_law_draw) (ml : mg "len" = none) (mi : mg "int" = none) : Cal P w K mg base 1 "_law_draw" spDraw := by
  refine D.cal sc_draw (fun vs H Q E h => ?_) (fun _ _ _ _ _ _ us hl => match us, hl with | [_, _], _ => rfl) (fun f cdv A outer s H vs Q E hr h => ?_)
  · obtain ⟨b, d, m, rfl, _⟩ := h
    rfl
  · obtain ⟨b, d, m, rfl, hm, ⟨n, ds, hb, hd⟩, q⟩ := h
    refine ⟨_, pss_cons (ps_set (i := 2) sc_draw.nd rfl (.inl rfl) (pe_ix ix_list (pv 0) pe_int (fun _ _ => rfl)))
      (pss_cons (ps_asg (pe_op op_add (pv 2) pe_int) (pg_sub (pv 0) pe_int set_list))
      (pss_cons (ps_if (pt_cmpR op_lt (pv 2) (pe_callB call_len_seq (by rfl) ml PySem.boot_len (pa_cons (pe_ix ix_list (pv 0) pe_int (fun _ _ => rfl)) pa_nil)) (nomark _))
        (pss_one (ps_ret (pe_op op_mod (pe_callTy call_int1 (by rfl) mi boot_int (pa_cons (pe_ix ix_list (pe_ix ix_list (pv 0) pe_int (fun _ _ => rfl)) (pv 2) (fun _ _ => rfl)) pa_nil)) (pv 1)))) pss_nil)
      (pss_one (ps_ret (pe_op op_mod (pe_callTy call_int1 (by rfl) mi boot_int (pa_cons (pe_op op_add (pe_op op_mul (pv 2) pe_int) pe_int) pa_nil)) (pv 1)))))), ?_⟩
    have nbd : d ≠ b := fun z => by
      rw [z, hb] at hd
      have e := congrArg List.length (HO.lst.inj (Option.some.inj hd))
      have e2 := HO.lst.inj (Option.some.inj hd)
      cases ds with
      | nil => cases e2
      | cons z r => cases e2
    refine ⟨_, rfl, b, _, 1, .int n, rfl, rfl, SqL.of hb, rfl, ?_⟩
    refine ⟨_, rfl, (n : Int), 1, rfl, rfl, _, rfl, b, _, 1, 1, rfl, rfl, hb, rfl, ?_⟩
    have hb2 : (upd H b (.lst [.ref d, .int ((n : Int) + 1)])) b = some (.lst [.ref d, .int ((n : Int) + 1)]) := upd_same
    have hd2 : (upd H b (.lst [.ref d, .int ((n : Int) + 1)])) d = some (.lst (ds.map V.int)) := (upd_ne nbd).trans hd
    have fin : ∀ z : Int, Q (.int (z % m)) (upd H b (.lst [.ref d, .int ((n : Int) + 1)])) := fun z => by
      refine q _ _ (fun a o ne e => (upd_ne ne).trans e) ⟨n + 1, ds, ?_, hd2⟩ (Int.emod_nonneg _ (by omega)) (Int.emod_lt_of_pos _ hm)
      rw [upd_same]
      rfl
    refine ⟨_, rfl, _, rfl, b, _, 0, .ref d, rfl, rfl, SqL.of hb2, rfl, d, _, rfl, .inl (SqL.of hd2), (n : Int), _, rfl, rfl, _, rfl, ite2 (fun c => ?_) (fun _ => ?_)⟩
    · have c' : (n : Int) < ((ds.map V.int).length : Nat) := of_decide_eq_true c
      have hj : n < ds.length := by
        rw [List.length_map] at c'
        omega
      refine ⟨_, rfl, b, _, 0, .ref d, rfl, rfl, SqL.of hb2, rfl, _, rfl, d, _, (n : Int), .int ds[n], rfl, rfl, SqL.of hd2, atI_nat ?_, .inl ⟨_, rfl, _, rfl, _, m, rfl, rfl, hm, fin _⟩⟩
      rw [List.getElem?_map, List.getElem?_eq_getElem hj]
      rfl
    · exact ⟨_, rfl, (n : Int), 7, rfl, rfl, .inr ⟨by decide, by decide⟩, _, _, rfl, rfl, .inl ⟨_, rfl, _, rfl, _, m, rfl, rfl, hm, fin _⟩⟩
/-- one of a list's items, drawn -/
def spPick : Sp := fun vs H Q _ => ∃ (b d l : Addr) (xs : List V), vs = [.ref b, .ref l] ∧ BoxH H b d ∧ l ≠ b ∧ H l = some (.lst xs) ∧ xs ≠ [] ∧ ∀ (H' : Hp) (x : V), SameX b H H' → BoxH H' b d → x ∈ xs → Q x H'
theorem sc_pick : FnScope ["_law_box", "_law_rows"] ["_law_box", "_law_rows"] (defScope s_law_pick) := ⟨rfl, rfl, rfl, by decide +kernel, rfl, by decide +kernel, by decide +kernel⟩
theorem c_pick (D : Dn K mg "_law_pick" s_law_pick) (ml : mg "len" = none) (mi : mg "int" = none) (cd : Cal P w K mg base 1 "_law_draw" spDraw) : Cal P w K mg base 2 "_law_pick" spPick := by
  refine D.cal sc_pick (fun vs H Q E h => ?_) (fun _ _ _ _ _ _ us hl => match us, hl with | [_, _], _ => rfl) (fun f cdv A outer s H vs Q E hr h => ?_)
  · obtain ⟨b, d, l, xs, rfl, _⟩ := h
    rfl
  · obtain ⟨b, d, l, xs, rfl, hb, hlb, hl, hx, q⟩ := h
    refine ⟨_, pss_one (ps_ret (pe_ix ix_list (pv 1) (pe_op op_mod (pe_callTy call_int1 (by rfl) mi boot_int (pa_cons (pe_c cd hr (by decide) rfl (pa_cons (pv 0) (pa_cons pe_int pa_nil))) pa_nil)) (pe_callB call_len_seq (by rfl) ml PySem.boot_len (pa_cons (pv 1) pa_nil))) (fun _ _ => rfl))), ?_⟩
    refine ⟨_, rfl, _, rfl, b, d, 90, rfl, by decide, hb, fun H1 r s1 hb1 _ _ => .inl ⟨r, rfl, ?_⟩⟩
    have hl1 := s1 l _ hlb hl
    have pos : (0 : Int) < ((xs.length : Nat) : Int) := by
      cases xs with
      | nil => exact absurd rfl hx
      | cons x t =>
        rw [List.length_cons]
        omega
    refine ⟨_, rfl, l, xs, rfl, .inl (SqL.of hl1), r, _, rfl, rfl, pos, ?_⟩
    have h0 := Int.emod_nonneg r (show ((xs.length : Nat) : Int) ≠ 0 by omega)
    have h1 := Int.emod_lt_of_pos r pos
    have hj : (r % ((xs.length : Nat) : Int)).toNat < xs.length := by omega
    refine ⟨l, xs, _, xs[(r % ((xs.length : Nat) : Int)).toNat], rfl, rfl, SqL.of hl1, at_of (j := (r % ((xs.length : Nat) : Int)).toNat) (by omega) (List.getElem?_eq_getElem hj), q H1 _ s1 hb1 (List.getElem_mem hj)⟩
end
end Rk
end
section
set_option Elab.async false
set_option linter.all false
set_option maxRecDepth 100000
set_option maxHeartbeats 4000000
/-! Layouts on the heap. -/
namespace Rk
open PySem PySem.Spec PyProof.Rows L2

/-! ### all ends, piece by piece -/
def pcRows (n : Nat) : Option Pc → List (Nat × Nat × Po)
  | none => []
  | some pc => (endsOf pc.1 pc.2).zipIdx.map fun q => (n, q.2, q.1)
theorem allFrom_cons (n : Nat) (o : Option Pc) (r : Lay) : allFrom n (o :: r) = pcRows n o ++ allFrom (n + 1) r := by
  cases o <;> rfl
theorem allFrom_snoc : ∀ (y : Lay) (n : Nat) (o : Option Pc), allFrom n (y ++ [o]) = allFrom n y ++ pcRows (n + y.length) o
  | [], n, o => by
    rw [List.nil_append, allFrom_cons]
    simp [allFrom]
  | a :: r, n, o => by
    rw [List.cons_append, allFrom_cons, allFrom_cons, allFrom_snoc r (n + 1) o, List.append_assoc, List.length_cons, show n + 1 + r.length = n + (r.length + 1) by omega]
theorem all_take {y : Lay} {i : Nat} {o : Option Pc} (h : y[i]? = some o) : allEnds (y.take (i + 1)) = allEnds (y.take i) ++ pcRows i o := by
  obtain ⟨hi, _⟩ := List.getElem?_eq_some_iff.mp h
  unfold allEnds
  rw [List.take_add_one, h]
  show allFrom 0 (_ ++ [o]) = _
  rw [allFrom_snoc, List.length_take, Nat.min_eq_left (Nat.le_of_lt hi), Nat.zero_add]
theorem pcRows_len (n : Nat) (o : Option Pc) : (pcRows n o).length ≤ 4 := by
  cases o with
  | none => exact Nat.zero_le _
  | some pc =>
    have := (ends_len pc.1 pc.2).1
    simpa [pcRows] using this
theorem all_len : ∀ (y : Lay) (n : Nat), (allFrom n y).length ≤ 4 * y.length
  | [], _ => Nat.zero_le _
  | o :: r, n => by
    have h1 := pcRows_len n o
    have h2 := all_len r (n + 1)
    rw [allFrom_cons, List.length_append, List.length_cons]
    omega
theorem zip_take {α β : Type} (f : α → Nat → β) {l : List α} {e : Nat} {x : α} (h : l[e]? = some x) : ((l.zipIdx.map fun q => f q.1 q.2).take (e + 1)) = ((l.zipIdx.map fun q => f q.1 q.2).take e) ++ [f x e] := by
  rw [List.take_add_one, List.getElem?_map, List.getElem?_zipIdx, h]
  simp

/-! ### predicates -/
def PcH (H : Hp) (v : V) : Option Pc → Prop
  | none => v = .non
  | some pc => ∃ t q, v = .ref t ∧ H t = some (.tup [.str pc.1.str, .ref q]) ∧ H q = some (.tup pc.2.vs)
theorem PcH.tk {H H' : Hp} {v : V} {o : Option Pc} (t : Tk H H') (h : PcH H v o) : PcH H' v o := by
  cases o with
  | none => exact h
  | some pc =>
    obtain ⟨a, q, e, h1, h2⟩ := h
    exact ⟨a, q, e, t _ _ h1, t _ _ h2⟩
abbrev PcsH (H : Hp) : List V → Lay → Prop := Paired (PcH H)
theorem PcsH.tk {H H' : Hp} {vs : List V} {y : Lay} (t : Tk H H') (h : PcsH H vs y) : PcsH H' vs y := Paired.mapP h fun _ _ z => z.tk t
/-- a row (number, end, pose), a tuple -/
def TrH (H : Hp) (v : V) (z : Nat × Nat × Po) : Prop := ∃ t q, v = .ref t ∧ H t = some (.tup [.int (z.1 : Nat), .int (z.2.1 : Nat), .ref q]) ∧ H q = some (.tup z.2.2.vs)
theorem TrH.tk {H H' : Hp} {v : V} {z : Nat × Nat × Po} (t : Tk H H') (h : TrH H v z) : TrH H' v z := by
  obtain ⟨a, q, e, h1, h2⟩ := h
  exact ⟨a, q, e, t _ _ h1, t _ _ h2⟩
abbrev TrsH (H : Hp) : List V → List (Nat × Nat × Po) → Prop := Paired (TrH H)
theorem TrsH.tk {H H' : Hp} {vs : List V} {y : List (Nat × Nat × Po)} (t : Tk H H') (h : TrsH H vs y) : TrsH H' vs y := Paired.mapP h fun _ _ z => z.tk t
/-- a layout, a tuple -/
def LayT (H : Hp) (a : Addr) (y : Lay) : Prop := ∃ xs, H a = some (.tup xs) ∧ PcsH H xs y
theorem LayT.tk {H H' : Hp} {a : Addr} {y : Lay} (t : Tk H H') (h : LayT H a y) : LayT H' a y := by
  obtain ⟨xs, h1, h2⟩ := h
  exact ⟨xs, t _ _ h1, h2.tk t⟩
/-- a layout, a list -/
def LayL (H : Hp) (a : Addr) (y : Lay) : Prop := ∃ xs, H a = some (.lst xs) ∧ PcsH H xs y
theorem LayL.sm {H H' : Hp} {a : Addr} {y : Lay} (t : Same H H') (h : LayL H a y) : LayL H' a y := by
  obtain ⟨xs, h1, h2⟩ := h
  exact ⟨xs, t _ _ h1, h2.tk (sm_tk t)⟩
theorem tk_at {H H' : Hp} {D : Addr} {acc : List V} {o : HO} (s : Same H H') (h : H D = none) (e : H' D = some (.lst acc)) : Tk H (upd H' D o) := fun a xs z => (tk_lst e) a xs (s a _ z)
/-- data of a pose, a piece, a layout -/
def poD (p : Po) : PyData := .tuple (p.l.map PyData.int)
def pcD : Option Pc → PyData
  | none => .none
  | some pc => .tuple [.str pc.1.str, poD pc.2]
def trD (z : Nat × Nat × Po) : PyData := .tuple [.int (z.1 : Nat), .int (z.2.1 : Nat), poD z.2.2]
theorem dp_ints {K : PySem.W.Frag} {H : Hp} : ∀ ns : List Int, DpAll K H (ns.map V.int) (ns.map PyData.int)
  | [] => .nil
  | n :: r => .cons (.int n) (dp_ints r)
theorem dp_po {K : PySem.W.Frag} {H : Hp} {a : Addr} {p : Po} (h : SqT K H a p.vs) : Dp K H (.ref a) (poD p) := .tup h (dp_ints _)
theorem dp_pc {K : PySem.W.Frag} {H : Hp} {v : V} {o : Option Pc} (h : PcH H v o) : Dp K H v (pcD o) := by
  cases o with
  | none =>
    obtain rfl : v = .non := h
    exact .non
  | some pc =>
    obtain ⟨t, q, rfl, h1, h2⟩ := h
    exact .tup (sqt_of h1) (.cons (.str _) (.cons (dp_po (sqt_of h2)) .nil))
theorem dp_tr {K : PySem.W.Frag} {H : Hp} {v : V} {z : Nat × Nat × Po} (h : TrH H v z) : Dp K H v (trD z) := by
  obtain ⟨t, q, rfl, h1, h2⟩ := h
  exact .tup (sqt_of h1) (.cons (.int _) (.cons (.int _) (.cons (dp_po (sqt_of h2)) .nil)))
theorem dp_all {α : Type} {K : PySem.W.Frag} {H : Hp} {F : V → α → Prop} {f : α → PyData} (g : ∀ v o, F v o → Dp K H v (f o)) : ∀ {vs : List V} {y : List α}, Paired F vs y → DpAll K H vs (y.map f)
  | _, _, .nil => .nil
  | _, _, .cons h t => .cons (g _ _ h) (dp_all g t)
theorem poD_eqv (p q : Po) : PyData.eqv (poD p) (poD q) = decide (p = q) := by
  obtain ⟨a, b, c, d, h⟩ := p
  obtain ⟨a', b', c', d', h'⟩ := q
  rw [Bool.eq_iff_iff]
  simp [poD, Po.l, PyData.eqv, PyData.eqvAll]
theorem poD_shaped (p : Po) : SeqAt.shaped (poD p) = true := by
  obtain ⟨a, b, c, d, h⟩ := p
  rfl
end Rk
end
section
set_option Elab.async false
set_option linter.all false
set_option maxRecDepth 100000
set_option maxHeartbeats 4000000
/-! layouts.py: all_ends, has_overlap, laid_piece, joined_to, neighbours. -/
namespace Rk
open PySem PySem.Spec PyProof.Rows L2
section
variable {P : Program} {w : World} {K : PySem.W.Frag} {mg : Str → Option Value} {base : Heap}
def spAll : Sp := fun vs H Q _ => ∃ (a : Addr) (y : Lay), vs = [.ref a] ∧ LayT H a y ∧ y.length ≤ 1000 ∧ ∀ H' t xs, Same H H' → H t = none → H' t = some (.tup xs) → TrsH H' xs (allEnds y) → Q (.ref t) H'
theorem sc_all : FnScope ["layout", "found", "number", "piece", "end", "pose"] ["layout"] (defScope s_all_ends) := ⟨rfl, rfl, rfl, by decide +kernel, rfl, by decide +kernel, by decide +kernel⟩
theorem c_all (D : Dn K mg "all_ends" s_all_ends) (mt : mg "tuple" = none) (me : mg "enumerate" = none) (ce : Cal P w K mg base 4 "ends_of" (spEnds K)) : Cal P w K mg base 5 "all_ends" spAll := by
  refine D.cal sc_all (fun vs H Q E h => ?_) (fun _ _ _ _ _ _ us hl => match us, hl with | [_], _ => rfl) (fun f cdv A outer s H vs Q E hr h => ?_)
  · obtain ⟨a, y, rfl, _⟩ := h
    rfl
  · obtain ⟨a, y, rfl, ⟨pv_, ha, hp⟩, hy, q⟩ := h
    have nd := sc_all.nd
    refine ⟨_, pss_cons (ps_set (i := 1) nd rfl (.inl rfl) (pe_lst pa_nil))
      (pss_cons (ps_for PassesOwn.never rfl (pi_enumT (by rfl) me (pa_cons (pv 0) pa_nil)) (pg_tup rfl (pgs_cons (pg_name (i := 2) nd rfl (.inl rfl)) (pgs_cons (pg_name (i := 3) nd rfl (.inl rfl)) pgs_nil)))
        (pss_one (ps_if (pt_cmpR op_notN1 (pv 3) pe_non (nomark _))
          (pss_one (ps_for PassesOwn.never rfl (pi_enumT (by rfl) me (pa_cons (pe_c ce hr (by decide) rfl (pa_cons (pe_ix ix_tup (pv 3) pe_int (fun _ _ => rfl)) (pa_cons (pe_ix ix_tup (pv 3) pe_int (fun _ _ => rfl)) pa_nil))) pa_nil)) (pg_tup rfl (pgs_cons (pg_name (i := 4) nd rfl (.inl rfl)) (pgs_cons (pg_name (i := 5) nd rfl (.inl rfl)) pgs_nil)))
            (pss_one (ps_expr (pe_bm PySem.F.plainAttrs_list PySem.F.slot_list_append PySem.F.type_list_append mt_append (pv 1) (pa_cons (pe_tup (pa_cons (pv 2) (pa_cons (pv 4) (pa_cons (pv 5) pa_nil)))) pa_nil))))))
          pss_nil)))
      (pss_one (ps_ret (pe_callTy call_tuple_of (by rfl) mt boot_tuple (pa_cons (pv 1) pa_nil))))), ?_⟩
    refine ⟨Nat.zero_le _, fun l hl => ?_⟩
    refine ⟨_, rfl, a, _, rfl, sqt_of (sm_upd hl _ _ ha), ?_⟩
    have hlen : pv_.length = y.length := pr_len hp
    refine for_it (walk_enumT (K := K) (a := a) (xs := pv_))
      (fun i σ H' => Same H H' ∧ ∃ (c2 c3 c4 c5 : Option V) (acc : List V), σ = [some (.ref a), some (.ref l), c2, c3, c4, c5] ∧ H' l = some (.lst acc) ∧ TrsH H' acc (allEnds (y.take i)))
      ⟨sm_upd hl, none, none, none, none, [], rfl, upd_same, .nil⟩ (fun i σ H' _ p => sqt_of (p.1 _ _ ha)) ?_ ?_
    · rintro i v σ H1 H2 hi ⟨s1, c2, c3, c4, c5, acc, rfl, eL, hacc⟩ ⟨T, x, o, rfl, nT, rfl, gx, go⟩
      obtain rfl : V.int (i : Nat) = x := Option.some.inj gx
      obtain ⟨pc, gpc, hpc⟩ := pr_get hp go
      have s2 : Same H1 (upd H1 T (.tup [.int (i : Nat), o])) := sm_upd nT
      refine ⟨T, [_, _], rfl, .inl (.inl upd_same), rfl, _, [_], rfl, _, [], rfl, rfl, ?_⟩
      have tkH : Tk H (upd H1 T (.tup [.int (i : Nat), o])) := sm_tk (s1.trans s2)
      have hpc2 := hpc.tk tkH
      have haccL : acc.length ≤ 4000 := by
        have e1 := pr_len hacc
        have e2 := all_len (y.take i) 0
        have e3 : (y.take i).length ≤ 1000 := by rw [List.length_take]; omega
        unfold allEnds at e1
        omega
      refine ⟨_, rfl, rfl, _, rfl, ?_⟩
      cases pc with
      | none =>
        obtain rfl : o = .non := hpc
        refine ⟨s1.trans s2, _, _, _, _, acc, rfl, s2 _ _ eL, ?_⟩
        rw [all_take gpc]
        show TrsH _ _ (_ ++ [])
        rw [List.append_nil]
        exact hacc.tk (sm_tk s2)
      | some pc =>
        obtain ⟨t, qa, rfl, h1, h2⟩ := hpc2
        refine ⟨_, rfl, t, _, 0, .str pc.1.str, rfl, rfl, sqt_of h1, rfl, _, rfl, t, _, 1, .ref qa, rfl, rfl, sqt_of h1, rfl, pc.1, qa, pc.2, rfl, sqt_of h2, fun H3 te exs s3 n3 e3 hexs => ?_⟩
        refine ⟨te, exs, rfl, sqt_of e3, ?_⟩
        have s13 : Same H H3 := s1.trans (s2.trans s3)
        have elen : exs.length = (endsOf pc.1 pc.2).length := pr_len hexs
        have e4 := (ends_len pc.1 pc.2).1
        refine for_it (walk_enumT (K := K) (a := te) (xs := exs))
          (fun j σ H' => (∀ b u, b ≠ l → H3 b = some u → H' b = some u) ∧ Same H H' ∧ ∃ (c4 c5 : Option V) (acc2 : List V), σ = [some (.ref a), some (.ref l), some (.int (i : Nat)), some (.ref t), c4, c5] ∧ H' l = some (.lst acc2) ∧ TrsH H' acc2 (allEnds (y.take i) ++ (pcRows i (some pc)).take j))
          ⟨fun _ _ _ h => h, s13, _, _, acc, rfl, s3 _ _ (s2 _ _ eL), by rw [List.take_zero, List.append_nil]; exact hacc.tk (sm_tk (s2.trans s3))⟩ (fun j σ H' _ p => sqt_of (p.1 _ _ (fun z => by rw [z, s2 _ _ eL] at n3; cases n3) e3)) ?_ ?_
        · rintro j v σ H4 H5 hj ⟨k4, s4, c4, c5, acc2, rfl, eL4, hacc2⟩ ⟨T2, x2, pz, rfl, nT2, rfl, gx2, gp2⟩
          obtain rfl : V.int (j : Nat) = x2 := Option.some.inj gx2
          obtain ⟨p, gp, qp, rfl, hqp⟩ := pr_get hexs gp2
          refine ⟨T2, [_, _], rfl, .inl (.inl upd_same), rfl, _, [_], rfl, _, [], rfl, rfl, ?_⟩
          have s5 : Same H4 (upd H4 T2 (.tup [.int (j : Nat), .ref qp])) := sm_upd nT2
          have nql : qp ≠ l := fun z => by
            rw [z, s3 _ _ (s2 _ _ eL)] at hqp
            cases hqp
          have hqp4 := k4 _ _ nql hqp
          have e5 := s5 _ _ eL4
          refine ⟨_, rfl, .inl ⟨rfl, _, SqL.of e5⟩, _, rfl, _, rfl, _, rfl, (by show 3 ≤ sizeLine; decide), fun g ng => ?_⟩
          have s6 := sm_upd (o := .tup [.int (i : Nat), .int (j : Nat), .ref qp]) ng
          have ngl : g ≠ l := fun z => by
            rw [z, e5] at ng
            cases ng
          have nT2l : T2 ≠ l := fun z => by
            rw [z, eL4] at nT2
            cases nT2
          have s46 := s5.trans s6
          refine ⟨l, acc2, .ref g, rfl, rfl, s6 _ _ e5, ?_, ?_⟩
          · have e1 := pr_len hacc2
            have e7 : ((pcRows i (some pc)).take j).length ≤ 4 := Nat.le_trans (by rw [List.length_take]; exact Nat.min_le_right _ _) (pcRows_len i (some pc))
            have e8 := all_len (y.take i) 0
            have e9 : (y.take i).length ≤ 1000 := by rw [List.length_take]; omega
            unfold allEnds at e1
            rw [List.length_append] at e1
            exact lt24 (by omega)
          · refine ⟨fun b u nb hb => ?_, sm_upd' (s4.trans s46) hl, _, _, _, rfl, upd_same, ?_⟩
            · exact (upd_ne nb).trans (s46 _ _ (k4 _ _ nb hb))
            · unfold pcRows
              rw [zip_take (fun x e => (i, e, x)) gp, ← List.append_assoc]
              have tk7 : Tk H4 _ := (sm_tk s46).trans (tk_lst (o := .lst (acc2 ++ [.ref g])) (s6 _ _ e5))
              exact pr_snoc (hacc2.tk tk7) ⟨g, qp, rfl, (upd_ne ngl).trans upd_same, tk7 _ _ hqp4⟩
        · rintro σ H4 ⟨k4, s4, c4, c5, acc2, rfl, eL4, hacc2⟩
          refine ⟨s4, _, _, _, _, acc2, rfl, eL4, ?_⟩
          rw [all_take gpc]
          have e9 : (pcRows i (some pc)).take exs.length = pcRows i (some pc) := List.take_of_length_le (by rw [elen]; simp [pcRows])
          rw [e9] at hacc2
          exact hacc2
    · rintro σ H1 ⟨s1, c2, c3, c4, c5, acc, rfl, eL, hacc⟩
      refine ⟨_, rfl, l, acc, rfl, .inl ⟨SqL.of eL, fun p hp => ?_⟩⟩
      rw [hlen, List.take_length] at hacc
      exact q _ p acc (sm_updN s1 hp) (s1.free hp) upd_same (hacc.tk (sm_tk (sm_upd hp)))
end
end Rk
end
section
set_option Elab.async false
set_option linter.all false
set_option maxRecDepth 100000
set_option maxHeartbeats 4000000
/-! layouts.py: has_overlap, laid_piece, joined_to, neighbours. -/
namespace Rk
open PySem PySem.Spec PyProof.Rows L2

/-! ### plain -/
theorem Po.ks_inj {p q : Po} (e : p.ks = q.ks) : p = q := by
  obtain ⟨a, b, c, d, h⟩ := p
  obtain ⟨a', b', c', d', h'⟩ := q
  simp only [Po.ks, Po.l, List.map_cons, List.map_nil, List.cons.injEq, Sum.inl.injEq, and_true] at e
  obtain ⟨rfl, rfl, rfl, rfl, rfl⟩ := e
  rfl
theorem at_split {α : Type} {l : List α} {i : Nat} {x : α} (h : l[i]? = some x) : l = l.take i ++ (x :: l.drop (i + 1)) := by
  obtain ⟨hi, e⟩ := List.getElem?_eq_some_iff.mp h
  rw [← e, ← List.drop_eq_getElem_cons hi, List.take_append_drop]
theorem nd_take {α : Type} {l : List α} {i : Nat} {x : α} (h : l[i]? = some x) (m : x ∈ l.take i) : ¬ l.Nodup := by
  intro nd
  rw [at_split h] at nd
  exact (List.nodup_append.mp nd).2.2 x m x List.mem_cons_self rfl
theorem take_at {α : Type} {l : List α} {i : Nat} {x : α} (h : l[i]? = some x) : l.take (i + 1) = l.take i ++ [x] := by
  rw [List.take_add_one, h]
  rfl
theorem nd_snoc {α : Type} {l : List α} {x : α} (nd : l.Nodup) (m : x ∉ l) : (l ++ [x]).Nodup := by
  rw [List.nodup_append]
  refine ⟨nd, List.nodup_cons.mpr ⟨List.not_mem_nil, List.nodup_nil⟩, ?_⟩
  rintro a ha b hb rfl
  rw [List.mem_singleton.mp hb] at ha
  exact m ha
/-- the end that is joined to one with a pose -/
def jt (y : Lay) (p : Po) : Option (Nat × Nat) := ((allEnds y).find? fun z => decide (z.2.2 = back p)).map fun z => (z.1, z.2.1)
theorem find_take {α : Type} {l : List α} {i : Nat} {x : α} {f : α → Bool} (h : l[i]? = some x) (hf : f x = true) (hn : ∀ z ∈ l.take i, f z = false) : l.find? f = some x := by
  rw [at_split h, List.find?_append, List.find?_eq_none.mpr (fun z hz => by rw [hn z hz]; decide), List.find?_cons, hf]
  rfl
/-- the pieces that are joined to a piece -/
def nbrs (y : Lay) (pc : Pc) : List Nat := (endsOf pc.1 pc.2).filterMap fun p => (jt y p).map (·.1)
/-- the piece for a letter -/
def pcOf (p : Po) : Lt → Pc
  | .R => (.C, back (stp p .R))
  | .L => (.C, p)
  | .S => (.S, p)
  | .H => (.H, p)
theorem Rm.u1 {k : Nat} {A : Around} (r : Room k A) : A.units + 1 < cLine := by
  have := r.un
  omega
section
variable {P : Program} {w : World} {K : PySem.W.Frag} {mg : Str → Option Value} {base : Heap}

/-! ### has_overlap -/
def spOver : Sp := fun vs H Q _ => ∃ (a : Addr) (y : Lay), vs = [.ref a] ∧ LayT H a y ∧ y.length ≤ 1000 ∧ ∀ H', Same H H' → Q (.bl (!decide (poses y).Nodup)) H'
theorem sc_over : FnScope ["layout", "poses", "_", "pose"] ["layout"] (defScope s_has_overlap) := ⟨rfl, rfl, rfl, by decide +kernel, rfl, by decide +kernel, by decide +kernel⟩
theorem c_over (D : Dn K mg "has_overlap" s_has_overlap) (ca : Cal P w K mg base 5 "all_ends" spAll) : Cal P w K mg base 6 "has_overlap" spOver := by
  refine D.cal sc_over (fun vs H Q E h => ?_) (fun _ _ _ _ _ _ us hl => match us, hl with | [_], _ => rfl) (fun f cdv A outer s H vs Q E hr h => ?_)
  · obtain ⟨a, y, rfl, _⟩ := h
    rfl
  · obtain ⟨a, y, rfl, hy, hl_, q⟩ := h
    have nd := sc_over.nd
    refine ⟨_, pss_cons (ps_set (i := 1) nd rfl (.inl rfl) pe_dnewT)
      (pss_cons (ps_for PassesOwn.never rfl (pi_tup (pe_c ca hr (by decide) rfl (pa_cons (pv 0) pa_nil))) (pg_tup rfl (pgs_cons (pg_name (i := 2) nd rfl (.inl rfl)) (pgs_cons (pg_name (i := 2) nd rfl (.inl rfl)) (pgs_cons (pg_name (i := 3) nd rfl (.inl rfl)) pgs_nil))))
        (pss_cons (ps_if (pt_cmp (pc_din (Rm.u1 hr) (pv 3) (pv 1))) (pss_one (ps_ret pe_bl)) pss_nil)
        (pss_one (ps_dput (Rm.u1 hr) (pv 1) (pv 3) pe_bl rfl))))
      (pss_one (ps_ret pe_bl))), ?_⟩
    intro l hl
    refine ⟨_, rfl, a, y, rfl, hy.tk (sm_tk (sm_upd hl)), hl_, fun H1 t xs s1 n1 e1 hxs => ?_⟩
    refine ⟨t, rfl, ⟨_, sqt_of e1⟩, ?_⟩
    have e0 : H1 l = some (.dT []) := s1 _ _ upd_same
    have hlen : xs.length = (allEnds y).length := pr_len hxs
    have hps : poses y = (allEnds y).map (·.2.2) := rfl
    have h4 := all_len y 0
    have ntl : t ≠ l := fun z => by
      rw [z, upd_same] at n1
      cases n1
    refine for_it (walk_tup (K := K) (a := t) (xs := xs))
      (fun i σ H' => Same H H' ∧ (∀ b u, b ≠ l → H1 b = some u → H' b = some u) ∧ ((poses y).take i).Nodup ∧ ∃ (c2 c3 : Option V), σ = [some (.ref a), some (.ref l), c2, c3] ∧ H' l = some (.dT (((poses y).take i).map fun p => (p.ks, V.bl true))))
      ⟨(sm_upd hl).trans s1, fun _ _ _ h => h, List.nodup_nil, none, none, rfl, e0⟩ (fun i σ H' _ p => sqt_of (p.2.1 _ _ ntl e1)) ?_ ?_
    · rintro i v σ H2 H3 hi ⟨s2, k2, nd2, c2, c3, rfl, eL⟩ ⟨rfl, gx⟩
      obtain ⟨z, gz, g, qp, rfl, hg, hqp⟩ := pr_get hxs gx
      have gp : (poses y)[i]? = some z.2.2 := by
        rw [hps, List.getElem?_map, gz]
        rfl
      have ngl : g ≠ l := fun z => by
        rw [z, e0] at hg
        cases hg
      have nql : qp ≠ l := fun z => by
        rw [z, e0] at hqp
        cases hqp
      have hg3 := k2 _ _ ngl hg
      have hq3 := k2 _ _ nql hqp
      have hk3 : H3 qp = some (.tup (z.2.2.ks.map kV)) := by
        rw [hq3, Po.vs_ks]
      refine ⟨g, _, rfl, .inl (.inl hg3), rfl, _, _, rfl, _, _, rfl, _, _, rfl, rfl, ?_⟩
      refine ⟨_, rfl, _, rfl, l, _, rfl, DGet.t eL hk3, ?_⟩
      have key : (valV (((poses y).take i).map fun p => (p.ks, V.bl true)) z.2.2.ks).isSome = decide (z.2.2 ∈ (poses y).take i) := by
        rw [← valV_any, List.any_map, Bool.eq_iff_iff, List.any_eq_true, decide_eq_true_iff]
        constructor
        · rintro ⟨p, hp, e⟩
          rw [← Po.ks_inj (of_decide_eq_true e)]
          exact hp
        · intro hp
          exact ⟨_, hp, decide_eq_true rfl⟩
      refine ⟨_, rfl, ite2 (fun c => ?_) (fun c => ?_)⟩
      · rw [key] at c
        have m := of_decide_eq_true c
        have r := q H3 s2
        rw [decide_eq_false (nd_take gp m)] at r
        exact r
      · rw [key] at c
        have m : z.2.2 ∉ (poses y).take i := fun m => c (decide_eq_true m)
        have hlt : (((poses y).take i).map fun p => (p.ks, V.bl true)).length < sizeLine := by
          rw [List.length_map, List.length_take]
          unfold allEnds at hlen
          exact lt24 (by omega)
        refine ⟨_, rfl, _, rfl, l, _, rfl, DPut.t eL hk3 hlt, ?_⟩
        have hv : valV (((poses y).take i).map fun p => (p.ks, V.bl true)) z.2.2.ks = none := by
          cases e : valV (((poses y).take i).map fun p => (p.ks, V.bl true)) z.2.2.ks with
          | none => rfl
          | some x =>
            rw [e] at key
            exact absurd (of_decide_eq_true key.symm) m
        refine ⟨sm_upd' s2 hl, fun b u nb hb => (upd_ne nb).trans (k2 _ _ nb hb), ?_, _, _, rfl, ?_⟩
        · rw [take_at gp]
          exact nd_snoc nd2 m
        · rw [upd_same, putK_new _ hv, take_at gp, List.map_append]
          rfl
    · rintro σ H2 ⟨s2, k2, nd2, c2, c3, rfl, eL⟩
      have r := q H2 s2
      rw [hlen, show (allEnds y).length = (poses y).length by rw [hps, List.length_map], List.take_length] at nd2
      rw [decide_eq_true nd2] at r
      exact r
/-! ### laid_piece -/
def spLP : Sp := fun vs H Q _ => ∃ (a : Addr) (p : Po) (l : Lt), vs = [.ref a, .str l.str] ∧ H a = some (.tup p.vs) ∧ ∀ H' t, Same H H' → H t = none → PcH H' (.ref t) (some (pcOf p l)) → Q (.ref t) H'
theorem sc_lp : FnScope ["pose", "letter"] ["pose", "letter"] (defScope s_laid_piece) := ⟨rfl, rfl, rfl, by decide +kernel, rfl, by decide +kernel, by decide +kernel⟩
theorem c_lp (D : Dn K mg "laid_piece" s_laid_piece) (cb : Cal P w K mg base 1 "back" (spBack K)) (cl : Cal P w K mg base 4 "lead" (spLead K)) : Cal P w K mg base 5 "laid_piece" spLP := by
  refine D.cal sc_lp (fun vs H Q E h => ?_) (fun _ _ _ _ _ _ us hl => match us, hl with | [_, _], _ => rfl) (fun f cdv A outer s H vs Q E hr h => ?_)
  · obtain ⟨a, p, l, rfl, _⟩ := h
    rfl
  · obtain ⟨a, p, l, rfl, ha, q⟩ := h
    refine ⟨_, pss_cons (ps_if (pt_cmpR op_eq (pv 1) pe_str (nomark _))
        (pss_one (ps_ret (pe_tup (pa_cons pe_str (pa_cons (pe_c cb hr (by decide) rfl (pa_cons (pe_c cl hr (by decide) rfl (pa_cons (pv 0) (pa_cons (pv 1) pa_nil))) pa_nil)) pa_nil))))) pss_nil)
      (pss_one (ps_ret (pe_tup (pa_cons (pe_ifExp (pt_cmpR op_eq (pv 1) pe_str (nomark _)) pe_str (pv 1)) (pa_cons (pv 0) pa_nil))))), ?_⟩
    have mk : ∀ (k : Kd) (H1 : Hp) (b : Addr) (po : Po), Same H H1 → H1 b = some (.tup po.vs) → pcOf p l = (k, po) → ∀ t, H1 t = none → Q (.ref t) (upd H1 t (.tup [.str k.str, .ref b])) := fun k H1 b po s1 hb e t nt =>
      q _ t (sm_updN s1 nt) (s1.free nt) (by
        rw [e]
        exact ⟨t, b, rfl, upd_same, sm_upd nt _ _ hb⟩)
    refine ⟨_, rfl, rfl, _, rfl, ite2 (fun c => ?_) (fun c => ?_)⟩
    · have el : l = .R := by
        revert c
        cases l <;> first | exact fun _ => rfl | exact fun c => absurd (of_decide_eq_true c) (by decide)
      subst el
      refine ⟨_, rfl, _, rfl, a, p, .R, rfl, sqt_of ha, fun H1 b s1 n1 e1 => ?_⟩
      refine ⟨b, stp p .R, rfl, sqt_of e1, fun H2 b2 s2 n2 e2 => ⟨by show 2 ≤ sizeLine; decide, fun t nt => ?_⟩⟩
      exact mk .C H2 b2 (back (stp p .R)) (s1.trans s2) e2 rfl t nt
    · cases l with
      | R => exact absurd (decide_eq_true rfl) c
      | L => exact ⟨_, rfl, rfl, _, rfl, _, rfl, (by show 2 ≤ sizeLine; decide), fun t nt => mk .C H a p (Same.refl _) ha rfl t nt⟩
      | S => exact ⟨_, rfl, rfl, _, rfl, _, rfl, _, rfl, (by show 2 ≤ sizeLine; decide), fun t nt => mk .S H a p (Same.refl _) ha rfl t nt⟩
      | H => exact ⟨_, rfl, rfl, _, rfl, _, rfl, _, rfl, (by show 2 ≤ sizeLine; decide), fun t nt => mk .H H a p (Same.refl _) ha rfl t nt⟩

/-! ### joined_to, neighbours -/
/-- the answer of joined_to -/
def JtQ (H : Hp) (o : Option (Nat × Nat)) (Q : VK) : Prop := match o with
  | none => ∀ H', Same H H' → Q .non H'
  | some z => ∀ H' t, Same H H' → H t = none → H' t = some (.tup [.int (z.1 : Nat), .int (z.2 : Nat)]) → Q (.ref t) H'
def spJt (K : PySem.W.Frag) : Sp := fun vs H Q _ => ∃ (a b : Addr) (y : Lay) (p : Po), vs = [.ref a, .ref b] ∧ LayT H a y ∧ y.length ≤ 1000 ∧ SqT K H b p.vs ∧ JtQ H (jt y p) Q
theorem sc_jt : FnScope ["layout", "pose", "number", "end", "other"] ["layout", "pose"] (defScope s_joined_to) := ⟨rfl, rfl, rfl, by decide +kernel, rfl, by decide +kernel, by decide +kernel⟩
theorem c_jt (D : Dn K mg "joined_to" s_joined_to) (ca : Cal P w K mg base 5 "all_ends" spAll) (cb : Cal P w K mg base 1 "back" (spBack K)) : Cal P w K mg base 6 "joined_to" (spJt K) := by
  refine D.cal sc_jt (fun vs H Q E h => ?_) (fun _ _ _ _ _ _ us hl => match us, hl with | [_, _], _ => rfl) (fun f cdv A outer s H vs Q E hr h => ?_)
  · obtain ⟨a, b, y, p, rfl, _⟩ := h
    rfl
  · obtain ⟨a, b, y, p, rfl, hy, hl, hb, q⟩ := h
    have nd := sc_jt.nd
    refine ⟨_, pss_cons (ps_for PassesOwn.never rfl (pi_tup (pe_c ca hr (by decide) rfl (pa_cons (pv 0) pa_nil))) (pg_tup rfl (pgs_cons (pg_name (i := 2) nd rfl (.inl rfl)) (pgs_cons (pg_name (i := 3) nd rfl (.inl rfl)) (pgs_cons (pg_name (i := 4) nd rfl (.inl rfl)) pgs_nil))))
        (pss_one (ps_if (pt_cmpR (op_eqD hr.units) (pv 4) (pe_c cb hr (by decide) rfl (pa_cons (pv 1) pa_nil)) (nomark _)) (pss_one (ps_ret (pe_tup (pa_cons (pv 2) (pa_cons (pv 3) pa_nil))))) pss_nil)))
      (pss_one (ps_ret pe_non)), ?_⟩
    refine ⟨_, rfl, a, y, rfl, hy, hl, fun H1 t xs s1 n1 e1 hxs => ?_⟩
    refine ⟨t, rfl, ⟨_, sqt_of e1⟩, ?_⟩
    refine for_it (walk_tup (K := K) (a := t) (xs := xs))
      (fun i σ H' => Same H1 H' ∧ (∀ z ∈ (allEnds y).take i, decide (z.2.2 = back p) = false) ∧ ∃ (c2 c3 c4 : Option V), σ = [some (.ref a), some (.ref b), c2, c3, c4])
      ⟨Same.refl _, (fun _ z => by simp at z), none, none, none, rfl⟩ (fun i σ H' _ p => sqt_of (p.1 _ _ e1)) ?_ ?_
    · rintro i v σ H2 H3 hi ⟨s2, hn, c2, c3, c4, rfl⟩ ⟨rfl, gx⟩
      obtain ⟨z, gz, g, qp, rfl, hg, hqp⟩ := pr_get hxs gx
      refine ⟨g, _, rfl, .inl (.inl (s2 _ _ hg)), rfl, _, _, rfl, _, _, rfl, _, _, rfl, rfl, ?_⟩
      refine ⟨_, rfl, _, rfl, b, p, rfl, sm_tup (s1.trans s2) hb, fun H4 b4 s4 n4 e4 => ?_⟩
      refine ⟨poD z.2.2, poD (back p), dp_po (sqt_of ((s2.trans s4) _ _ hqp)), dp_po (sqt_of e4), poD_shaped _, poD_shaped _, _, rfl, ?_⟩
      rw [poD_eqv]
      refine ite2 (fun c => ?_) (fun c => ?_)
      · refine ⟨_, rfl, _, rfl, (by show 2 ≤ sizeLine; decide), fun t5 n5 => ?_⟩
        have ej : jt y p = some (z.1, z.2.1) := by
          unfold jt
          rw [find_take gz c hn]
          rfl
        rw [ej] at q
        have s04 := s1.trans (s2.trans s4)
        exact q _ t5 (sm_updN s04 n5) (s04.free n5) upd_same
      · refine ⟨s2.trans s4, ?_, _, _, _, rfl⟩
        intro w hw
        rw [take_at gz] at hw
        rcases List.mem_append.mp hw with hw | hw
        · exact hn w hw
        · rw [List.mem_singleton.mp hw]
          exact Bool.not_eq_true _ ▸ c
    · rintro σ H2 ⟨s2, hn, c2, c3, c4, rfl⟩
      have ej : jt y p = none := by
        unfold jt
        rw [pr_len hxs, List.take_length] at hn
        rw [List.find?_eq_none.mpr (fun z hz => by rw [hn z hz]; decide)]
        rfl
      rw [ej] at q
      exact q H2 (s1.trans s2)
def spNbrs : Sp := fun vs H Q _ => ∃ (a : Addr) (y : Lay) (n : Nat) (pc : Pc), vs = [.ref a, .int (n : Nat)] ∧ LayT H a y ∧ y.length ≤ 1000 ∧ y[n]? = some (some pc) ∧ NewL H ((nbrs y pc).map Int.ofNat) Q
theorem sc_nbrs : FnScope ["layout", "number", "kind", "pose", "found", "end", "pair"] ["layout", "number"] (defScope s_neighbours) := ⟨rfl, rfl, rfl, by decide +kernel, rfl, by decide +kernel, by decide +kernel⟩
/-- what joined_to has found, on the heap -/
def JoH (H : Hp) (v : V) : Option (Nat × Nat) → Prop
  | none => v = .non
  | some z => ∃ t, v = .ref t ∧ H t = some (.tup [.int (z.1 : Nat), .int (z.2 : Nat)])
theorem JoH.tk {H H' : Hp} {v : V} {o : Option (Nat × Nat)} (t : Tk H H') (h : JoH H v o) : JoH H' v o := by
  cases o with
  | none => exact h
  | some z =>
    obtain ⟨a, e, h1⟩ := h
    exact ⟨a, e, t _ _ h1⟩
theorem jtQ {H : Hp} {o : Option (Nat × Nat)} {Q : VK} (h : ∀ v H', Same H H' → JoH H' v o → Q v H') : JtQ H o Q := by
  cases o with
  | none => exact fun H' s => h _ _ s rfl
  | some z => exact fun H' t s n e => h _ _ s ⟨t, rfl, e⟩
theorem c_nbrs (D : Dn K mg "neighbours" s_neighbours) (ce : Cal P w K mg base 4 "ends_of" (spEnds K)) (cj : Cal P w K mg base 6 "joined_to" (spJt K)) : Cal P w K mg base 7 "neighbours" spNbrs := by
  refine D.cal sc_nbrs (fun vs H Q E h => ?_) (fun _ _ _ _ _ _ us hl => match us, hl with | [_, _], _ => rfl) (fun f cdv A outer s H vs Q E hr h => ?_)
  · obtain ⟨a, y, n, pc, rfl, _⟩ := h
    rfl
  · obtain ⟨a, y, n, pc, rfl, hy, hl, gn, q⟩ := h
    have nd := sc_nbrs.nd
    refine ⟨_, pss_cons (ps_asg (pe_ix ix_tup (pv 0) (pv 1) (fun _ _ => rfl)) (pg_tup rfl (pgs_cons (pg_name (i := 2) nd rfl (.inl rfl)) (pgs_cons (pg_name (i := 3) nd rfl (.inl rfl)) pgs_nil))))
      (pss_cons (ps_setLc (i := 4) (own := [("end", 5)]) (g := gName 5) (tt := tYes) (by rfl) nd rfl rfl (sw_true rfl rfl rfl rfl) (pi_tup (pe_c ce hr (by decide) rfl (pa_cons (pv 2) (pa_cons (pv 3) pa_nil)))) (blkOk_by (N := ["layout", "number", "kind", "pose", "found", "end", "pair"]) (sc := defScope s_neighbours) (by decide +kernel))
          (fun _ _ _ _ _ => pg_name (i := 5) nd rfl (.inl rfl)) (fun _ _ _ _ _ => pts_nil) (fun _ _ _ _ _ => pe_c cj hr (by decide) rfl (pa_cons (pv 0) (pa_cons (pv 5) pa_nil))))
      (pss_one (ps_ret (pe_lc (own := [("pair", 6)]) (g := gName 6) (te := tOp (rIxT K) (tVar 6) (tC (.int 0))) (by rfl) nd (pi_list (pv 4)) (blkOk_by (N := ["layout", "number", "kind", "pose", "found", "end", "pair"]) (sc := defScope s_neighbours) (by decide +kernel))
          (fun _ _ _ _ _ => pg_name (i := 6) nd rfl (.inl rfl)) (fun _ _ _ _ _ => pts_one (pt_cmpR op_notN1 (pv 6) pe_non (nomark _))) (fun _ _ _ _ _ => pe_ix ix_tup (pv 6) pe_int (fun _ _ => rfl)))))), ?_⟩
    obtain ⟨pvs, ha, hp⟩ := hy
    obtain ⟨v0, g0, t, qa, rfl, h1, h2⟩ := pr_got hp gn
    have hyT : LayT H a y := ⟨pvs, ha, hp⟩
    have elen := (ends_len pc.1 pc.2).1
    refine ⟨_, rfl, _, rfl, a, pvs, (n : Int), .ref t, rfl, rfl, sqt_of ha, atI_nat g0, ?_⟩
    refine ⟨t, _, rfl, .inl (.inl h1), rfl, _, _, rfl, _, _, rfl, rfl, ?_⟩
    refine ⟨_, rfl, _, rfl, pc.1, qa, pc.2, rfl, sqt_of h2, fun H1 te exs s1 n1 e1 hexs => ?_⟩
    refine ⟨te, rfl, ⟨_, sqt_of e1⟩, fun D0 hD => ?_⟩
    refine lc_it (walk_tup (K := K) (a := te) (xs := exs)) (fun i H' => Same H1 H' ∧ ∃ acc, H' D0 = some (.lst acc) ∧ Paired (JoH H') acc (((endsOf pc.1 pc.2).map (jt y)).take i)) ⟨sm_upd hD, [], upd_same, .nil⟩ (fun i H' _ p => sqt_of (p.1 _ _ e1)) ?_ ?_
    · rintro i v H4 H5 hi ⟨s4, acc, eD, hacc⟩ ⟨rfl, gx⟩
      obtain ⟨p, gp, a1, rfl, ha1⟩ := pr_get hexs gx
      have s14 := s1.trans s4
      refine ⟨rfl, ?_⟩
      refine ⟨_, rfl, _, rfl, a, a1, y, p, rfl, hyT.tk (sm_tk s14), hl, sqt_of (s4 _ _ ha1), jtQ fun v6 H6 s6 hv6 => ?_⟩
      have hl6 : acc.length ≤ 4 := by
        rw [pr_len hacc, List.length_take, List.length_map]
        omega
      have tk6 : Tk H6 (upd H6 D0 (.lst (acc ++ [v6]))) := tk_lst (s6 _ _ eD)
      refine ⟨acc, s6 _ _ eD, lt24 (by omega), sm_upd' (s4.trans s6) hD, acc ++ [v6], upd_same, ?_⟩
      rw [take_at (x := jt y p) (by rw [List.getElem?_map, gp]; rfl)]
      exact pr_snoc (Paired.mapP hacc fun _ _ z => (z.tk (sm_tk s6)).tk tk6) (hv6.tk tk6)
    · rintro H4 ⟨s4, acc, eD, hacc⟩
      rw [show exs.length = ((endsOf pc.1 pc.2).map (jt y)).length by rw [List.length_map]; exact pr_len hexs, List.take_length] at hacc
      have s14 := s1.trans s4
      refine ⟨_, rfl, D0, rfl, ⟨_, SqL.of eD⟩, fun D2 hD2 => ?_⟩
      have nD : D0 ≠ D2 := fun z => by
        rw [← z, eD] at hD2
        cases hD2
      refine lc_it (walk_list (K := K) (a := D0) (xs := acc)) (fun i H' => Same H4 H' ∧ H' D2 = some (.lst ((((((endsOf pc.1 pc.2).map (jt y)).take i).filterMap fun o => o.map (·.1)).map Int.ofNat).map V.int))) ⟨sm_upd hD2, upd_same⟩ (fun i H' _ p => SqL.of (p.1 _ _ eD)) ?_ ?_
      · rintro i v H5 H6 hi ⟨s5, e5⟩ ⟨rfl, gx⟩
        obtain ⟨o, go, hv⟩ := pr_get hacc gx
        refine ⟨rfl, ?_⟩
        rw [take_at go, List.filterMap_append, List.map_append, List.map_append]
        have hl6 : ((((((endsOf pc.1 pc.2).map (jt y)).take i).filterMap fun o => o.map (·.1)).map Int.ofNat).map V.int).length ≤ 4 := by
          rw [List.length_map, List.length_map]
          refine Nat.le_trans (List.length_filterMap_le _ _) ?_
          rw [List.length_take, List.length_map]
          omega
        cases o with
        | none =>
          obtain rfl : v = .non := hv
          refine ⟨_, rfl, rfl, _, rfl, ?_⟩
          show Same H4 H6 ∧ H6 D2 = _
          simp only [List.filterMap_cons, List.filterMap_nil, Option.map_none, List.map_nil, List.append_nil]
          exact ⟨s5, e5⟩
        | some z =>
          obtain ⟨tz, rfl, hz⟩ := hv
          refine ⟨_, rfl, rfl, _, rfl, ?_⟩
          refine ⟨_, rfl, tz, _, 0, .int (z.1 : Nat), rfl, rfl, sqt_of (s5 _ _ hz), rfl, _, e5, lt24 (by omega), sm_upd' s5 hD2, ?_⟩
          rw [upd_same]
          rfl
      · rintro H5 ⟨s5, e5⟩
        rw [show acc.length = ((endsOf pc.1 pc.2).map (jt y)).length from pr_len hacc, List.take_length, List.filterMap_map] at e5
        exact q H5 D2 (s14.trans s5) (s14.free hD2) e5
end
end Rk
end
section
set_option Elab.async false
set_option linter.all false
set_option maxRecDepth 100000
set_option maxHeartbeats 4000000
/-! The plain law: what hangs together. -/
namespace Rk

theorem mem_allFrom : ∀ {y : Lay} {m : Nat} {z : Nat × Nat × Po}, z ∈ allFrom m y ↔ ∃ pc, m ≤ z.1 ∧ y[z.1 - m]? = some (some pc) ∧ (endsOf pc.1 pc.2)[z.2.1]? = some z.2.2
  | [], m, z => by simp [allFrom]
  | o :: r, m, z => by
    rw [allFrom_cons, List.mem_append, mem_allFrom (y := r)]
    constructor
    · rintro (h | ⟨pc, h1, h2, h3⟩)
      · cases o with
        | none => cases h
        | some pc =>
          obtain ⟨⟨p, e⟩, hq, rfl⟩ := List.mem_map.mp h
          exact ⟨pc, Nat.le_refl _, by simp, List.mem_zipIdx_iff_getElem?.mp hq⟩
      · refine ⟨pc, by omega, ?_, h3⟩
        rw [show z.1 - m = (z.1 - (m + 1)) + 1 by omega, List.getElem?_cons_succ]
        exact h2
    · rintro ⟨pc, h1, h2, h3⟩
      by_cases e : z.1 = m
      · refine .inl ?_
        rw [e, Nat.sub_self, List.getElem?_cons_zero] at h2
        rw [Option.some.inj h2]
        exact List.mem_map.mpr ⟨(z.2.2, z.2.1), List.mem_zipIdx_iff_getElem?.mpr h3, by rw [← e]⟩
      · refine .inr ⟨pc, by omega, ?_, h3⟩
        rw [show z.1 - m = (z.1 - (m + 1)) + 1 by omega, List.getElem?_cons_succ] at h2
        exact h2
theorem mem_all {y : Lay} {z : Nat × Nat × Po} : z ∈ allEnds y ↔ ∃ pc, y[z.1]? = some (some pc) ∧ (endsOf pc.1 pc.2)[z.2.1]? = some z.2.2 := by
  unfold allEnds
  rw [mem_allFrom]
  simp
theorem jt_mem {y : Lay} {p : Po} {w : Nat × Nat} (h : jt y p = some w) : (w.1, w.2, back p) ∈ allEnds y := by
  unfold jt at h
  obtain ⟨z, hz, rfl⟩ := Option.map_eq_some_iff.mp h
  have e : z.2.2 = back p := of_decide_eq_true (List.find?_some (p := fun z : Nat × Nat × Po => decide (z.2.2 = back p)) hz)
  show (z.1, z.2.1, back p) ∈ _
  rw [← e]
  exact List.mem_of_find?_eq_some hz
/-- a and b are joined -/
def Adj (y : Lay) (a b : Nat) : Prop := ∃ pc, y[a]? = some (some pc) ∧ b ∈ nbrs y pc
theorem mem_nbrs {y : Lay} {pc : Pc} {b : Nat} : b ∈ nbrs y pc ↔ ∃ p ∈ endsOf pc.1 pc.2, ∃ w, jt y p = some w ∧ w.1 = b := by
  unfold nbrs
  rw [List.mem_filterMap]
  refine exists_congr fun p => and_congr_right fun _ => ?_
  rw [Option.map_eq_some_iff]
theorem adj_iff {y : Lay} {a b : Nat} : Adj y a b ↔ ∃ z ∈ allEnds y, z.1 = a ∧ ∃ w, jt y z.2.2 = some w ∧ w.1 = b := by
  constructor
  · rintro ⟨pc, h1, h2⟩
    obtain ⟨p, hp, w, hw, e⟩ := mem_nbrs.mp h2
    obtain ⟨i, hi, ep⟩ := List.getElem_of_mem hp
    exact ⟨(a, i, p), mem_all.mpr ⟨pc, h1, by rw [List.getElem?_eq_getElem hi, ep]⟩, rfl, w, hw, e⟩
  · rintro ⟨z, hz, rfl, w, hw, e⟩
    obtain ⟨pc, h1, h2⟩ := mem_all.mp hz
    exact ⟨pc, h1, mem_nbrs.mpr ⟨z.2.2, List.mem_of_getElem? h2, w, hw, e⟩⟩
/-- a piece lies there -/
def There (y : Lay) (a : Nat) : Prop := ∃ pc, y[a]? = some (some pc)
theorem Adj.there {y : Lay} {a b : Nat} (h : Adj y a b) : There y b := by
  obtain ⟨z, _, _, w, hw, rfl⟩ := adj_iff.mp h
  obtain ⟨pc, h1, _⟩ := mem_all.mp (jt_mem hw)
  exact ⟨pc, h1⟩
inductive Reach (y : Lay) (n : Nat) : Nat → Prop where
  | self : Reach y n n
  | step {a b : Nat} : Reach y n a → Adj y a b → Reach y n b
theorem Reach.there {y : Lay} {n a : Nat} (h0 : There y n) (h : Reach y n a) : There y a := by
  cases h with
  | self => exact h0
  | step _ h => exact h.there
theorem There.lt {y : Lay} {a : Nat} (h : There y a) : a < y.length := by
  obtain ⟨pc, e⟩ := h
  exact (List.getElem?_eq_some_iff.mp e).1
theorem reach_of {y : Lay} {n : Nat} {S : List Nat} (h0 : n ∈ S) (hc : ∀ a ∈ S, ∀ b, Adj y a b → b ∈ S) {a : Nat} (h : Reach y n a) : a ∈ S := by
  induction h with
  | self => exact h0
  | step _ h ih => exact hc _ ih _ h
open Classical in
/-- the pieces that hang together with n, ascending -/
noncomputable def isl (y : Lay) (n : Nat) : List Nat := (List.range y.length).filter fun a => decide (Reach y n a)
open Classical in
theorem mem_isl {y : Lay} {n a : Nat} (h0 : There y n) : a ∈ isl y n ↔ Reach y n a := by
  unfold isl
  rw [List.mem_filter, decide_eq_true_iff, List.mem_range]
  exact ⟨fun h => h.2, fun h => ⟨(h.there h0).lt, h⟩⟩
open Classical in
theorem isl_asc (y : Lay) (n : Nat) : ((isl y n).map Int.ofNat).Pairwise (· ≤ ·) := by
  rw [List.pairwise_map]
  refine List.Pairwise.imp (R := fun a b => a < b) (fun h => ?_) (List.Pairwise.sublist List.filter_sublist List.pairwise_lt_range)
  simp only [Int.ofNat_eq_natCast]
  omega
open Classical in
theorem isl_nd (y : Lay) (n : Nat) : (isl y n).Nodup := List.Pairwise.sublist List.filter_sublist List.nodup_range
/-- sorted, they are these -/
theorem isl_sorted {y : Lay} {n : Nat} (h0 : There y n) {fs : List Nat} (nd : fs.Nodup) (hm : ∀ a, a ∈ fs ↔ Reach y n a) {ys : List Int} (hp : ys.Perm (fs.map Int.ofNat)) (ho : ys.Pairwise (· ≤ ·)) : ys = (isl y n).map Int.ofNat := by
  have p2 : fs.Perm (isl y n) := (List.perm_ext_iff_of_nodup nd (isl_nd y n)).mpr fun a => by rw [hm, mem_isl h0]
  exact List.Perm.eq_of_pairwise (le := (· ≤ ·)) (fun a b _ _ h1 h2 => Int.le_antisymm h1 h2) ho (isl_asc y n) (hp.trans (p2.map _))
/-- so many can be different -/
theorem nd_len {fs : List Nat} {n : Nat} (nd : fs.Nodup) (h : ∀ a ∈ fs, a < n) : fs.length ≤ n := by
  have := List.Nodup.length_le_of_subset nd (l₂ := List.range n) (fun a ha => List.mem_range.mpr (h a ha))
  rwa [List.length_range] at this

/-! ### the islands, one after the other -/
open Classical in
noncomputable def islesTo (y : Lay) : Nat → List (List Nat)
  | 0 => []
  | i + 1 => if There y i ∧ ¬ ∃ s ∈ islesTo y i, i ∈ s then islesTo y i ++ [isl y i] else islesTo y i
noncomputable def isles (y : Lay) : List (List Nat) := islesTo y y.length
theorem isles_len (y : Lay) : ∀ i, (islesTo y i).length ≤ i
  | 0 => Nat.le_refl _
  | i + 1 => by
    have := isles_len y i
    unfold islesTo
    split
    · rw [List.length_append, List.length_singleton]
      omega
    · omega
theorem isles_has {y : Lay} : ∀ {m k : Nat}, k < m → There y k → ∃ s ∈ islesTo y m, k ∈ s
  | m + 1, k, h, t => by
    unfold islesTo
    by_cases e : k = m
    · subst e
      split
      · exact ⟨_, List.mem_append_right _ (List.mem_singleton.mpr rfl), (mem_isl t).mpr .self⟩
      · rename_i c
        exact Classical.byContradiction fun z => c ⟨t, z⟩
    · obtain ⟨s, h1, h2⟩ := isles_has (show k < m by omega) t
      split
      · exact ⟨s, List.mem_append_left _ h1, h2⟩
      · exact ⟨s, h1, h2⟩
open Classical in
theorem isles_same {y : Lay} {m : Nat} : ∀ {k : Nat}, m ≤ k → (∀ j, m ≤ j → j < k → There y j → ∃ s ∈ islesTo y m, j ∈ s) → islesTo y k = islesTo y m
  | 0, h, _ => by rw [show m = 0 by omega]
  | k + 1, h, hj => by
    by_cases e : m = k + 1
    · rw [e]
    · have ih := isles_same (k := k) (m := m) (by omega) fun j h1 h2 => hj j h1 (by omega)
      have hs : islesTo y (k + 1) = islesTo y k := by
        show (if _ then _ else _) = _
        rw [if_neg]
        rintro ⟨t, n⟩
        rw [ih] at n
        exact n (hj k (by omega) (by omega) t)
      rw [hs, ih]
open Classical in
theorem isles_new {y : Lay} {i : Nat} (h : There y i) (n : ¬ ∃ s ∈ islesTo y i, i ∈ s) : islesTo y (i + 1) = islesTo y i ++ [isl y i] := by
  show (if _ then _ else _) = _
  rw [if_pos ⟨h, n⟩]
end Rk
end
section
set_option Elab.async false
set_option linter.all false
set_option maxRecDepth 100000
set_option maxHeartbeats 4000000
/-! layouts.py: island_of, islands_of. -/
namespace Rk
open PySem PySem.Spec PyProof.Rows L2
theorem boot_srt : bootBuiltins "sorted" = some (.builtin "sorted") := by decide +kernel
section
variable {P : Program} {w : World} {K : PySem.W.Frag} {mg : Str → Option Value} {base : Heap}
def spIsl : Sp := fun vs H Q _ => ∃ (a : Addr) (y : Lay) (n : Nat), vs = [.ref a, .int (n : Nat)] ∧ LayT H a y ∧ y.length ≤ 60 ∧ There y n ∧ NewT H ((isl y n).map Int.ofNat) Q
theorem sc_isl : FnScope ["layout", "number", "found", "todo", "other"] ["layout", "number"] (defScope s_island_of) := ⟨rfl, rfl, rfl, by decide +kernel, rfl, by decide +kernel, by decide +kernel⟩
def fsK (fs : List Nat) : List (Key × V) := fs.map fun k : Nat => (Sum.inl (k : Int), V.bl true)
theorem fsK_get (fs : List Nat) (k : Nat) : (valV (fsK fs) (.inl (k : Int))).isSome = decide (k ∈ fs) := by
  unfold fsK
  rw [← valV_any, List.any_map, Bool.eq_iff_iff, List.any_eq_true, decide_eq_true_iff]
  constructor
  · rintro ⟨p, hp, e⟩
    have e2 : (p : Int) = k := Sum.inl.inj (of_decide_eq_true e)
    rw [← Int.ofNat_inj.mp e2]
    exact hp
  · intro hp
    exact ⟨_, hp, decide_eq_true rfl⟩
theorem c_isl (D : Dn K mg "island_of" s_island_of) (mt : mg "tuple" = none) (ms : mg "sorted" = none) (cn : Cal P w K mg base 7 "neighbours" spNbrs) : Cal P w K mg base 8 "island_of" spIsl := by
  refine D.cal sc_isl (fun vs H Q E h => ?_) (fun _ _ _ _ _ _ us hl => match us, hl with | [_, _], _ => rfl) (fun f cdv A outer s H vs Q E hr h => ?_)
  · obtain ⟨a, y, n, rfl, _⟩ := h
    rfl
  · obtain ⟨a, y, n, rfl, hy, hl, h0, q⟩ := h
    have nd := sc_isl.nd
    refine ⟨_, pss_cons (ps_set (i := 2) nd rfl (.inl rfl) pe_dnewK)
      (pss_cons (ps_set (i := 3) nd rfl (.inl rfl) (pe_lst (pa_cons (pv 1) pa_nil)))
      (pss_cons (ps_while PassesOwn.never (pt_truth (pv 3) (fun _ => rfl))
        (pss_cons (ps_set (i := 4) nd rfl (.inl rfl) (pe_bm0 PySem.F.plainAttrs_list PySem.F.slot_list_pop PySem.F.type_list_pop mt_pop (pv 3)))
        (pss_one (ps_if (pt_cmp (pc_dnotin (Rm.u1 hr) (pv 4) (pv 2)))
          (pss_cons (ps_dput (Rm.u1 hr) (pv 2) (pv 4) pe_bl rfl)
          (pss_one (ps_expr (pe_bm PySem.F.plainAttrs_list PySem.F.slot_list_extend PySem.F.type_list_extend mt_extend (pv 3) (pa_cons (pe_c cn hr (by decide) rfl (pa_cons (pv 0) (pa_cons (pv 4) pa_nil))) pa_nil))))) pss_nil))))
      (pss_one (ps_ret (pe_callTy call_tuple_of (by rfl) mt boot_tuple (pa_cons (pe_callB (call_sortedDI (by rfl)) (by rfl) ms boot_srt (pa_cons (pv 2) pa_nil)) pa_nil)))))), ?_⟩
    intro d hd
    refine ⟨_, rfl, (by show 1 ≤ sizeLine; decide), fun l hl2 => ?_⟩
    have s1 := sm_upd (o := .dK []) hd
    have s2 := sm_upd (o := .lst [.int (n : Nat)]) hl2
    have ndl : d ≠ l := fun z => by
      rw [← z, upd_same] at hl2
      cases hl2
    refine ⟨fun m σ H' => ∃ (fs todo : List Nat) (c4 : Option V), m = 5 * (y.length - fs.length) + todo.length ∧ Same H H' ∧ σ = [some (.ref a), some (.int (n : Nat)), some (.ref d), some (.ref l), c4] ∧ H' d = some (.dK (fsK fs)) ∧
      H' l = some (.lst (todo.map fun k => V.int (k : Nat))) ∧ fs.Nodup ∧ (∀ k ∈ fs, Reach y n k) ∧ (∀ k ∈ todo, Reach y n k) ∧ (n ∈ fs ∨ n ∈ todo) ∧ (∀ k ∈ fs, ∀ b, Adj y k b → b ∈ fs ∨ b ∈ todo) ∧ todo.length ≤ 1 + 4 * fs.length,
      ⟨_, [], [n], none, rfl, s1.trans s2, rfl, s2 _ _ upd_same, upd_same, List.nodup_nil, (fun _ z => nomatch z), (fun k z => by rw [List.mem_singleton.mp z]; exact .self), .inr (List.mem_singleton.mpr rfl), (fun _ z => nomatch z), Nat.le_refl _⟩, ?_⟩
    rintro m σ H1 ⟨fs, todo, c4, rfl, s3, rfl, eD, eL, ndf, hfs, htd, hn, hcl, hlen⟩
    have hfl : fs.length ≤ y.length := nd_len ndf fun k hk => ((hfs k hk).there h0).lt
    refine ⟨_, rfl, _, .inl ⟨_, SqL.of eL, rfl⟩, ite2 (fun c => ?_) (fun c => ?_)⟩
    · -- one more
      have hne : todo ≠ [] := fun z => by
        subst z
        exact absurd c (by decide)
      obtain ⟨init, k, rfl⟩ : ∃ init k, todo = init ++ [k] := ⟨todo.dropLast, todo.getLast hne, (List.dropLast_concat_getLast hne).symm⟩
      have hk : Reach y n k := htd k (List.mem_append_right _ (List.mem_singleton.mpr rfl))
      have hkt := hk.there h0
      rw [List.map_append] at eL
      have e1 : ((init.map fun k => V.int (k : Nat)) ++ [k].map fun k => V.int (k : Nat)).dropLast = init.map fun k => V.int (k : Nat) := by
        rw [List.map_singleton, List.dropLast_concat]
      have hlen2 : init.length + 1 ≤ 1 + 4 * fs.length := by
        rw [List.length_append] at hlen
        exact hlen
      refine ⟨fun σ' H' => ∃ (fs' todo' : List Nat) (c4 : Option V), 5 * (y.length - fs'.length) + todo'.length < 5 * (y.length - fs.length) + (init ++ [k]).length ∧ Same H H' ∧ σ' = [some (.ref a), some (.int (n : Nat)), some (.ref d), some (.ref l), c4] ∧ H' d = some (.dK (fsK fs')) ∧
        H' l = some (.lst (todo'.map fun k => V.int (k : Nat))) ∧ fs'.Nodup ∧ (∀ k ∈ fs', Reach y n k) ∧ (∀ k ∈ todo', Reach y n k) ∧ (n ∈ fs' ∨ n ∈ todo') ∧ (∀ k ∈ fs', ∀ b, Adj y k b → b ∈ fs' ∨ b ∈ todo') ∧ todo'.length ≤ 1 + 4 * fs'.length,
        (fun σ' H' ⟨fs', todo', c4, h1, h2⟩ => ⟨_, h1, fs', todo', c4, rfl, h2⟩), ?_⟩
      refine ⟨_, rfl, .inl ⟨rfl, _, SqL.of eL⟩, l, _, .int (k : Nat), rfl, rfl, eL, by simp, ?_⟩
      have eD2 : (upd H1 l (.lst (init.map fun k => V.int (k : Nat)))) d = some (.dK (fsK fs)) := (upd_ne ndl).trans eD
      have s4 : Same H (upd H1 l (.lst (init.map fun k => V.int (k : Nat)))) := sm_upd' s3 (s1.free hl2)
      rw [e1]
      refine ⟨_, rfl, _, rfl, d, _, rfl, DGet.k (k := .inl (k : Int)) eD2, _, rfl, ite2 (fun c => ?_) (fun c => ?_)⟩
      · rw [fsK_get] at c
        have nk : k ∉ fs := fun z => by
          rw [decide_eq_true z] at c
          exact absurd c (by decide)
        have hv : valV (fsK fs) (.inl (k : Int)) = none := by
          cases e : valV (fsK fs) (.inl (k : Int)) with
          | none => rfl
          | some x =>
            have z := fsK_get fs k
            rw [e] at z
            exact absurd (of_decide_eq_true z.symm) nk
        have hput : putK (fsK fs) (.inl (k : Int)) (.bl true) = fsK (fs ++ [k]) := by
          rw [putK_new _ hv]
          unfold fsK
          rw [List.map_append]
          rfl
        have hsz : (fsK fs).length < sizeLine := by
          unfold fsK
          rw [List.length_map]
          exact lt24 (by omega)
        refine ⟨_, rfl, _, rfl, d, _, rfl, DPut.k (k := .inl (k : Int)) eD2 hsz, ?_⟩
        rw [hput]
        obtain ⟨pc, gk⟩ := hkt
        have s5 : Same H (upd (upd H1 l (.lst (init.map fun k => V.int (k : Nat)))) d (.dK (fsK (fs ++ [k])))) := sm_upd' s4 hd
        have eL5 : (upd (upd H1 l (.lst (init.map fun k => V.int (k : Nat)))) d (.dK (fsK (fs ++ [k])))) l = some (.lst (init.map fun k => V.int (k : Nat))) := (upd_ne (Ne.symm ndl)).trans upd_same
        refine ⟨_, rfl, .inl ⟨rfl, _, SqL.of eL5⟩, _, rfl, _, rfl, a, y, k, pc, rfl, hy.tk (sm_tk s5), by omega, gk, fun H6 p6 s6 n6 e6 => ?_⟩
        have hnl : (nbrs y pc).length ≤ 4 := Nat.le_trans (List.length_filterMap_le _ _) (ends_len _ _).1
        refine ⟨l, p6, _, _, rfl, rfl, s6 _ _ eL5, e6, ?_, ?_⟩
        · rw [List.length_map, List.length_map, List.length_map]
          exact small24 (by omega)
        · have nl6 : l ≠ d := Ne.symm ndl
          have ndk : (fs ++ [k]).Nodup := nd_snoc ndf nk
          have hfs' : ∀ z ∈ fs ++ [k], Reach y n z := fun z hz => by
            rcases List.mem_append.mp hz with hz | hz
            · exact hfs z hz
            · rw [List.mem_singleton.mp hz]
              exact hk
          have hl' : (fs ++ [k]).length ≤ y.length := nd_len ndk fun z hz => ((hfs' z hz).there h0).lt
          rw [List.length_append, List.length_singleton] at hl'
          refine ⟨fs ++ [k], init ++ nbrs y pc, _, ?_, sm_upd' (s5.trans s6) (s1.free hl2), rfl, (upd_ne ndl).trans (s6 _ _ upd_same), ?_, ndk, hfs', ?_, ?_, ?_, ?_⟩
          · rw [List.length_append, List.length_append, List.length_append, List.length_singleton]
            omega
          · rw [upd_same, List.map_append, List.map_map]
            rfl
          · intro z hz
            rcases List.mem_append.mp hz with hz | hz
            · exact htd z (List.mem_append_left _ hz)
            · exact .step hk ⟨pc, gk, hz⟩
          · rcases hn with hn | hn
            · exact .inl (List.mem_append_left _ hn)
            · rcases List.mem_append.mp hn with hn | hn
              · exact .inr (List.mem_append_left _ hn)
              · exact .inl (List.mem_append_right _ hn)
          · intro z hz b hb
            rcases List.mem_append.mp hz with hz | hz
            · rcases hcl z hz b hb with h | h
              · exact .inl (List.mem_append_left _ h)
              · rcases List.mem_append.mp h with h | h
                · exact .inr (List.mem_append_left _ h)
                · exact .inl (List.mem_append_right _ h)
            · rw [List.mem_singleton.mp hz] at hb
              obtain ⟨pc2, g2, h2⟩ := hb
              rw [gk] at g2
              cases Option.some.inj (Option.some.inj g2)
              exact .inr (List.mem_append_right _ h2)
          · rw [List.length_append, List.length_append, List.length_singleton]
            omega
      · rw [fsK_get] at c
        have hkf : k ∈ fs := by
          rcases Classical.em (k ∈ fs) with h | h
          · exact h
          · rw [decide_eq_false h] at c
            exact absurd rfl c
        refine ⟨fs, init, _, ?_, s4, rfl, eD2, upd_same, ndf, hfs, fun z hz => htd z (List.mem_append_left _ hz), ?_, ?_, ?_⟩
        · rw [List.length_append, List.length_singleton]
          omega
        · rcases hn with hn | hn
          · exact .inl hn
          · rcases List.mem_append.mp hn with hn | hn
            · exact .inr hn
            · rw [List.mem_singleton.mp hn]
              exact .inl hkf
        · intro z hz b hb
          rcases hcl z hz b hb with h | h
          · exact .inl h
          · rcases List.mem_append.mp h with h | h
            · exact .inr h
            · rw [List.mem_singleton.mp h]
              exact .inl hkf
        · omega
    · -- done
      have hne : todo = [] := by
        cases todo with
        | nil => rfl
        | cons z r => exact absurd rfl c
      subst hne
      have hall : ∀ z, z ∈ fs ↔ Reach y n z := fun z => ⟨hfs z, fun hz => reach_of (by
        rcases hn with hn | hn
        · exact hn
        · exact nomatch hn) (fun k hk b hb => by
        rcases hcl k hk b hb with h | h
        · exact h
        · exact nomatch h) hz⟩
      refine ⟨_, rfl, d, fsK fs, fs.map Int.ofNat, rfl, .inl eD, by unfold fsK; rw [List.map_map, List.map_map]; rfl, by rw [List.length_map]; omega, fun ys p hp hs np => ?_⟩
      have ey := isl_sorted h0 ndf hall hp hs
      subst ey
      refine ⟨p, _, rfl, .inl ⟨SqL.of upd_same, fun p2 np2 => ?_⟩⟩
      have s5 := sm_updN (o := .lst (((isl y n).map Int.ofNat).map V.int)) s3 np
      exact q _ p2 (sm_updN s5 np2) (s5.free np2) upd_same
end
end Rk
end
section
set_option Elab.async false
set_option linter.all false
set_option maxRecDepth 100000
set_option maxHeartbeats 4000000
/-! layouts.py: islands_of. -/
namespace Rk
open PySem PySem.Spec PyProof.Rows L2
open GxR (TabB TabG Tabbed GenS)
/-- a def of the module whose code object is known -/
structure DnC (K : PySem.W.Frag) (mg : Str → Option Value) (x : Str) (st : Stmt) (c : Addr) : Prop where
  ex : ∃ f fd, Fn K x x st f fd ∧ mg x = some (.ref f) ∧ fd.code = .ref c
section
variable {P : Program} {w : World} {K : PySem.W.Frag} {mg : Str → Option Value} {base : Heap}
theorem DnC.cal {x : Str} {st : Stmt} {c : Addr} {N ps : List Str} {k : Nat} {sp : Sp} (D : DnC K mg x st c) (S : FnScope N ps (defScope st)) (len : ∀ vs H Q E, sp vs H Q E → vs.length = ps.length)
    (bi : ∀ (kV doc pm : Value) (an : Option Addr) (cdv ct : Value) (us : List Value), us.length = ps.length → bindArgs (PySem.W.fnOf x x (defArgs st) (defBody st) (defScope st) .none kV doc pm an cdv ct) ⟨us, []⟩ = pure (ps.zip us))
    (hb : ∀ (f : Addr) (A : Around) (outer : List Env) (s : Shared) (H : Hp) (vs : List V) (Q : VK) (E : XK), Room k (A.deeper (envOfC x (defScope st) s.heap.objs.size f (.ref c))) → sp vs H Q E →
      ∃ t, PSs (cxOf CX0 P w K mg base N x (defScope st) f (.ref c) A outer s H E).nox (defBody st) t ∧ t { nx := fun _ H' => Q .non H', rt := Q } (start N vs) H) : Cal P w K mg base (k + 1) x sp := by
  obtain ⟨f, fd, F, hm, hc⟩ := D.ex
  refine ⟨f, fd, ps, ?_, hm, F.kp, F.bindsN bi⟩
  obtain ⟨oc, od, dV, kV, doc, pm, an, cdv, ct, osl, rfl, lk, hcd, _, _⟩ := F.ex
  obtain rfl : cdv = .ref c := hc
  refine fn_of lk hcd S len fun A outer s H vs Q E hr h => ?_
  obtain ⟨t, h1, h2⟩ := hb f A outer s H vs Q E hr h
  exact ⟨t, h1.nox, h2⟩
theorem tabG_sm {H H' : Hp} {p : Addr} (s : Same H H') (h : TabG H p) : TabG H' p := by
  obtain ⟨ps, e, t⟩ := h
  exact ⟨ps, s _ _ e, t⟩
theorem tabG_ne {H : Hp} {p l : Addr} {o : HO} (n : p ≠ l) (h : TabG H p) : TabG (upd H l o) p := by
  obtain ⟨ps, e, t⟩ := h
  exact ⟨ps, (upd_ne n).trans e, t⟩
theorem tabbed_sx {H H' : Hp} {p : Addr} (h : Tabbed p H H') : SameX p H H' := fun a o n e => (h.2 a n).trans e
/-- whose tuples stand: at p stands a table -/
theorem sx_tk {H H' : Hp} {p : Addr} (s : SameX p H H') (h : TabG H p) : Tk H H' := fun a xs e => by
  refine s a _ (fun z => ?_) e
  obtain ⟨ps, e1, _⟩ := h
  rw [z, e1] at e
  cases e
/-- free stays free, looked at from behind -/
theorem sx_free {H H' : Hp} {p a : Addr} (s : SameX p H H') (t : TabG H' p) (h : H' a = none) : H a = none := by
  cases e : H a with
  | none => rfl
  | some o =>
    by_cases n : a = p
    · obtain ⟨ps, e1, _⟩ := t
      rw [← n, h] at e1
      cases e1
    · rw [s a o n e] at h
      cases h
/-- tuples of numbers -/
def NsH (H : Hp) (v : V) (ns : List Nat) : Prop := ∃ t, v = .ref t ∧ H t = some (.tup ((ns.map Int.ofNat).map V.int))
theorem NsH.tk {H H' : Hp} {v : V} {ns : List Nat} (t : Tk H H') (h : NsH H v ns) : NsH H' v ns := by
  obtain ⟨a, e, h⟩ := h
  exact ⟨a, e, t _ _ h⟩
abbrev IslsH (H : Hp) : List V → List (List Nat) → Prop := Paired (NsH H)
theorem isls_at {H : Hp} : ∀ {rs : List V} {xs : List (List Nat)}, IslsH H rs xs → IslsAt K H rs (xs.map fun ns => ns.map Int.ofNat)
  | _, _, .nil => .nil
  | _, _, .cons h t => by
    obtain ⟨a, e, h⟩ := h
    exact .cons ⟨a, e, sqt_of h⟩ (isls_at t)
theorem any_isl (xs : List (List Nat)) (n : Nat) : ((xs.map fun ns => ns.map Int.ofNat).any fun ns => inV (.int (n : Nat)) (ns.map V.int)) = true ↔ ∃ s ∈ xs, n ∈ s := by
  rw [List.any_eq_true]
  constructor
  · rintro ⟨ns, h1, h2⟩
    obtain ⟨s, hs, rfl⟩ := List.mem_map.mp h1
    rw [inV_ints, decide_eq_true_iff] at h2
    obtain ⟨k, hk, e⟩ := List.mem_map.mp h2
    have e2 : k = n := Int.ofNat_inj.mp e
    exact ⟨s, hs, e2 ▸ hk⟩
  · rintro ⟨s, hs, hn⟩
    refine ⟨_, List.mem_map.mpr ⟨s, hs, rfl⟩, ?_⟩
    rw [inV_ints, decide_eq_true_iff]
    exact List.mem_map.mpr ⟨n, hn, rfl⟩
def spIsles (p : Addr) : Sp := fun vs H Q _ => ∃ (a : Addr) (y : Lay), vs = [.ref a] ∧ LayT H a y ∧ y.length ≤ 60 ∧ TabG H p ∧ ∀ H' t xs, SameX p H H' → TabG H' p → H t = none → H' t = some (.tup xs) → IslsH H' xs (isles y) → Q (.ref t) H'
theorem sc_isles : FnScope ["layout", "found", "number", "piece"] ["layout"] (defScope s_islands_of) := ⟨rfl, rfl, rfl, by decide +kernel, rfl, by decide +kernel, by decide +kernel⟩
theorem c_isles {c p : Addr} (D : DnC K mg "islands_of" s_islands_of c) (TB : TabB base mg c p) (mt : mg "tuple" = none) (me : mg "enumerate" = none) (ma : mg "any" = none) (ci : Cal P w K mg base 8 "island_of" spIsl) : Cal P w K mg base 9 "islands_of" (spIsles p) := by
  refine D.cal sc_isles (fun vs H Q E h => ?_) (fun _ _ _ _ _ _ us hl => match us, hl with | [_], _ => rfl) (fun f A outer s H vs Q E hr h => ?_)
  · obtain ⟨a, y, rfl, _⟩ := h
    rfl
  · obtain ⟨a, y, rfl, hy, hl, hT, q⟩ := h
    have nd := sc_isles.nd
    refine ⟨_, pss_cons (ps_set (i := 1) nd rfl (.inl rfl) (pe_lst pa_nil))
      (pss_cons (ps_for PassesOwn.never rfl (pi_enumT (by rfl) me (pa_cons (pv 0) pa_nil)) (pg_tup rfl (pgs_cons (pg_name (i := 2) nd rfl (.inr rfl)) (pgs_cons (pg_name (i := 3) nd rfl (.inl rfl)) pgs_nil)))
        (pss_one (ps_if (pw_and (pt_cmpR op_notN1 (pv 3) pe_non (nomark _)) (pw_and1 (pt_not (pt_truth (pe_anyI (i := 2) (y := "number") hr (by rfl) ma TB rfl (by
            refine ⟨rfl, rfl, by decide +kernel, rfl, rfl, fun y hy hf => ?_⟩
            have e : (defScope s_islands_of).names.lookup y.1 = some .cell := by
              revert y
              decide +kernel
            exact cell_has e) (pv 1) rfl rfl rfl (fun _ => rfl) (fun _ => rfl)) (fun _ => rfl))))).pt
          (pss_one (ps_expr (pe_bm PySem.F.plainAttrs_list PySem.F.slot_list_append PySem.F.type_list_append mt_append (pv 1) (pa_cons (pe_c ci hr (by decide) rfl (pa_cons (pv 0) (pa_cons (pv 2) pa_nil))) pa_nil)))) pss_nil)))
      (pss_one (ps_ret (pe_callTy call_tuple_of (by rfl) mt boot_tuple (pa_cons (pv 1) pa_nil))))), ?_⟩
    obtain ⟨pvs, ha, hp⟩ := hy
    have hyT : LayT H a y := ⟨pvs, ha, hp⟩
    have hlen : pvs.length = y.length := pr_len hp
    refine ⟨Nat.zero_le _, fun l hl0 => ?_⟩
    have s0 := sm_upd (o := .lst []) hl0
    have npl : p ≠ l := fun z => by
      obtain ⟨_, e, _⟩ := hT
      rw [z, hl0] at e
      cases e
    refine ⟨_, rfl, a, _, rfl, sqt_of (s0 _ _ ha), ?_⟩
    refine for_it (walk_enumT (K := K) (a := a) (xs := pvs))
      (fun i σ H' => SameX p H H' ∧ TabG H' p ∧ ∃ (c2 c3 : Option V) (rs : List V), σ = [some (.ref a), some (.ref l), c2, c3] ∧ H' l = some (.lst rs) ∧ IslsH H' rs (islesTo y i))
      ⟨sx_of s0, tabG_sm s0 hT, none, none, [], rfl, upd_same, .nil⟩ (fun i σ H' _ z => sqt_of (sx_tk z.1 hT _ _ ha)) ?_ ?_
    · rintro i v σ H1 H2 hi ⟨x1, T1, c2, c3, rs, rfl, eL, hrs⟩ ⟨T, x, o, rfl, nT, rfl, gx, go⟩
      obtain rfl : V.int (i : Nat) = x := Option.some.inj gx
      obtain ⟨pc, gpc, hpc⟩ := pr_get hp go
      have s2 : Same H1 (upd H1 T (.tup [.int (i : Nat), o])) := sm_upd nT
      refine ⟨T, [_, _], rfl, .inl (.inl upd_same), rfl, _, [_], rfl, _, [], rfl, rfl, ?_⟩
      have x2 := x1.trans (sx_of s2)
      have T2 := tabG_sm s2 T1
      have hrl : rs.length ≤ 60 := by
        rw [pr_len hrs]
        exact Nat.le_trans (isles_len y i) (by omega)
      refine ⟨_, rfl, rfl, _, rfl, ?_⟩
      cases pc with
      | none =>
        obtain rfl : o = .non := hpc
        refine ⟨x2, T2, _, _, rs, rfl, s2 _ _ eL, ?_⟩
        have e : islesTo y (i + 1) = islesTo y i := isles_same (Nat.le_succ i) fun j h1 h2 ht => by
          obtain ⟨pc, e⟩ := ht
          have : j = i := by omega
          rw [this, gpc] at e
          cases e
        rw [e]
        exact Paired.mapP hrs fun _ _ z => z.tk (sm_tk s2)
      | some pc =>
        have ht : There y i := ⟨pc, gpc⟩
        obtain ⟨t, qa, rfl, h1, h2⟩ := hpc
        refine ⟨_, rfl, l, (i : Int), rs, _, rfl, rfl, SqL.of (s2 _ _ eL), isls_at (Paired.mapP hrs fun _ _ z => z.tk (sm_tk s2)), T2, fun H3 tb3 => ?_⟩
        have x3 := x2.trans (tabbed_sx tb3)
        have T3 := tb3.1
        have eL3 : H3 l = some (.lst rs) := (tb3.2 l (Ne.symm npl)).trans (s2 _ _ eL)
        have tk3 : Tk H1 H3 := (sm_tk s2).trans (sx_tk (tabbed_sx tb3) T2)
        have hrs3 := Paired.mapP hrs fun _ _ z => NsH.tk tk3 z
        refine ⟨_, rfl, ?_⟩
        cases hb : ((islesTo y i).map fun ns => ns.map Int.ofNat).any fun ns => inV (.int (i : Nat)) (ns.map V.int) with
        | true =>
          have e : islesTo y (i + 1) = islesTo y i := isles_same (Nat.le_succ i) fun j h1 h2 _ => by
            have : j = i := by omega
            rw [this]
            exact (any_isl _ _).mp hb
          refine ⟨x3, T3, _, _, rs, rfl, eL3, ?_⟩
          rw [e]
          exact hrs3
        | false =>
          have e : islesTo y (i + 1) = islesTo y i ++ [isl y i] := isles_new ht fun z => by
            rw [(any_isl _ _).mpr z] at hb
            cases hb
          refine ⟨_, rfl, .inl ⟨rfl, _, SqL.of eL3⟩, _, rfl, _, rfl, a, y, i, rfl, hyT.tk (sx_tk x3 hT), hl, ht, fun H4 t4 s4 n4 e4 => ?_⟩
          have nl4 : t4 ≠ l := fun z => by
            rw [z, eL3] at n4
            cases n4
          have tk5 : Tk H4 (upd H4 l (.lst (rs ++ [.ref t4]))) := tk_lst (s4 _ _ eL3)
          refine ⟨l, rs, .ref t4, rfl, rfl, s4 _ _ eL3, lt24 (by omega), fun b u nb hb => ?_, tabG_ne npl (tabG_sm s4 T3), _, _, _, rfl, upd_same, ?_⟩
          · have h3 := (x3.trans (sx_of s4)) b u nb hb
            rw [upd_ne (fun z => by rw [z, hl0] at hb; cases hb)]
            exact h3
          · rw [e]
            exact pr_snoc (Paired.mapP hrs3 fun _ _ z => (z.tk (sm_tk s4)).tk tk5) ⟨t4, rfl, (upd_ne nl4).trans e4⟩
    · rintro σ H1 ⟨x1, T1, c2, c3, rs, rfl, eL, hrs⟩
      refine ⟨_, rfl, l, rs, rfl, .inl ⟨SqL.of eL, fun t ht => ?_⟩⟩
      rw [hlen] at hrs
      have s5 := sm_upd (o := .tup rs) ht
      exact q _ t rs (x1.trans (sx_of s5)) (tabG_sm s5 T1) (sx_free x1 T1 ht) upd_same (Paired.mapP hrs fun _ _ z => z.tk (sm_tk s5))
end
end Rk
end
section
set_option Elab.async false
set_option linter.all false
set_option maxRecDepth 100000
set_option maxHeartbeats 4000000
/-! The own error: its class stands over another own class, which stands over ValueError; its __init__ calls super().__init__(reason), then stores the reason. -/
namespace Rk
open PySem PySem.Spec PyProof.Rows
open PySem.W PySem.Calls PySem.HandSPX
open L2 (inClass defArgs defBody defScope)
abbrev m_bad : Stmt := inClass (top 2) 0
structure BadTxt (P : Program) (K : Frag) (mg : Str → Option Value) (C fI : Addr) : Prop where
  gC : mg "BadPiece" = some (.ref C)
  cls : ∃ nm q N bs bm sn sub ab col dd k0 k1 k2 k3 k5, K.lookup C = some (excClassObj nm q C N bs bm true sn sub ab col dd k0 k1 k2 k3 k5 "ValueError.__new__") ∧ refsVE bm = true
  sa : findIn K (.ref C) "__setattr__" = some (some (.builtin "object.__setattr__"))
  ga : findIn K (.ref C) "__getattribute__" = some (some (.builtin "BaseException.__getattribute__"))
  gg : findIn K (.ref C) "__getattr__" = some none
  noN : findIn K (.ref C) "reason" = some none
  iC : findIn K (.ref C) "__init__" = some (some (.ref fI))
  tC : typeIn K (.ref fI) = some (.type "function")
  kC : keepIn K (.ref C) = true
  exC : subIn K (.ref C) (.type "BaseException") = some true
  tyC : typeIn K (.ref C) = some (.type "type")
  hdC : hasDictIn K C = true
  te : exmOne K (.ref C) (.ref C) = some true
  sC : mroIn K C (.ref C) = some true
  sV : subIn K (.ref C) (.type "ValueError") = some true
  sm : ks_superIn K C C "__init__" = some (some (.builtin "ValueError.__init__"))
  op : nsIn K cStatics "thirdparty.any" = some none
  gs : mg "super" = none
  fn : ∃ (oc : Value) (od : Option Addr) (doc pm : Value) (an : Option Addr) (ct : Value) (osl : Array (Option Value)) (cda cc : Addr) (ccl cl : Value) (cdd cld : Option Addr) (vs : Array Value) (ccs csl : Array (Option Value)) (file : Str) (tf : Tok),
    K.lookup fI = some ⟨oc, od, .func (ksFn "__init__" "BadPiece.__init__" (defArgs m_bad) (defBody m_bad) (defScope m_bad) .none .none doc pm an (.ref cda) ct cc), osl⟩ ∧ codeIn K (.ref cda) "BadPiece.__init__" = true ∧
    K.lookup cda = some ⟨ccl, cdd, .fields vs, ccs⟩ ∧ vs[2]? = some (.str file tf) ∧ ((P.main.file : Str) == file) = true ∧ K.lookup cc = some ⟨cl, cld, .cell (some (.ref C)), csl⟩
  top_ : (P.main.scope.names.lookup ("super" : Str)).isSome = false
theorem one_size (v : Value) : [v].length ≤ sizeLine := by
  rw [sizeLine_eq]
  exact (by decide : 1 ≤ 16777216)
theorem kept_but {K : Frag} {h h' : Heap} {x : Addr} (X : K.In h) (hx : K.lookup x = none) (k : ∀ b o, b ≠ x → h.get? b = some o → h'.get? b = some o) : K.In h' := fun a o e =>
  k a o (fun z => by rw [z, hx] at e; cases e) (X a o e)
/-- what __init__ leaves of a fresh exception at x -/
structure BadEnd (h h' : Heap) (x C dx t1 : Addr) (v : Value) : Prop where
  keep : ∀ b o, b ≠ x → h.get? b = some o → h'.get? b = some o
  obj : h'.get? x = some { cls := .ref C, dict := some dx, data := .fields #[.ref t1, .none, .none, .none, .bool false, .none] }
  dbig : h.objs.size ≤ dx
  dne : dx ≠ x
  ns : h'.Ns1 dx (fun y => if y = "reason" then some v else none)
/-- a made one -/
structure OwnMade (h h' : Heap) (e C d : Addr) (v : Value) : Prop where
  keep : ∀ b o, h.get? b = some o → h'.get? b = some o
  new : h.objs.size ≤ e
  obj : ∃ oe vs, h'.get? e = some oe ∧ oe.cls = .ref C ∧ oe.dict = some d ∧ oe.data = .fields vs ∧ vs[1]? = some .none
  dbig : h.objs.size ≤ d
  dne : d ≠ e
  ns : h'.Ns1 d (fun y => if y = "reason" then some v else none)
theorem boot_super : bootBuiltins "super" = some (.type "super") := by decide +kernel
section
variable {prog : Program} {w : World} {A : Around} {E : Value → Shared → Prop} {R : Result → Shared → Prop} {s : Shared} {K : Frag} {mg : Str → Option Value} {C fI : Addr}
theorem mw_call {u x t0 : Addr} {v : Value} {nm q : Str} {N : Addr} {bs bm sub : List Value} {sn : List Str} {ab : Bool} {col : Option Bool} {dd : Option Addr} {k0 k1 k2 k3 k5 : Option Value} {Q : Value → Shared → Prop}
    (hu : s.heap.get? u = some (kxs_mw "ValueError.__init__" x)) (hC : s.heap.get? C = some (excClassObj nm q C N bs bm true sn sub ab col dd k0 k1 k2 k3 k5 "ValueError.__new__")) (hx : s.heap.get? x = some (excO C t0))
    (hq : ∀ h', (∀ b o, b ≠ x → s.heap.get? b = some o → h'.get? b = some o) → h'.get? x = some (excO C s.heap.objs.size) → Q .none { s with heap := h' }) : wpAny (model prog w) A (call (.ref u) [v]) Q E s := by
  obtain ⟨hp, g, d, tk, os⟩ := s
  refine wpAny_call (codeAny_of_tree ?_)
  show wpAny _ A.in1 (callAny (.ref u) ⟨[v], []⟩) _ _ _
  simp only [callAny]
  refine wpAny_bind (wpAny_load hu ?_)
  simp only [kxs_mw, show (Value.type "method-wrapper" == Value.type "method" || Value.type "method-wrapper" == Value.type "builtin_function_or_method" || Value.type "method-wrapper" == Value.type "method-wrapper") = true by decide, if_true]
  refine KFB.if_so (by decide) ?_
  refine wpAny_bind (check_bound_init PySem.F.excBase_ValueError.toExcCallFacts hC hx rfl ?_)
  refine wpAny_bind (wpAny_pure (wpAny_pure ?_))
  refine ⟨plainId_quiet PySem.F.excBase_ValueError.init.plain _, codeAny_builtin PySem.F.excBase_ValueError.initEntry ?_⟩
  exact exc_init_tree (cls := .ref C) (t0 := t0) (dv := none) (c2 := .none) (c3 := .none) (b4 := .bool false) hx (one_size v) fun h₄ k4 hx₄ _ => hq h₄ k4 hx₄
theorem bad_init (T : BadTxt prog K mg C fI) {x t0 : Addr} {v : Value} (X : K.In s.heap) (hlim : s.heap.NoLimit) (G : s.heap.Ns mainGlobals mg) (B : ∃ mb, s.heap.Ns builtinsNs mb ∧ ∀ x : Str, x ≠ "__name__" → mb x = bootBuiltins x)
    (hx : s.heap.get? x = some (excO C t0)) (hnx : K.lookup x = none) (hroom : A.depth < recursionLimit)
    (hq : ∀ h' tk dx t1, BadEnd s.heap h' x C dx t1 v → R (.ok (.ret .none)) { s with heap := h', toks := tk }) :
    codeAny (model prog w) A (.call (.ref fI) ⟨[.ref x, v], []⟩) R s := by
  obtain ⟨oc, od, doc, pm, an, ct, osl, cda, cc, ccl, cl, cdd, cld, vs, ccs, csl, file, tf, ho, hcd, hcode, hvs, hfile, hcell⟩ := T.fn
  obtain ⟨nm, q, N, bs, bm, sn, sub, ab, col, dd, k0, k1, k2, k3, k5, hC, hbm⟩ := T.cls
  obtain ⟨mb, B1, B2⟩ := B
  have hcl : clsIn K C = some { name := nm, bases := bs, mro := .ref C :: bm, ns := N, qualname := q, hasDict := true, slotNames := sn, subclasses := sub, abstract := ab, collection := col, hasDel := false } := by unfold clsIn; rw [hC] <;> rfl
  refine ks_codeAny_call_defAt (fd := ksFn "__init__" "BadPiece.__init__" (defArgs m_bad) (defBody m_bad) (defScope m_bad) .none .none doc pm an (.ref cda) ct cc) (body := defBody m_bad) (binds := [("self", .ref x), ("reason", v)]) hroom (X _ _ ho) rfl hlim
    (codeRec_of X hcd) rfl (BindsTo.of_eq (by first | rfl | with_unfolding_all rfl)) (show ∀ x ∈ (defScope m_bad).names, x.2 ≠ .cell by decide +kernel) (fun y hy => by
      rcases List.mem_cons.mp hy with z | hy
      · rw [z]
        rfl
      · rw [List.mem_singleton.mp hy]
        rfl) (fun h₁ hn k => ?_) rfl rfl rfl
  have hxL : s.heap.objs.size ≠ x := Nat.ne_of_gt (Heap.lt_size hx)
  have X₁ : K.In h₁ := X.keeps k
  have hx₁ := k _ _ hx
  obtain ⟨hp, g, d, tk, os⟩ := s
  obtain ⟨oD, hD1, hD2⟩ : ∃ oD : Obj, h₁.get? C = some oD ∧ oD.data = .cls { name := nm, bases := bs, mro := .ref C :: bm, ns := N, qualname := q, hasDict := true, slotNames := sn, subclasses := sub, abstract := ab, collection := col, hasDel := false } := ⟨_, X₁ _ _ hC, rfl⟩
  have hxC : x ≠ C := fun z => by
    rw [z, hC] at hnx
    cases hnx
  -- super().__init__(reason)
  refine ks_wpAt_execs_cons (ks_wpAt_Expr_any (ks_wpAt_MethodCall ?_))
  refine ks_wpAt_super_base rfl rfl (by decide +kernel) rfl (X₁ _ _ ho) rfl rfl rfl (X₁ _ _ hcode) rfl hvs hfile T.top_ ?_
  refine ks_loadName_global rfl rfl (loadGlobal_builtin (G.keeps k) T.gs (B1.keeps k) ((B2 _ (by decide)).trans boot_super) ⟨rfl, ?_⟩)
  refine wpAny_loadName_free rfl rfl rfl ⟨_, X₁ _ _ hcell, rfl⟩ ?_
  refine wpAny_loadName_local rfl rfl hn (by first | rfl | with_unfolding_all rfl) ?_
  refine ks_wpAny_isType_cls hD1 hD2 ⟨rfl, ?_⟩
  refine ks_wpAny_call_super hD1 hD2 hx₁ rfl (fun c e => nomatch e) (looks_mroIn X₁ T.sC) (fun h₂ e2 k2 => ?_)
  have X₂ : K.In h₂ := X₁.keeps k2
  have hx₂ := k2 _ _ hx₁
  have I₂ : InstAt h₂ x (excO C t0) C none := ⟨hx₂, rfl, rfl, trivial⟩
  have hsm : alongIn K "__init__" (((.ref C :: bm : List Value).dropWhile (· != .ref C)).drop 1) = some (some (.builtin "ValueError.__init__")) := by
    have z := T.sm
    unfold ks_superIn at z
    rw [hcl] at z
    exact z
  refine kxs_getMethod (B := "ValueError") (i := "ValueError.__init__") kxs_ValueError e2 (looks_opaque X₂ T.op) (l₀ := .ref C :: bm) (fun A Q E s k q => wpAny_bind ((looks_clsIn X₂ hcl) A _ E s k (wpAny_pure q))) rfl X₂ hsm (I₂.type.andThen (looks_subIn X₂ T.sV)) hxC (by decide +kernel) ?_
  have k3 : ∀ b o, h₂.get? b = some o → (h₂.push (kxs_mw "ValueError.__init__" x)).get? b = some o := fun b o e => Heap.get?_push_of_some _ e
  have hu : (h₂.push (kxs_mw "ValueError.__init__" x)).get? h₂.objs.size = some (kxs_mw "ValueError.__init__" x) := Heap.get?_push_size _ rfl
  have hn3 := (hn.keeps k2).keeps k3
  refine kxs_callWith (i := "ValueError.__init__") (x := x) rfl (evalArgs_plain (spliced_cons (wpAny_Name (wpAny_loadName_local rfl rfl hn3 (v := v) (by first | rfl | with_unfolding_all rfl) (spliced_nil ⟨hu, ?_⟩)) (by decide +kernel))))
  have X₃ : K.In (h₂.push (kxs_mw "ValueError.__init__" x)) := X₂.keeps k3
  have hx₃ := k3 _ _ hx₂
  refine mw_call hu (X₃ _ _ hC) hx₃ fun h₄ k4 hx₄' => ?_
  obtain ⟨t4, hx₄⟩ : ∃ t4, h₄.get? x = some (excO C t4) := ⟨_, hx₄'⟩
  have k14 : ∀ b o, b ≠ x → hp.get? b = some o → h₄.get? b = some o := fun b o nb e => k4 b o nb (k3 b o (k2 b o (k b o e)))
  have X₄ : K.In h₄ := kept_but X hnx k14
  -- self.reason = reason
  refine wpAt_of_wpAny ?_
  refine wpAny_execs_cons (plainObj_wpAny_Assign_Attribute ?_)
  have hn4 : h₄.Ns hp.objs.size _ := hn3.at (fun o e => k4 _ o hxL e)
  refine wpAny_Name (wpAny_loadName_local rfl rfl hn4 (v := v) (by first | rfl | with_unfolding_all rfl) ?_) (by decide +kernel)
  refine wpAny_Name (wpAny_loadName_local rfl rfl hn4 (v := .ref x) (by first | rfl | with_unfolding_all rfl) ?_) (by decide +kernel)
  refine set_plain X₄ (ox := excO C t4) (od := none) ⟨hx₄, rfl, rfl, trivial⟩ T.sa ?_
  refine exc_osa X₄ hx₄ hcl (show refsVE (.ref C :: bm) = true from hbm) rfl T.noN (fun h₅ tk₅ dx k₅ dn dne hx₅ hn₅ => ?_)
  show wpAny _ _ (execs _ _) _ _ _
  have z : hp.objs.size < h₄.objs.size := hn4.lt
  exact wpAny_execs_nil (hq h₅ tk₅ dx t4 ⟨fun b o hb e => k₅ b o hb (k14 b o hb e), hx₅, Nat.le_of_lt (Nat.lt_of_lt_of_le z dn), dne, hn₅⟩)
theorem bad_made (T : BadTxt prog K mg C fI) {v : Value} (X : K.In s.heap) (hlim : s.heap.NoLimit) (G : s.heap.Ns mainGlobals mg) (B : ∃ mb, s.heap.Ns builtinsNs mb ∧ ∀ x : Str, x ≠ "__name__" → mb x = bootBuiltins x) (hroom : A.depth + 1 < recursionLimit)
    (hq : ∀ h' tk e d, OwnMade s.heap h' e C d v → R (.ok (.ret (.ref e))) { s with heap := h', toks := tk }) :
    codeAny (model prog w) A (.call (.ref C) ⟨[v], []⟩) R s := by
  obtain ⟨nm, q, N, bs, bm, sn, sub, ab, col, dd, k0, k1, k2, k3, k5, hC, hbm⟩ := T.cls
  obtain ⟨hp, g, dr, tk, os⟩ := s
  have k : ∀ b o, hp.get? b = some o → ((hp.push (kdv_tup [v])).push (excO C hp.objs.size)).get? b = some o := fun b o e => Heap.get?_push_of_some _ (Heap.get?_push_of_some _ e)
  have hget : ((hp.push (kdv_tup [v])).push (excO C hp.objs.size)).get? (hp.objs.size + 1) = some (excO C hp.objs.size) := by heap_get
  have hnx : K.lookup (hp.objs.size + 1) = none := by
    cases e : K.lookup (hp.objs.size + 1) with
    | none => rfl
    | some o =>
      have z : hp.get? (hp.objs.size + 1) = some o := X _ _ e
      exact absurd (Nat.lt_of_succ_lt (Heap.lt_size z)) (Nat.lt_irrefl _)
  refine call_own F.excBase_ValueError (fun X => refsVE_contains X bm hbm) (X _ _ hC) (looks_findIn X T.iC) (fun self => bind_fn X self T.tC) (one_size v) ?_
  refine bad_init (s := ⟨(hp.push (kdv_tup [v])).push (excO C hp.objs.size), g, dr, tk, os⟩) T (X.keeps k) (hlim.keeps k) (G.keeps k) (by obtain ⟨mb, h1, h2⟩ := B; exact ⟨mb, h1.keeps k, h2⟩) hget hnx ?_ fun h' tk' dx _ ⟨k', hx, dn, dne, hns⟩ => ?_
  · show A.depth + 1 < recursionLimit
    exact hroom
  · have old : ∀ b o, hp.get? b = some o → h'.get? b = some o := fun b o e => k' b o (Nat.ne_of_lt (Nat.lt_succ_of_lt (Heap.lt_size e))) (k b o e)
    have z : hp.objs.size + 1 + 1 ≤ dx := by
      first
        | (simpa only [Heap.size_push] using dn)
        | exact dn
        | (have q := dn; rw [Heap.size_push, Heap.size_push] at q; exact q)
    exact ⟨rfl, hq h' tk' (hp.objs.size + 1) dx ⟨old, Nat.le_succ _, ⟨_, _, hx, rfl, rfl, rfl, rfl⟩, Nat.le_trans (Nat.le_trans (Nat.le_succ _) (Nat.le_succ _)) z, dne, hns⟩⟩
end
end Rk
namespace Rk
open PySem PySem.Spec PyProof.Rows L2
theorem relO_bad {v : V} {v' : Value} (r : RelV v v') (f : Str) : RelO (List.lookup f [(("reason" : Str), v)]) (if f = "reason" then some v' else none) := by
  by_cases hw : f = "reason"
  · subst hw
    rw [if_pos rfl]
    have q : List.lookup ("reason" : Str) [(("reason" : Str), v)] = some v := by simp [List.lookup]
    rw [q]
    exact r
  · rw [if_neg hw]
    have qw : (f == ("reason" : Str)) = false := by simpa using hw
    have q2 : List.lookup f [(("reason" : Str), v)] = none := by simp [List.lookup, qw]
    rw [q2]
    trivial
section
variable {X : Cx} {C fI : Addr}
/-- BadPiece(e) -/
def tMkBad (C : Addr) (ta : TA) : L2.St → Hp → XK → Prop := fun σ H Q => ta σ H fun vs H1 => ∃ v, vs = [v] ∧ ∀ d, H1 d = none → Q (.ref C) (some d) (upd H1 d (.xd [(("reason" : Str), v)]))
theorem pmk_bad {a : Expr} {ta : TA} {p pos : Pos} {k : Nat} (T : BadTxt X.prog X.K X.mg C fI) (hr : Room k X.A) (ha : PA X [a] ta) (hg : Gl X "BadPiece" := by rfl)
    (he : starEach (a :: []) X.env = (false, eval a X.env) :: starEach [] X.env := by rfl) (hpl : (backTo pos (starEach [] X.env)).any (·.1) = false := by rfl) :
    PMk X (.Call (.Name "BadPiece" p) [a] [] pos) (tMkBad C ta) := by
  intro pins s σ H Q I h
  refine wpAny_Call_Name_kw (ld_glob I hg T.gC ?_)
  refine PySem.W.callWith_K (h₀ := X.base) I.ok.mod.kin T.kC (thn (ha.run pos pins s σ H _ I h) fun us s1 hh => ?_) he hpl
  obtain ⟨vs, H1, I1, r1, v, ev, q1⟩ := hh
  subst ev
  refine ⟨I1.kIn, ?_⟩
  cases r1 with
  | cons rv rn =>
    rename_i v' us'
    cases rn
    show wpAny _ _ (call (.ref C) [v']) _ _ _
    have hlim := I1.nolimit
    obtain ⟨hp, g, dr, tk, os⟩ := s1
    refine wpAny_call (bad_made T I1.kIn hlim (I1.mod.glob.keeps I1.bk) (by obtain ⟨mb, h1, h2⟩ := I1.mod.blt; exact ⟨mb, h1.keeps I1.bk, h2⟩) (by have := hr.dp; omega) fun h' tk' e d M => ?_)
    show MkP X pins σ Q (.ref e) ⟨h', g, dr, tk', os⟩
    obtain ⟨oe, fv, hoe, hc, hd, hdat, h1⟩ := M.obj
    have hns := M.ns
    obtain ⟨G', g1, g2⟩ := restrict h' fun b => decide (b ≠ e)
    have gk : ∀ b, b ≠ e → G'.get? b = h'.get? b := fun b hb => g1 b (decide_eq_true hb)
    have ge : G'.get? e = none := g2 e (by simp)
    have old : ∀ b o, hp.get? b = some o → G'.get? b = some o := fun b o q => (gk b (Nat.ne_of_lt (Nat.lt_of_lt_of_le (Heap.lt_size q) M.new))).trans (M.keep b o q)
    have ob : ObjOk X.prog X.w (upd H1 d (.xd [(("reason" : Str), v)])) G' d (.xd [(("reason" : Str), v)]) :=
      ⟨_, hns.at (fun o q => (gk d M.dne).trans q), fun f => relO_bad rv f⟩
    have J : Inv X pins σ (upd H1 d (.xd [(("reason" : Str), v)])) ⟨G', g, dr, tk', os⟩ := I1.laid (t' := tk') old M.dbig ob
    refine ⟨e, oe, fv, ⟨G', g, dr, tk', os⟩, _, .ref C, some d, rfl, J, fun b o q => ?_, ge, hoe, ⟨hc, hd⟩, hdat, h1, ?_, rfl, I1.bare, raises_own T.exC T.tyC, q1 d (I1.hok.fresh M.dbig)⟩
    · by_cases hb : b = e
      · have q' : G'.get? b = some o := q
        rw [hb, ge] at q'; cases q'
      · exact (gk b hb).symm.trans q
    · rw [upd_ne (Ne.symm M.dne)]
      exact I1.hok.fresh M.new
/-- raise BadPiece(e) -/
def tRaiseBad (C : Addr) (W : WX) (ta : TA) : TS := fun _ σ H => tMkBad C ta σ H fun cls d H' => W cls d σ H'
theorem ps_raiseBad {a : Expr} {ta : TA} {W : WX} {p pos pos2 : Pos} {k : Nat} (hc : X.calm = true) (T : BadTxt X.prog X.K X.mg C fI) (hr : Room k X.A) (tk : Takes X W) (ha : PA X [a] ta) (hg : Gl X "BadPiece" := by rfl)
    (he : starEach (a :: []) X.env = (false, eval a X.env) :: starEach [] X.env := by rfl) (hpl : (backTo pos (starEach [] X.env)).any (·.1) = false := by rfl) :
    PS X (.Raise (some (.Call (.Name "BadPiece" p) [a] [] pos)) none pos2) (tRaiseBad C W ta) := ps_raise hc tk (pmk_bad T hr ha hg he hpl)
/-- e.reason, e the exception that the suite holds (at a; its class cls, its dict d) -/
def tReason (C : Addr) (a : Addr) (cls : Value) (d : Option Addr) (te : TE) : TE := fun σ H Q => te σ H fun x H1 => x = .ref a ∧ cls = .ref C ∧ ∃ (dd : Addr) (v : V), d = some dd ∧ H1 dd = some (.xd [(("reason" : Str), v)]) ∧ Q v H1
theorem pe_reason {a : Addr} {oe : Obj} {cls : Value} {d : Option Addr} {pn : List (Addr × Obj)} {e : Expr} {te : TE} {pos : Pos} (T : BadTxt X.prog X.K X.mg C fI) (hz : Zc cls d oe) (hf : ∃ vs, oe.data = .fields vs) (he : PE (X.suite a ((a, oe) :: pn)) e te)
    (hb : attributeBase e "reason" X.env (eval e X.env) = eval e X.env := by rfl) :
    PE (X.suite a ((a, oe) :: pn)) (.Attribute e "reason" pos) (tReason C a cls d te) := by
  refine ⟨fun pins s σ H Q I h => ?_⟩
  refine attr_of hb (thn (he.run pins s σ H _ I h) fun u s1 hh => ?_)
  obtain ⟨x, H1, I1, rx, ex, ec, dd, v, ed, ea, q⟩ := hh
  subst ex
  obtain rfl : u = Value.ref a := rx
  subst ec
  subst ed
  obtain ⟨ha, _⟩ := I1.pin (a, oe) (List.mem_append_left _ List.mem_cons_self)
  obtain ⟨vs, hd⟩ := hf
  have hx : ObjOk X.prog X.w H1 s1.heap dd (.xd [(("reason" : Str), v)]) := I1.hok dd _ ea
  obtain ⟨mA, hns, hr⟩ := hx
  obtain ⟨od, ho, hl⟩ := lookIn_ns hns
  have l : List.lookup ("reason" : Str) [(("reason" : Str), v)] = some v := by simp [List.lookup]
  obtain ⟨u, hu, ru⟩ := RelO.some_of (v := v) (o := mA "reason") (by rw [← l]; exact hr "reason")
  have J : PySem.W.InstAt s1.heap a oe C (some od) := ⟨ha, hz.1, by unfold PySem.W.notCls; rw [hd] <;> rfl, by rw [hz.2]; exact ho⟩
  exact HandSPX.exc_get I1.kIn J T.ga T.gg T.exC (PySem.W.findObj_own T.hdC T.noN rfl (by rw [hl, hu])) (handed_of ru) ⟨v, H1, I1.tok _, ru, q⟩
end
end Rk
end
section
set_option Elab.async false
set_option linter.all false
set_option maxRecDepth 100000
set_option maxHeartbeats 4000000
/-! The class Layout: what is written of it; defs and methods that may raise; the floor on the heap. -/
namespace Rk
open PySem PySem.Spec PyProof.Rows L2

/-! ### all but some addresses -/
def SmS (S : List Addr) (H H' : Hp) : Prop := ∀ a o, a ∉ S → H a = some o → H' a = some o
theorem SmS.of {S : List Addr} {H H' : Hp} (s : Same H H') : SmS S H H' := fun a o _ e => s a o e
theorem SmS.trans {S : List Addr} {H H1 H2 : Hp} (x : SmS S H H1) (y : SmS S H1 H2) : SmS S H H2 := fun a o n e => y a o n (x a o n e)
theorem SmS.mono {S S' : List Addr} {H H' : Hp} (x : SmS S H H') (h : ∀ a ∈ S, a ∈ S') : SmS S' H H' := fun a o n e => x a o (fun z => n (h a z)) e
theorem SmS.x {p : Addr} {H H' : Hp} (x : SameX p H H') : SmS [p] H H' := fun a o n e => x a o (fun z => n (List.mem_singleton.mpr z)) e
theorem SmS.upd {S : List Addr} {H H1 : Hp} {p : Addr} {o : HO} (x : SmS S H H1) (h : p ∈ S) : SmS S H (upd H1 p o) := fun a u n e => by
  rw [upd_ne (show a ≠ p from fun z => n (by rw [z]; exact h))]
  exact x a u n e
theorem SmS.new {S : List Addr} {H H1 : Hp} {p : Addr} {o : HO} (x : SmS S H H1) (h : H1 p = none) : SmS S H (L2.upd H1 p o) := x.trans (SmS.of (sm_upd h))
/-- at these stand no tuples -/
def NoTup (H : Hp) (S : List Addr) : Prop := ∀ a ∈ S, ∀ xs, H a ≠ some (.tup xs)
theorem SmS.tk {S : List Addr} {H H' : Hp} (x : SmS S H H') (h : NoTup H S) : Tk H H' := fun a xs e => x a _ (fun z => h a z xs e) e

/-! ### defs, methods -/
section
variable {P : Program} {w : World} {K : PySem.W.Frag} {mg : Str → Option Value} {base : Heap}
/-- a def that may raise -/
structure CalX (P : Program) (w : World) (K : PySem.W.Frag) (mg : Str → Option Value) (base : Heap) (k : Nat) (x : Str) (sp : Sp) : Prop where
  ex : ∃ (f : Addr) (fd : FuncData) (ps : List Str), FnOk P w K mg base (L2.CX P w) k f fd ps sp ∧ mg x = some (.ref f) ∧ PySem.W.keepIn K (.ref f) = true ∧ Binds K fd ps []
theorem Dn.calX {x : Str} {st : Stmt} {N ps : List Str} {k : Nat} {sp : Sp} (D : Dn K mg x st) (S : FnScope N ps (defScope st)) (len : ∀ vs H Q E, sp vs H Q E → vs.length = ps.length)
    (bi : ∀ (kV doc pm : Value) (an : Option Addr) (cdv ct : Value) (us : List Value), us.length = ps.length → bindArgs (PySem.W.fnOf x x (defArgs st) (defBody st) (defScope st) .none kV doc pm an cdv ct) ⟨us, []⟩ = pure (ps.zip us))
    (hb : ∀ (f : Addr) (cdv : Value) (A : Around) (outer : List Env) (s : Shared) (H : Hp) (vs : List V) (Q : VK) (E : XK), Room k (A.deeper (envOfC x (defScope st) s.heap.objs.size f cdv)) → sp vs H Q E →
      ∃ t, PSs (cxOf (L2.CX P w) P w K mg base N x (defScope st) f cdv A outer s H E) (defBody st) t ∧ t { nx := fun _ H' => Q .non H', rt := Q } (start N vs) H) : CalX P w K mg base (k + 1) x sp := by
  obtain ⟨f, fd, F, hm⟩ := D.ex
  exact ⟨f, fd, ps, FunD.ok F S len (hb f), hm, F.kp, F.bindsN bi⟩
/-- a method of the class at C -/
structure MDn (K : PySem.W.Frag) (C : Addr) (m qual : Str) (st : Stmt) : Prop where
  ex : ∃ f fd, FunD K m qual (defArgs st) (defBody st) (defScope st) [] [] f fd ∧ Meth K C m f
structure MCal (CX : CXT) (P : Program) (w : World) (K : PySem.W.Frag) (mg : Str → Option Value) (base : Heap) (k : Nat) (C : Addr) (m : Str) (sp : Sp) : Prop where
  ex : ∃ (f : Addr) (fd : FuncData) (ps : List Str), FnOk P w K mg base CX k f fd ps sp ∧ Meth K C m f ∧ Binds K fd ps []
theorem MDn.calX {C : Addr} {m qual : Str} {st : Stmt} {N ps : List Str} {k : Nat} {sp : Sp} (D : MDn K C m qual st) (S : FnScope N ps (defScope st)) (len : ∀ vs H Q E, sp vs H Q E → vs.length = ps.length)
    (bi : ∀ (kV doc pm : Value) (an : Option Addr) (cdv ct : Value) (us : List Value), us.length = ps.length → bindArgs (PySem.W.fnOf m qual (defArgs st) (defBody st) (defScope st) .none kV doc pm an cdv ct) ⟨us, []⟩ = pure (ps.zip us))
    (hb : ∀ (f : Addr) (cdv : Value) (A : Around) (outer : List Env) (s : Shared) (H : Hp) (vs : List V) (Q : VK) (E : XK), Room k (A.deeper (envOfC qual (defScope st) s.heap.objs.size f cdv)) → sp vs H Q E →
      ∃ t, PSs (cxOf (L2.CX P w) P w K mg base N qual (defScope st) f cdv A outer s H E) (defBody st) t ∧ t { nx := fun _ H' => Q .non H', rt := Q } (start N vs) H) : MCal (L2.CX P w) P w K mg base (k + 1) C m sp := by
  obtain ⟨f, fd, F, hm⟩ := D.ex
  exact ⟨f, fd, ps, FunD.ok F S len (hb f), hm, F.bindsN bi⟩
theorem MDn.cal {C : Addr} {m qual : Str} {st : Stmt} {N ps : List Str} {k : Nat} {sp : Sp} (D : MDn K C m qual st) (S : FnScope N ps (defScope st)) (len : ∀ vs H Q E, sp vs H Q E → vs.length = ps.length)
    (bi : ∀ (kV doc pm : Value) (an : Option Addr) (cdv ct : Value) (us : List Value), us.length = ps.length → bindArgs (PySem.W.fnOf m qual (defArgs st) (defBody st) (defScope st) .none kV doc pm an cdv ct) ⟨us, []⟩ = pure (ps.zip us))
    (hb : ∀ (f : Addr) (cdv : Value) (A : Around) (outer : List Env) (s : Shared) (H : Hp) (vs : List V) (Q : VK) (E : XK), Room k (A.deeper (envOfC qual (defScope st) s.heap.objs.size f cdv)) → sp vs H Q E →
      ∃ t, PSs (cxOf CX0 P w K mg base N qual (defScope st) f cdv A outer s H E).nox (defBody st) t ∧ t { nx := fun _ H' => Q .non H', rt := Q } (start N vs) H) : MCal CX0 P w K mg base (k + 1) C m sp := by
  obtain ⟨f, fd, F, hm⟩ := D.ex
  refine ⟨f, fd, ps, FunD.ok F S len fun cdv A outer s H vs Q E hr h => ?_, hm, F.bindsN bi⟩
  obtain ⟨t, h1, h2⟩ := hb f cdv A outer s H vs Q E hr h
  exact ⟨t, h1.nox, h2⟩
end
section
variable {X : Cx} {CX : CXT} {k j : Nat} {C : Addr} {x m : Str} {sp : Sp} {W : WX} {E : L2.St → XK} {p apos pos : Pos} {o e : Expr} {es : List Expr} {ta : TE} {t : TA}
theorem pe_cS (c : CalX X.prog X.w X.K X.mg X.base k x sp) (hr : Room j X.A) (hk : k ≤ j) (hg : Gl X x) (tk : Takes X W) (ha : PA X (e :: es) t)
    (hdb : (x == ("__debug__" : Str)) = false := by decide) (he : starEach (e :: es) X.env = (false, eval e X.env) :: starEach es X.env := by rfl) (hpl : (backTo pos (starEach es X.env)).any (·.1) = false := by rfl) :
    PE X (.Call (.Name x p) (e :: es) [] pos) (tCallS sp (WE W) t) := by
  obtain ⟨f, fd, ps, F, hm, kp, b⟩ := c.ex
  exact pe_callS F (hr.mono hk) hg hm kp b (fun σ => passAt tk σ) ha hdb he hpl
/-- o.m(..), what it lets out by the slots -/
def tMethS (C : Addr) (m : Str) (sp : Sp) (E : L2.St → XK) (ta : TE) (t : TA) : TE := fun σ H Q => ta σ H fun x H1 => ∃ a dx fs, x = .ref a ∧ H1 a = some (.ins C dx fs) ∧ fs.lookup m = none ∧ t σ H1 fun vs H2 => sp (x :: vs) H2 Q (E σ)
theorem pe_mS {pl : Sem Bool} (c : MCal CX X.prog X.w X.K X.mg X.base k C m sp) (hr : Room j X.A) (hk : k ≤ j) (cl : Cls X.K C) (hx : ∀ σ, PassesAt CX X σ (E σ)) (he : PE X o ta) (ha : PA X (e :: es) t)
    (hst : starEach (e :: es) X.env = (false, eval e X.env) :: starEach es X.env := by rfl) (hpl : (backTo pos (starEach es X.env)).any (·.1) = false := by rfl)
    (ht : eval (.Call (.Attribute o m apos) (e :: es) [] pos) X.env = (do
      let ov ← eval o X.env
      standAt apos.atName
      let (f, first) ← holding [ov] (getMethod ov m pl)
      callWith pos f first (backTo pos (starEach (e :: es) X.env)) (backToKw pos (keywordEach [] X.env))) := by rfl) :
    PE X (.Call (.Attribute o m apos) (e :: es) [] pos) (tMethS C m sp E ta t) := by
  obtain ⟨f, fd, ps, F, hm, b⟩ := c.ex
  refine ⟨fun pins s σ H Q I h => ?_⟩
  refine PySem.W.methodCall_KW (pl := pl) (thn (he.run pins s σ H _ I h) fun u s1 hh => ?_) ht
  obtain ⟨x, H1, I1, rx, a, dx, fs, ex, ea, l, q⟩ := hh
  subst ex
  obtain rfl : u = Value.ref a := rx
  refine getmeth_ok I1 ea cl hm l ?_
  refine PySem.W.callWith_K (first := [.ref a]) (h₀ := X.base) I.ok.mod.kin hm.kp (thn (ha.run pos pins s1 σ H1 _ I1 q) fun us s2 hh2 => ?_) hst hpl
  obtain ⟨vs, H2, I2, r, q2⟩ := hh2
  exact ⟨I2.kIn, run_fnS (us := .ref a :: us) (vs := .ref a :: vs) F (hr.mono hk) b (hx σ) I2 (.cons rfl r) q2⟩
theorem pe_mS0 {pl : Sem Bool} (c : MCal CX X.prog X.w X.K X.mg X.base k C m sp) (hr : Room j X.A) (hk : k ≤ j) (cl : Cls X.K C) (hx : ∀ σ, PassesAt CX X σ (E σ)) (he : PE X o ta)
    (ht : eval (.Call (.Attribute o m apos) [] [] pos) X.env = (do
      let ov ← eval o X.env
      standAt apos.atName
      let (f, first) ← holding [ov] (getMethod ov m pl)
      callWith pos f first (backTo pos (starEach [] X.env)) (backToKw pos (keywordEach [] X.env))) := by rfl) :
    PE X (.Call (.Attribute o m apos) [] [] pos) (tMethS C m sp E ta tNil) := by
  obtain ⟨f, fd, ps, F, hm, b⟩ := c.ex
  refine ⟨fun pins s σ H Q I h => ?_⟩
  refine PySem.W.methodCall_KW (pl := pl) (thn (he.run pins s σ H _ I h) fun u s1 hh => ?_) ht
  obtain ⟨x, H1, I1, rx, a, dx, fs, ex, ea, l, q⟩ := hh
  subst ex
  obtain rfl : u = Value.ref a := rx
  refine getmeth_ok I1 ea cl hm l ?_
  exact PySem.W.callWith_K0 (first := [.ref a]) I1.kIn hm.kp (run_fnS (us := [.ref a]) (vs := [.ref a]) F (hr.mono hk) b (hx σ) I1 (.cons rfl .nil) q)
theorem pass0S : ∀ σ, PassesAt CX0 X σ (E σ) := fun _ _ _ _ _ _ _ h => h.elim
end

/-! ### tuples and slices, whichever way -/
theorem cat_any {K : PySem.W.Frag} {H : Hp} {a b : Addr} {xs ys : List V} {Q : VK} (ha : H a = some (.tup xs)) (hb : H b = some (.tup ys)) (hz : xs.length + ys.length ≤ 16777216)
    (q : ∀ H' r, Same H H' → H' r = some (.tup (xs ++ ys)) → Q (.ref r) H') : rCatA K (.ref a) (.ref b) H Q := by
  refine ⟨a, b, xs, ys, rfl, rfl, sqt_of ha, sqt_of hb, small24 hz, fun e => ?_, fun _ e => ?_, fun _ _ p hp => q _ p (sm_upd hp) upd_same⟩
  · subst e
    exact q H b (Same.refl _) hb
  · subst e
    exact q H a (Same.refl _) (by rw [List.append_nil]; exact ha)
theorem sl_any {K : PySem.W.Frag} {H : Hp} {a : Addr} {xs : List V} {lo hi : Option Int} {Q : VK} (ha : H a = some (.tup xs)) (q : ∀ H' r, Same H H' → H' r = some (.tup (cutV xs lo hi)) → Q (.ref r) H') : rSlA K (.ref a) lo hi H Q := by
  refine ⟨a, xs, rfl, sqt_of ha, fun e => q H a (Same.refl _) ?_, fun _ p hp => q _ p (sm_upd hp) upd_same⟩
  have e2 : cutV xs lo hi = xs := by
    unfold cutV
    rw [e.1, e.2, List.drop_zero, Nat.sub_zero, List.take_length]
  rw [e2]
  exact ha

/-! ### the floor -/
structure Flr where
  fl : Addr
  dx : Addr
  pl : Addr
abbrev flF (pa pl : Addr) : List (Str × V) := [("pieces", .ref pa), ("past", .ref pl)]
def FlH (C : Addr) (F : Flr) (H : Hp) (y : Lay) (past : List Lay) : Prop := ∃ pa pr, H F.fl = some (.ins C F.dx (flF pa F.pl)) ∧ LayT H pa y ∧ H F.pl = some (.lst pr) ∧ Paired (fun v z => ∃ a, v = V.ref a ∧ LayT H a z) pr past
def Flr.S (F : Flr) : List Addr := [F.fl, F.pl]
theorem FlH.nt {C : Addr} {F : Flr} {H : Hp} {y : Lay} {past : List Lay} (h : FlH C F H y past) : NoTup H F.S := by
  obtain ⟨pa, pr, h1, h2, h3, h4⟩ := h
  intro a ha xs e
  rcases List.mem_cons.mp ha with z | z
  · rw [z, h1] at e
    cases e
  · rw [List.mem_singleton.mp z, h3] at e
    cases e
/-- it stands while others are written -/
theorem FlH.sms {C : Addr} {F : Flr} {S : List Addr} {H H' : Hp} {y : Lay} {past : List Lay} (h : FlH C F H y past) (s : SmS S H H') (nt : NoTup H S) (n1 : F.fl ∉ S) (n2 : F.pl ∉ S) : FlH C F H' y past := by
  obtain ⟨pa, pr, h1, h2, h3, h4⟩ := h
  exact ⟨pa, pr, s _ _ n1 h1, h2.tk (s.tk nt), s _ _ n2 h3, Paired.mapP h4 fun v z g => by
    obtain ⟨a, e, g⟩ := g
    exact ⟨a, e, g.tk (s.tk nt)⟩⟩
theorem FlH.sm {C : Addr} {F : Flr} {H H' : Hp} {y : Lay} {past : List Lay} (h : FlH C F H y past) (s : Same H H') : FlH C F H' y past :=
  h.sms (S := []) (SmS.of s) (fun a z => nomatch z) (fun z => nomatch z) (fun z => nomatch z)
/-- the class as written -/
structure FlCls (K : PySem.W.Frag) (C : Addr) : Prop where
  cls : Cls K C
  nP : NoAttr K C "pieces"
  nQ : NoAttr K C "past"
/-- a refusal: an error of the class at B with the reason r; what stood stands -/
def Ref (B : Addr) (r : Str) (H : Hp) (E : XK) : Prop := ∀ H' d, Same H H' → H' d = some (.xd [(("reason" : Str), .str r)]) → E (.ref B) (some d) H'
theorem Ref.sm {B : Addr} {r : Str} {H H1 : Hp} {E : XK} (h : Ref B r H E) (s : Same H H1) : Ref B r H1 E := fun H' d s' e => h H' d (s.trans s') e
end Rk
end
section
set_option Elab.async false
set_option linter.all false
set_option maxRecDepth 100000
set_option maxHeartbeats 4000000
/-! layouts.py: check, Layout.__init__, put. -/
namespace Rk
open PySem PySem.Spec PyProof.Rows L2
section
variable {P : Program} {w : World} {K : PySem.W.Frag} {mg : Str → Option Value} {base : Heap} {C B fI : Addr}
def spChk (B : Addr) : Sp := fun vs H Q E => ∃ (h : Bool) (r : Str), vs = [.bl h, .str r] ∧ (h = true → Q .non H) ∧ (h = false → Ref B r H E)
theorem sc_chk : FnScope ["holds", "reason"] ["holds", "reason"] (defScope s_check) := ⟨rfl, rfl, rfl, by decide +kernel, rfl, by decide +kernel, by decide +kernel⟩
theorem c_chk (D : Dn K mg "check" s_check) (T : BadTxt P K mg B fI) : CalX P w K mg base 1 "check" (spChk B) := by
  refine D.calX sc_chk (fun vs H Q E h => ?_) (fun _ _ _ _ _ _ us hl => match us, hl with | [_, _], _ => rfl) (fun f cdv A outer s H vs Q E hr h => ?_)
  · obtain ⟨h, r, rfl, _⟩ := h
    rfl
  · obtain ⟨h, r, rfl, q1, q2⟩ := h
    have tk : Takes (cxOf (L2.CX P w) P w K mg base ["holds", "reason"] "check" (defScope s_check) f cdv A outer s H E) (fun cls d _ H => E cls d H) := takes_of rfl rfl rfl rfl
    refine ⟨_, pss_one (ps_if (pt_not (pt_truth (pv 0) (fun _ => rfl))) (pss_one (ps_raiseBad rfl T hr tk (pa_cons (pv 1) pa_nil))) pss_nil), ?_⟩
    refine ⟨_, rfl, h, rfl, ?_⟩
    cases h with
    | true => exact q1 rfl
    | false => exact ⟨_, rfl, _, rfl, fun d hd => q2 rfl _ d (sm_upd hd) upd_same⟩
def spInit (C : Addr) : Sp := fun vs H Q _ => ∃ (fl dx : Addr), vs = [.ref fl] ∧ H fl = some (.ins C dx []) ∧ H dx = some (.own fl) ∧ ∀ H' F, F.fl = fl → F.pl ≠ fl → H F.pl = none → SmS [fl] H H' → FlH C F H' [] [] → Q .non H'
theorem sc_init : FnScope ["self"] ["self"] (defScope m_init) := ⟨rfl, rfl, rfl, by decide +kernel, rfl, by decide +kernel, by decide +kernel⟩
theorem c_init (D : MDn K C "__init__" "Layout.__init__" m_init) (cl : FlCls K C) : MCal CX0 P w K mg base 1 C "__init__" (spInit C) := by
  refine D.cal sc_init (fun vs H Q E h => ?_) (fun _ _ _ _ _ _ us hl => match us, hl with | [_], _ => rfl) (fun f cdv A outer s H vs Q E hr h => ?_)
  · obtain ⟨fl, dx, rfl, _⟩ := h
    rfl
  · obtain ⟨fl, dx, rfl, h1, h2, q⟩ := h
    refine ⟨_, pss_cons (ps_fld (pv 0) (pe_tup pa_nil) rfl) (pss_one (ps_fld (pv 0) (pe_lst pa_nil) rfl)), ?_⟩
    refine ⟨Nat.zero_le _, fun pa hpa => ?_⟩
    have s1 := sm_upd (o := .tup []) hpa
    refine ⟨_, rfl, fl, C, dx, [], rfl, s1 _ _ h1, cl.cls, cl.nP, by decide, ?_⟩
    refine ⟨Nat.zero_le _, fun pl hpl => ?_⟩
    have npf : pl ≠ fl := fun z => by
      rw [z, upd_same] at hpl
      cases hpl
    refine ⟨_, rfl, fl, C, dx, _, rfl, (upd_ne (Ne.symm npf)).trans upd_same, cl.cls, cl.nQ, (by show 1 < 1000; decide), ?_⟩
    have npa : pa ≠ fl := fun z => by
      rw [z, h1] at hpa
      cases hpa
    have npl : pa ≠ pl := fun z => by
      rw [← z, upd_ne npa, upd_same] at hpl
      cases hpl
    have hplH : H pl = none := by
      cases e : H pl with
      | none => rfl
      | some o =>
        rw [upd_ne npf, s1 _ _ e] at hpl
        cases hpl
    refine q _ ⟨fl, dx, pl⟩ rfl npf hplH ?_ ⟨pa, [], upd_same, ⟨[], (upd_ne npa).trans ((upd_ne npl).trans ((upd_ne npa).trans upd_same)), .nil⟩, (upd_ne npf).trans upd_same, .nil⟩
    have x1 : SmS [fl] H _ := (SmS.of s1).upd (o := .ins C dx (putF "pieces" (.ref pa) [])) (List.mem_singleton.mpr rfl)
    exact (x1.new hpl).upd (List.mem_singleton.mpr rfl)
def spPut (C B : Addr) : Sp := fun vs H Q E => ∃ (F : Flr) (b : Addr) (bs : List V) (y zs : Lay) (past : List Lay), vs = [.ref F.fl, .ref b] ∧ FlH C F H y past ∧ H b = some (.lst bs) ∧ PcsH H bs zs ∧ y.length + zs.length ≤ 1000 ∧ past.length ≤ 1000 ∧
  (24 < (y ++ zs).length → Ref B "too many pieces" H E) ∧ (¬ 24 < (y ++ zs).length → ¬ (poses (y ++ zs)).Nodup → Ref B "ends overlap" H E) ∧
  (¬ 24 < (y ++ zs).length → (poses (y ++ zs)).Nodup → ∀ H', SmS F.S H H' → FlH C F H' (y ++ zs) (past ++ [y]) → Q .non H')
theorem sc_put : FnScope ["self", "pieces", "behind"] ["self", "pieces"] (defScope m_put) := ⟨rfl, rfl, rfl, by decide +kernel, rfl, by decide +kernel, by decide +kernel⟩
theorem c_put (D : MDn K C "put" "Layout.put" m_put) (cl : FlCls K C) (mt : mg "tuple" = none) (ml : mg "len" = none) (nm : IntG mg "NUMBERS_MOST" 24) (cc : CalX P w K mg base 1 "check" (spChk B)) (co : Cal P w K mg base 6 "has_overlap" spOver) : MCal (L2.CX P w) P w K mg base 7 C "put" (spPut C B) := by
  refine D.calX sc_put (fun vs H Q E h => ?_) (fun _ _ _ _ _ _ us hl => match us, hl with | [_, _], _ => rfl) (fun f cdv A outer s H vs Q E hr h => ?_)
  · obtain ⟨F, b, bs, y, zs, past, rfl, _⟩ := h
    rfl
  · obtain ⟨F, b, bs, y, zs, past, rfl, hF, hb, hbs, hlen, hpast, r1, r2, q⟩ := h
    have nd := sc_put.nd
    have tk : Takes (cxOf (L2.CX P w) P w K mg base ["self", "pieces", "behind"] "Layout.put" (defScope m_put) f cdv A outer s H E) (fun cls d _ H => E cls d H) := takes_of rfl rfl rfl rfl
    refine ⟨_, pss_cons (ps_set (i := 2) nd rfl (.inl rfl) (pe_op op_catA (pe_fld (pv 0) rfl) (pe_callTy call_tuple_of (by rfl) mt boot_tuple (pa_cons (pv 1) pa_nil))))
      (pss_cons (ps_expr (pe_cS cc hr (by decide) rfl tk (pa_cons (pe_cmpR op_le (pe_callB call_len_seq (by rfl) ml PySem.boot_len (pa_cons (pv 2) pa_nil)) (pe_gv rfl nm) (nomark _)) (pa_cons pe_str pa_nil))))
      (pss_cons (ps_expr (pe_cS cc hr (by decide) rfl tk (pa_cons (pe_not (pe_c co hr (by decide) rfl (pa_cons (pv 2) pa_nil))) (pa_cons pe_str pa_nil))))
      (pss_cons (ps_expr (pe_bm PySem.F.plainAttrs_list PySem.F.slot_list_append PySem.F.type_list_append mt_append (pe_fld (pv 0) rfl) (pa_cons (pe_fld (pv 0) rfl) pa_nil)))
      (pss_one (ps_fld (pv 0) (pv 2) rfl))))), ?_⟩
    obtain ⟨pa, pr, hf, ⟨xs, hx1, hx2⟩, hpl, hpr⟩ := hF
    have hF : FlH C F H y past := ⟨pa, pr, hf, ⟨xs, hx1, hx2⟩, hpl, hpr⟩
    have lx := pr_len hx2
    have lb := pr_len hbs
    refine ⟨_, rfl, F.fl, C, F.dx, _, .ref pa, rfl, hf, cl.cls, cl.nP, rfl, _, rfl, b, bs, rfl, .inl ⟨SqL.of hb, fun t ht => ?_⟩⟩
    have s1 := sm_upd (o := .tup bs) ht
    refine cat_any (s1 _ _ hx1) upd_same (by omega) fun H2 r s2 hr2 => ?_
    have s12 := s1.trans s2
    have hy2 : LayT H2 r (y ++ zs) := ⟨xs ++ bs, hr2, pr_app (hx2.tk (sm_tk s12)) (hbs.tk (sm_tk s12))⟩
    have hlb : (y ++ zs).length = (xs ++ bs).length := by rw [List.length_append, List.length_append, lx, lb]
    -- not too many
    refine ⟨_, rfl, _, _, rfl, .inr (sqt_of hr2), _, 24, rfl, rfl, ?_⟩
    refine ⟨_, _, rfl, fun e1 => ?_, fun e1 => ?_⟩
    · have c1 : ¬ 24 < (y ++ zs).length := by
        have z := of_decide_eq_true e1
        omega
      have hl1 : (y ++ zs).length ≤ 1000 := by omega
      refine ⟨_, rfl, r, y ++ zs, rfl, hy2, hl1, fun H3 s3 => ⟨_, rfl, ?_⟩⟩
      refine ⟨_, _, rfl, fun e2 => ?_, fun e2 => ?_⟩
      · have c2 : (poses (y ++ zs)).Nodup := by
          rw [Bool.not_not] at e2
          exact of_decide_eq_true e2
        have s13 := s12.trans s3
        have hf3 := s13 _ _ hf
        have hpl3 := s13 _ _ hpl
        have hyT : LayT H3 r (y ++ zs) := hy2.tk (sm_tk s3)
        refine ⟨_, rfl, F.fl, C, F.dx, _, .ref F.pl, rfl, hf3, cl.cls, cl.nQ, rfl, .inl ⟨rfl, _, SqL.of hpl3⟩, _, rfl, F.fl, C, F.dx, _, .ref pa, rfl, hf3, cl.cls, cl.nP, rfl, F.pl, pr, _, rfl, rfl, hpl3, ?_, ?_⟩
        · rw [pr_len hpr]
          exact lt24 (by omega)
        · have nfp : F.fl ≠ F.pl := fun z => by
            rw [z, hpl3] at hf3
            cases hf3
          refine ⟨_, rfl, _, rfl, F.fl, C, F.dx, _, rfl, (upd_ne nfp).trans hf3, cl.cls, cl.nP, (by show 2 < 1000; decide), ?_⟩
          have x1 : SmS F.S H H3 := SmS.of s13
          have x2 : SmS F.S H _ := (x1.upd (p := F.pl) (o := .lst (pr ++ [.ref pa])) (List.mem_cons_of_mem _ (List.mem_singleton.mpr rfl))).upd (p := F.fl) (o := .ins C F.dx (putF "pieces" (.ref r) (flF pa F.pl))) List.mem_cons_self
          have nt := hF.nt
          have tk2 := x2.tk nt
          have x3 : SmS F.S H3 _ := ((SmS.of (Same.refl H3)).upd (S := F.S) (p := F.pl) (o := .lst (pr ++ [.ref pa])) (List.mem_cons_of_mem _ (List.mem_singleton.mpr rfl))).upd (p := F.fl) (o := .ins C F.dx (putF "pieces" (.ref r) (flF pa F.pl))) List.mem_cons_self
          have tk3 := x3.tk (hF.sm s13).nt
          refine q c1 c2 _ x2 ⟨r, pr ++ [.ref pa], upd_same, hyT.tk tk3, (upd_ne (Ne.symm nfp)).trans upd_same, pr_snoc (Paired.mapP hpr fun v z g => ?_) ⟨pa, rfl, LayT.tk tk2 ⟨xs, hx1, hx2⟩⟩⟩
          obtain ⟨a, e, g⟩ := g
          exact ⟨a, e, g.tk tk2⟩
      · have c2 : ¬ (poses (y ++ zs)).Nodup := by
          rw [Bool.not_not] at e2
          exact of_decide_eq_false e2
        exact (r2 c1 c2).sm (s12.trans s3)
    · have c1 : 24 < (y ++ zs).length := by
        have z := of_decide_eq_false e1
        omega
      exact (r1 c1).sm s12
end
end Rk
end
section
set_option Elab.async false
set_option linter.all false
set_option maxRecDepth 100000
set_option maxHeartbeats 4000000
/-! layouts.py: place, lay, check_piece, remove, undo. -/
namespace Rk
open PySem PySem.Spec PyProof.Rows L2

/-! ### plain: a row laid -/
def pth (p : Po) (ls : List Lt) : Po := ls.foldl stp p
def plc : Po → List Lt → List Pc
  | _, [] => []
  | p, l :: r => pcOf p l :: plc (stp p l) r
theorem pth_snoc (p : Po) (ls : List Lt) (l : Lt) : pth p (ls ++ [l]) = stp (pth p ls) l := by
  unfold pth
  rw [List.foldl_append]
  rfl
theorem plc_snoc : ∀ (ls : List Lt) (p : Po) (l : Lt), plc p (ls ++ [l]) = plc p ls ++ [pcOf (pth p ls) l]
  | [], p, l => rfl
  | a :: r, p, l => by
    show pcOf p a :: plc (stp p a) (r ++ [l]) = _
    rw [plc_snoc r]
    rfl
theorem plc_len : ∀ (ls : List Lt) (p : Po), (plc p ls).length = ls.length
  | [], _ => rfl
  | a :: r, p => by
    show (plc (stp p a) r).length + 1 = r.length + 1
    rw [plc_len r]
theorem rgV_nat (n m : Nat) : rgV (n : Int) ((n + m : Nat) : Int) = ((List.range' n m).map Int.ofNat).map V.int := by
  unfold rgV
  rw [show ((n + m : Nat) - n : Int).toNat = m by omega, List.range'_eq_map_range, List.map_map, List.map_map]
  refine List.map_congr_left fun i _ => ?_
  show V.int _ = V.int _
  congr 1
theorem cut_set {xs : List V} {n : Nat} {v : V} (h : n < xs.length) : (cutV xs none (some (n : Int)) ++ [v]) ++ cutV xs (some ((n : Int) + 1)) none = xs.set n v := by
  have e1 : cutV xs none (some (n : Int)) = xs.take n := by
    unfold cutV
    rw [show HT.sIx xs.length 0 none = 0 from rfl, HT.sIx_nat, List.drop_zero, Nat.sub_zero, Nat.min_eq_left (Nat.le_of_lt h)]
  have e2 : cutV xs (some ((n : Int) + 1)) none = xs.drop (n + 1) := by
    unfold cutV
    rw [show ((n : Int) + 1) = ((n + 1 : Nat) : Int) from rfl, HT.sIx_nat, show HT.sIx xs.length xs.length none = xs.length from rfl, Nat.min_eq_left (by omega)]
    exact List.take_of_length_le (by rw [List.length_drop]; exact Nat.le_refl _)
  rw [e1, e2, List.set_eq_take_append_cons_drop, if_pos h, List.append_assoc]
  rfl
theorem pr_set {α β : Type} {F : α → β → Prop} : ∀ {xs : List α} {ys : List β} {n : Nat} {x : α} {y : β}, Paired F xs ys → F x y → Paired F (xs.set n x) (ys.set n y)
  | _, _, _, _, _, .nil, _ => .nil
  | _, _, 0, _, _, .cons _ t, h => .cons h t
  | _, _, n + 1, _, _, .cons r t, h => .cons r (pr_set (n := n) t h)
theorem pr_pop {α β : Type} {F : α → β → Prop} : ∀ {ys : List β} {xs : List α} {y : β}, Paired F xs (ys ++ [y]) → ∃ x, xs[xs.length - 1]? = some x ∧ F x y ∧ Paired F xs.dropLast ys
  | [], _, _, .cons h .nil => ⟨_, rfl, h, .nil⟩
  | b :: r, _, y, .cons h t => by
    obtain ⟨x, h1, h2, h3⟩ := pr_pop t
    rename_i xs
    cases xs with
    | nil => simp at h1
    | cons z l =>
      refine ⟨x, ?_, h2, .cons h h3⟩
      simpa using h1
section
variable {P : Program} {w : World} {K : PySem.W.Frag} {mg : Str → Option Value} {base : Heap} {C B fI : Addr}
/-- what comes of putting zs behind y -/
structure PutOk (C B : Addr) (F : Flr) (y : Lay) (past : List Lay) (zs : Lay) (H : Hp) (E : XK) (Q : Hp → Prop) : Prop where
  many : 24 < (y ++ zs).length → Ref B "too many pieces" H E
  over : ¬ 24 < (y ++ zs).length → ¬ (poses (y ++ zs)).Nodup → Ref B "ends overlap" H E
  fine : ¬ 24 < (y ++ zs).length → (poses (y ++ zs)).Nodup → ∀ H', SmS F.S H H' → FlH C F H' (y ++ zs) (past ++ [y]) → Q H'
theorem PutOk.sm {F : Flr} {y zs : Lay} {past : List Lay} {H H1 : Hp} {E : XK} {Q : Hp → Prop} (h : PutOk C B F y past zs H E Q) (s : Same H H1) : PutOk C B F y past zs H1 E Q :=
  ⟨fun a => (h.many a).sm s, fun a b => (h.over a b).sm s, fun a b H' x => h.fine a b H' ((SmS.of s).trans x)⟩
theorem FlH.ln {F : Flr} {H : Hp} {y : Lay} {past : List Lay} {Q : Nat → Prop} (h : FlH C F H y past) : ∃ pa xs, H F.fl = some (.ins C F.dx (flF pa F.pl)) ∧ H pa = some (.tup xs) ∧ xs.length = y.length ∧ PcsH H xs y := by
  obtain ⟨pa, pr, h1, ⟨xs, h2, h3⟩, _⟩ := h
  exact ⟨pa, xs, h1, h2, pr_len h3, h3⟩
def spPlace (C B : Addr) : Sp := fun vs H Q E => ∃ (F : Flr) (k : Kd) (a : Addr) (p : Po) (y : Lay) (past : List Lay), vs = [.ref F.fl, .str k.str, .ref a] ∧ FlH C F H y past ∧ H a = some (.tup p.vs) ∧ y.length ≤ 900 ∧ past.length ≤ 1000 ∧
  PutOk C B F y past [some (k, p)] H E (Q (.int (y.length : Nat)))
theorem sc_place : FnScope ["self", "kind", "pose"] ["self", "kind", "pose"] (defScope m_place) := ⟨rfl, rfl, rfl, by decide +kernel, rfl, by decide +kernel, by decide +kernel⟩
theorem c_place (D : MDn K C "place" "Layout.place" m_place) (cl : FlCls K C) (ml : mg "len" = none) (cp : MCal (L2.CX P w) P w K mg base 7 C "put" (spPut C B)) : MCal (L2.CX P w) P w K mg base 8 C "place" (spPlace C B) := by
  refine D.calX sc_place (fun vs H Q E h => ?_) (fun _ _ _ _ _ _ us hl => match us, hl with | [_, _, _], _ => rfl) (fun f cdv A outer s H vs Q E hr h => ?_)
  · obtain ⟨F, k, a, p, y, past, rfl, _⟩ := h
    rfl
  · obtain ⟨F, k, a, p, y, past, rfl, hF, ha, hy, hp, q⟩ := h
    have tk : Takes (cxOf (L2.CX P w) P w K mg base ["self", "kind", "pose"] "Layout.place" (defScope m_place) f cdv A outer s H E) (fun cls d _ H => E cls d H) := takes_of rfl rfl rfl rfl
    refine ⟨_, pss_cons (ps_expr (pe_mS cp hr (by decide) cl.cls (fun σ => passAt tk σ) (pv 0) (pa_cons (pe_lst (pa_cons (pe_tup (pa_cons (pv 1) (pa_cons (pv 2) pa_nil))) pa_nil)) pa_nil)))
      (pss_one (ps_ret (pe_op op_sub (pe_callB call_len_seq (by rfl) ml PySem.boot_len (pa_cons (pe_fld (pv 0) rfl) pa_nil)) pe_int))), ?_⟩
    obtain ⟨pa, pr, hf, _⟩ := id hF
    refine ⟨_, rfl, F.fl, F.dx, _, rfl, hf, rfl, _, rfl, _, rfl, (by show 2 ≤ sizeLine; decide), fun t nt => ⟨by show 1 ≤ sizeLine; decide, fun l nl => ?_⟩⟩
    have s1 := sm_upd (o := .tup [.str k.str, .ref a]) nt
    have s2 := sm_upd (o := .lst [.ref t]) nl
    have s12 := s1.trans s2
    have q2 := q.sm s12
    refine ⟨F, l, [.ref t], y, [some (k, p)], past, rfl, hF.sm s12, upd_same, .cons ⟨t, a, rfl, s2 _ _ upd_same, s12 _ _ ha⟩ .nil, (by show y.length + 1 ≤ 1000; omega), hp, q2.many, q2.over, fun c1 c2 H' x hF' => ?_⟩
    obtain ⟨pa', xs', g1, g2, g3, _⟩ := hF'.ln (Q := fun _ => True)
    refine ⟨_, rfl, F.fl, C, F.dx, _, .ref pa', rfl, g1, cl.cls, cl.nP, rfl, pa', xs', rfl, .inr (sqt_of g2), _, 1, rfl, rfl, ?_⟩
    have e : (xs'.length : Int) - 1 = (y.length : Int) := by
      rw [g3, List.length_append]
      show ((y.length + 1 : Nat) : Int) - 1 = _
      omega
    show Q (.int ((xs'.length : Int) - 1)) H'
    rw [e]
    exact q2.fine c1 c2 H' x hF'
def spLay (C B : Addr) : Sp := fun vs H Q E => ∃ (F : Flr) (a : Addr) (p : Po) (ls : List Lt) (y : Lay) (past : List Lay), vs = [.ref F.fl, .ref a, .str (rowS ls)] ∧ FlH C F H y past ∧ H a = some (.tup p.vs) ∧ y.length ≤ 900 ∧ past.length ≤ 1000 ∧ ls.length ≤ 100 ∧
  PutOk C B F y past ((plc p ls).map some) H E fun H' => ∀ t, H' t = none → Q (.ref t) (upd H' t (.tup (((List.range' y.length ls.length).map Int.ofNat).map V.int)))
theorem sc_lay : FnScope ["self", "pose", "row", "begun", "pieces", "letter"] ["self", "pose", "row"] (defScope m_lay) := ⟨rfl, rfl, rfl, by decide +kernel, rfl, by decide +kernel, by decide +kernel⟩
theorem c_lay (D : MDn K C "lay" "Layout.lay" m_lay) (cl : FlCls K C) (ml : mg "len" = none) (mt : mg "tuple" = none) (mr : mg "range" = none) (cp : MCal (L2.CX P w) P w K mg base 7 C "put" (spPut C B)) (cq : Cal P w K mg base 5 "laid_piece" spLP) (cd : Cal P w K mg base 4 "lead" (spLead K)) : MCal (L2.CX P w) P w K mg base 8 C "lay" (spLay C B) := by
  refine D.calX sc_lay (fun vs H Q E h => ?_) (fun _ _ _ _ _ _ us hl => match us, hl with | [_, _, _], _ => rfl) (fun f cdv A outer s H vs Q E hr h => ?_)
  · obtain ⟨F, a, p, ls, y, past, rfl, _⟩ := h
    rfl
  · obtain ⟨F, a, p, ls, y, past, rfl, hF, ha, hy, hp, hls, q⟩ := h
    have nd := sc_lay.nd
    have tk : Takes (cxOf (L2.CX P w) P w K mg base ["self", "pose", "row", "begun", "pieces", "letter"] "Layout.lay" (defScope m_lay) f cdv A outer s H E) (fun cls d _ H => E cls d H) := takes_of rfl rfl rfl rfl
    refine ⟨_, pss_cons (ps_set (i := 3) nd rfl (.inl rfl) (pe_callB call_len_seq (by rfl) ml PySem.boot_len (pa_cons (pe_fld (pv 0) rfl) pa_nil)))
      (pss_cons (ps_set (i := 4) nd rfl (.inl rfl) (pe_lst pa_nil))
      (pss_cons (ps_for (passes_of rfl) rfl (pi_str (pv 2)) (pg_name (i := 5) nd rfl (.inl rfl))
        (pss_cons (ps_expr (pe_bm PySem.F.plainAttrs_list PySem.F.slot_list_append PySem.F.type_list_append mt_append (pv 4) (pa_cons (pe_c cq hr (by decide) rfl (pa_cons (pv 1) (pa_cons (pv 5) pa_nil))) pa_nil)))
        (pss_one (ps_set (i := 1) nd rfl (.inl rfl) (pe_c cd hr (by decide) rfl (pa_cons (pv 1) (pa_cons (pv 5) pa_nil)))))))
      (pss_cons (ps_expr (pe_mS cp hr (by decide) cl.cls (fun σ => passAt tk σ) (pv 0) (pa_cons (pv 4) pa_nil)))
      (pss_one (ps_ret (pe_tupRg (by rfl) (by rfl) mt (prg_2 (by rfl) mr (pv 3) (pe_callB call_len_seq (by rfl) ml PySem.boot_len (pa_cons (pe_fld (pv 0) rfl) pa_nil))))))))), ?_⟩
    obtain ⟨pa, xs, hf, hpa, hxl, _⟩ := hF.ln (Q := fun _ => True)
    refine ⟨_, rfl, F.fl, C, F.dx, _, .ref pa, rfl, hf, cl.cls, cl.nP, rfl, pa, xs, rfl, .inr (sqt_of hpa), ?_⟩
    refine ⟨Nat.zero_le _, fun l hl => ?_⟩
    refine ⟨_, rfl, rowS ls, rfl, ?_⟩
    refine for_it (walk_str (z := rowS ls)) (fun i σ H' => Same H H' ∧ ∃ (g : Addr) (c5 : Option V) (acc : List V), σ = [some (.ref F.fl), some (.ref g), some (.str (rowS ls)), some (.int xs.length), some (.ref l), c5] ∧ H' g = some (.tup (pth p (ls.take i)).vs) ∧ H' l = some (.lst acc) ∧ PcsH H' acc ((plc p (ls.take i)).map some))
      ⟨sm_upd hl, a, none, [], rfl, sm_upd hl _ _ ha, upd_same, .nil⟩ (fun _ _ _ _ _ => trivial) ?_ ?_
    · rintro i v σ H1 H2 hi ⟨s1, g, c5, acc, rfl, hg, eL, hacc⟩ ⟨rfl, c, hc, rfl⟩
      obtain ⟨lt, glt, rfl⟩ := rowS_at hc
      have hal : acc.length ≤ 100 := by
        rw [pr_len hacc, List.length_map, plc_len, List.length_take]
        omega
      refine ⟨_, rfl, .inl ⟨rfl, _, SqL.of eL⟩, _, rfl, _, rfl, g, pth p (ls.take i), lt, rfl, hg, fun H3 t s3 n3 h3 => ?_⟩
      have eL3 := s3 _ _ eL
      have ntl : t ≠ l := fun z => by
        rw [z, eL] at n3
        cases n3
      have tk4 : Tk H3 (upd H3 l (.lst (acc ++ [.ref t]))) := tk_lst eL3
      have hg4 : (upd H3 l (.lst (acc ++ [.ref t]))) g = some (.tup (pth p (ls.take i)).vs) := tk4 _ _ (s3 _ _ hg)
      refine ⟨l, acc, .ref t, rfl, rfl, eL3, lt24 (by omega), ?_⟩
      refine ⟨_, rfl, _, rfl, g, pth p (ls.take i), lt, rfl, sqt_of hg4, fun H5 g5 s5 n5 e5 => ?_⟩
      rw [take_at glt, pth_snoc, plc_snoc, List.map_append]
      refine ⟨(sm_upd' (s1.trans s3) hl).trans s5, g5, _, acc ++ [.ref t], rfl, e5, s5 _ _ upd_same, ?_⟩
      exact pr_snoc (hacc.tk ((sm_tk s3).trans (tk4.trans (sm_tk s5)))) (h3.tk (tk4.trans (sm_tk s5)))
    · rintro σ H1 ⟨s1, g, c5, acc, rfl, hg, eL, hacc⟩
      rw [rowS_size, List.take_length] at hacc
      have q1 := q.sm s1
      have hzl : ((plc p ls).map some).length = ls.length := by rw [List.length_map, plc_len]
      refine ⟨_, rfl, F.fl, F.dx, _, rfl, s1 _ _ hf, rfl, _, rfl, F, l, acc, y, (plc p ls).map some, past, rfl, hF.sm s1, eL, hacc, by omega, hp, q1.many, q1.over, fun c1 c2 H' x hF' => ?_⟩
      obtain ⟨pa', xs', g1, g2, g3, _⟩ := hF'.ln (Q := fun _ => True)
      refine ⟨_, rfl, _, rfl, F.fl, C, F.dx, _, .ref pa', rfl, g1, cl.cls, cl.nP, rfl, pa', xs', rfl, .inr (sqt_of g2), _, _, rfl, rfl, ?_⟩
      have e : xs'.length = xs.length + ls.length := by
        rw [g3, List.length_append, hzl, hxl]
      refine ⟨RgOk.of_le (by omega) (by omega) (by omega) (by omega), fun t nt => ?_⟩
      rw [e, rgV_nat, hxl]
      exact q1.fine c1 c2 H' x hF' t nt
end
end Rk
end
section
set_option Elab.async false
set_option linter.all false
set_option maxRecDepth 100000
set_option maxHeartbeats 4000000
/-! layouts.py: check_piece, remove, undo, layout, ends. -/
namespace Rk
open PySem PySem.Spec PyProof.Rows L2
section
variable {P : Program} {w : World} {K : PySem.W.Frag} {mg : Str → Option Value} {base : Heap} {C B fI : Addr}
def spCp (C B : Addr) : Sp := fun vs H Q E => ∃ (F : Flr) (n : Nat) (y : Lay) (past : List Lay), vs = [.ref F.fl, .int (n : Nat)] ∧ FlH C F H y past ∧ (There y n → Q .non H) ∧ (¬ There y n → Ref B "no such piece" H E)
theorem sc_cp : FnScope ["self", "number"] ["self", "number"] (defScope m_check_piece) := ⟨rfl, rfl, rfl, by decide +kernel, rfl, by decide +kernel, by decide +kernel⟩
theorem c_cp (D : MDn K C "check_piece" "Layout.check_piece" m_check_piece) (cl : FlCls K C) (ml : mg "len" = none) (cc : CalX P w K mg base 1 "check" (spChk B)) : MCal (L2.CX P w) P w K mg base 2 C "check_piece" (spCp C B) := by
  refine D.calX sc_cp (fun vs H Q E h => ?_) (fun _ _ _ _ _ _ us hl => match us, hl with | [_, _], _ => rfl) (fun f cdv A outer s H vs Q E hr h => ?_)
  · obtain ⟨F, n, y, past, rfl, _⟩ := h
    rfl
  · obtain ⟨F, n, y, past, rfl, hF, q1, q2⟩ := h
    have tk : Takes (cxOf (L2.CX P w) P w K mg base ["self", "number"] "Layout.check_piece" (defScope m_check_piece) f cdv A outer s H E) (fun cls d _ H => E cls d H) := takes_of rfl rfl rfl rfl
    refine ⟨_, pss_one (ps_expr (pe_cS cc hr (by decide) rfl tk (pa_cons (pe_and (pe_chain op_le op_lt pe_int (pv 1) (pe_callB call_len_seq (by rfl) ml PySem.boot_len (pa_cons (pe_fld (pv 0) rfl) pa_nil)))
      (pe_one (pe_cmpR op_notN1 (pe_ix ix_tup (pe_fld (pv 0) rfl) (pv 1) (fun _ _ => rfl)) pe_non (nomark _)))) (pa_cons pe_str pa_nil)))), ?_⟩
    obtain ⟨pa, xs, hf, hpa, hxl, hxs⟩ := hF.ln (Q := fun _ => True)
    have no : ¬ There y n → ∀ b : Bool, b = false → spChk B [.bl b, .str "no such piece"] H (fun _ H' => Q .non H') E := fun h b e => ⟨b, _, rfl, (fun z => by rw [e] at z; cases z), fun _ => q2 h⟩
    refine ⟨_, rfl, 0, (n : Int), rfl, rfl, true, congrArg V.bl (decide_eq_true (show (0 : Int) ≤ (n : Int) by omega)), ?_⟩
    refine ⟨_, rfl, F.fl, C, F.dx, _, .ref pa, rfl, hf, cl.cls, cl.nP, rfl, pa, xs, rfl, .inr (sqt_of hpa), (n : Int), _, rfl, rfl, _, rfl, ?_⟩
    refine ite2 (fun c => ?_) (fun c => ?_)
    · have hn : n < xs.length := by
        have z := of_decide_eq_true c
        omega
      obtain ⟨o, go, hpc⟩ := pr_get hxs (List.getElem?_eq_getElem hn)
      refine ⟨_, rfl, F.fl, C, F.dx, _, .ref pa, rfl, hf, cl.cls, cl.nP, rfl, _, rfl, pa, xs, (n : Int), xs[n], rfl, rfl, sqt_of hpa, atI_nat (List.getElem?_eq_getElem hn), rfl, ?_⟩
      cases o with
      | none =>
        have e : xs[n] = .non := hpc
        rw [e]
        exact no (fun ⟨pc, z⟩ => by rw [go] at z; cases z) _ rfl
      | some pc =>
        obtain ⟨t, qa, e, _⟩ := hpc
        rw [e]
        exact ⟨_, _, rfl, fun _ => q1 ⟨pc, go⟩, fun z => by cases z⟩
    · have hn : ¬ n < y.length := by
        intro z
        exact c (decide_eq_true (by omega))
      exact no (fun z => hn z.lt) _ rfl
def spRemove (C B : Addr) : Sp := fun vs H Q E => ∃ (F : Flr) (n : Nat) (y : Lay) (past : List Lay), vs = [.ref F.fl, .int (n : Nat)] ∧ FlH C F H y past ∧ y.length ≤ 1000 ∧ past.length ≤ 1000 ∧
  (There y n → ∀ H', SmS F.S H H' → FlH C F H' (y.set n none) (past ++ [y]) → Q .non H') ∧ (¬ There y n → Ref B "no such piece" H E)
theorem sc_remove : FnScope ["self", "number"] ["self", "number"] (defScope m_remove) := ⟨rfl, rfl, rfl, by decide +kernel, rfl, by decide +kernel, by decide +kernel⟩
theorem c_remove (D : MDn K C "remove" "Layout.remove" m_remove) (cl : FlCls K C) (cc : MCal (L2.CX P w) P w K mg base 2 C "check_piece" (spCp C B)) : MCal (L2.CX P w) P w K mg base 3 C "remove" (spRemove C B) := by
  refine D.calX sc_remove (fun vs H Q E h => ?_) (fun _ _ _ _ _ _ us hl => match us, hl with | [_, _], _ => rfl) (fun f cdv A outer s H vs Q E hr h => ?_)
  · obtain ⟨F, n, y, past, rfl, _⟩ := h
    rfl
  · obtain ⟨F, n, y, past, rfl, hF, hy, hp, q1, q2⟩ := h
    have tk : Takes (cxOf (L2.CX P w) P w K mg base ["self", "number"] "Layout.remove" (defScope m_remove) f cdv A outer s H E) (fun cls d _ H => E cls d H) := takes_of rfl rfl rfl rfl
    refine ⟨_, pss_cons (ps_expr (pe_mS cc hr (by decide) cl.cls (fun σ => passAt tk σ) (pv 0) (pa_cons (pv 1) pa_nil)))
      (pss_cons (ps_expr (pe_bm PySem.F.plainAttrs_list PySem.F.slot_list_append PySem.F.type_list_append mt_append (pe_fld (pv 0) rfl) (pa_cons (pe_fld (pv 0) rfl) pa_nil)))
      (pss_one (ps_fld (pv 0) (pe_op op_catA (pe_op op_catA (pe_slice sl_tupA (pe_fld (pv 0) rfl) po_none (po_some (pv 1))) (pe_tup (pa_cons pe_non pa_nil))) (pe_slice sl_tupA (pe_fld (pv 0) rfl) (po_some (pe_op op_add (pv 1) pe_int)) po_none)) rfl))), ?_⟩
    obtain ⟨pa, pr, hf, ⟨xs, hx1, hx2⟩, hpl, hpr⟩ := id hF
    have hxl := pr_len hx2
    refine ⟨_, rfl, F.fl, F.dx, _, rfl, hf, rfl, _, rfl, F, n, y, past, rfl, hF, fun ht => ?_, fun ht => q2 ht⟩
    have hn : n < xs.length := by
      rw [hxl]
      exact ht.lt
    have nfp : F.fl ≠ F.pl := fun z => by
      rw [z, hpl] at hf
      cases hf
    refine ⟨_, rfl, F.fl, C, F.dx, _, .ref F.pl, rfl, hf, cl.cls, cl.nQ, rfl, .inl ⟨rfl, _, SqL.of hpl⟩, _, rfl, F.fl, C, F.dx, _, .ref pa, rfl, hf, cl.cls, cl.nP, rfl, F.pl, pr, _, rfl, rfl, hpl, ?_, ?_⟩
    · rw [pr_len hpr]
      exact lt24 (by omega)
    have x1 : SmS F.S H (upd H F.pl (.lst (pr ++ [.ref pa]))) := (SmS.of (Same.refl H)).upd (S := F.S) (p := F.pl) (List.mem_cons_of_mem _ (List.mem_singleton.mpr rfl))
    generalize hH1 : upd H F.pl (.lst (pr ++ [.ref pa])) = H1 at x1 ⊢
    have hf1 : H1 F.fl = some (.ins C F.dx (flF pa F.pl)) := by
      rw [← hH1]
      exact (upd_ne nfp).trans hf
    have hpl1 : H1 F.pl = some (.lst (pr ++ [.ref pa])) := by
      rw [← hH1]
      exact upd_same
    have nt := hF.nt
    have tk1 := x1.tk nt
    have hx11 := tk1 _ _ hx1
    refine ⟨_, rfl, F.fl, C, F.dx, _, .ref pa, rfl, hf1, cl.cls, cl.nP, rfl, _, rfl, _, rfl, sl_any hx11 fun H2 r2 s2 e2 => ?_⟩
    refine ⟨by show 1 ≤ sizeLine; decide, fun t3 n3 => ?_⟩
    have s3 := sm_upd (o := .tup [.non]) n3
    have hc1 := cutV_length xs none (some (n : Int))
    refine cat_any (s3 _ _ e2) upd_same (by show _ + 1 ≤ 16777216; omega) fun H4 r4 s4 e4 => ?_
    have s14 := s2.trans (s3.trans s4)
    refine ⟨_, rfl, F.fl, C, F.dx, _, .ref pa, rfl, s14 _ _ hf1, cl.cls, cl.nP, rfl, _, rfl, _, _, rfl, rfl, _, rfl, ?_⟩
    dsimp only [tNoPart]
    refine sl_any (s14 _ _ hx11) fun H5 r5 s5 e5 => ?_
    have hc2 := cutV_length xs (some ((n : Int) + 1)) none
    refine cat_any (s5 _ _ e4) e5 (by rw [List.length_append]; show _ + 1 + _ ≤ 16777216; omega) fun H6 r6 s6 e6 => ?_
    rw [cut_set hn] at e6
    have s16 := s14.trans (s5.trans s6)
    refine ⟨_, rfl, F.fl, C, F.dx, _, rfl, s16 _ _ hf1, cl.cls, cl.nP, (by show 2 < 1000; decide), ?_⟩
    have x2 : SmS F.S H (upd H6 F.fl (.ins C F.dx (putF "pieces" (.ref r6) (flF pa F.pl)))) := (x1.trans (SmS.of s16)).upd List.mem_cons_self
    have tk2 := x2.tk nt
    refine q1 ht _ x2 ⟨r6, pr ++ [.ref pa], upd_same, ⟨_, (upd_ne (fun z => by rw [z, s16 _ _ hf1] at e6; cases e6)).trans e6, pr_set (hx2.tk tk2) rfl⟩, (upd_ne (Ne.symm nfp)).trans (s16 _ _ hpl1), pr_snoc (Paired.mapP hpr fun v z g => ?_) ⟨pa, rfl, LayT.tk tk2 ⟨xs, hx1, hx2⟩⟩⟩
    obtain ⟨a, e, g⟩ := g
    exact ⟨a, e, g.tk tk2⟩
def spUndo (C : Addr) : Sp := fun vs H Q _ => ∃ (F : Flr) (y : Lay) (past : List Lay), vs = [.ref F.fl] ∧ FlH C F H y past ∧ (past = [] → Q (.bl false) H) ∧ (∀ ps z, past = ps ++ [z] → ∀ H', SmS F.S H H' → FlH C F H' z ps → Q (.bl true) H')
theorem sc_undo : FnScope ["self"] ["self"] (defScope m_undo) := ⟨rfl, rfl, rfl, by decide +kernel, rfl, by decide +kernel, by decide +kernel⟩
theorem c_undo (D : MDn K C "undo" "Layout.undo" m_undo) (cl : FlCls K C) : MCal CX0 P w K mg base 1 C "undo" (spUndo C) := by
  refine D.cal sc_undo (fun vs H Q E h => ?_) (fun _ _ _ _ _ _ us hl => match us, hl with | [_], _ => rfl) (fun f cdv A outer s H vs Q E hr h => ?_)
  · obtain ⟨F, y, past, rfl, _⟩ := h
    rfl
  · obtain ⟨F, y, past, rfl, hF, q1, q2⟩ := h
    refine ⟨_, pss_cons (ps_if (pt_not (pt_truth (pe_fld (pv 0) rfl) (fun _ => rfl))) (pss_one (ps_ret pe_bl)) pss_nil)
      (pss_cons (ps_fld (pv 0) (pe_bm0 PySem.F.plainAttrs_list PySem.F.slot_list_pop PySem.F.type_list_pop mt_pop (pe_fld (pv 0) rfl)) rfl)
      (pss_one (ps_ret pe_bl))), ?_⟩
    obtain ⟨pa, pr, hf, hy, hpl, hpr⟩ := id hF
    have nfp : F.fl ≠ F.pl := fun z => by
      rw [z, hpl] at hf
      cases hf
    refine ⟨_, rfl, F.fl, C, F.dx, _, .ref F.pl, rfl, hf, cl.cls, cl.nQ, rfl, _, .inl ⟨pr, SqL.of hpl, rfl⟩, ?_⟩
    rcases List.eq_nil_or_concat past with e | ⟨ps, z, e⟩
    · subst e
      cases hpr
      exact q1 rfl
    · rw [List.concat_eq_append] at e
      subst e
      obtain ⟨v, gv, ⟨a, rfl, hz⟩, hps⟩ := pr_pop hpr
      have hne : pr ≠ [] := fun z => by
        subst z
        cases gv
      have hem : (!(!pr.isEmpty)) = false := by
        cases pr with
        | nil => exact absurd rfl hne
        | cons _ _ => rfl
      rw [hem]
      refine ⟨_, rfl, F.fl, C, F.dx, _, .ref F.pl, rfl, hf, cl.cls, cl.nQ, rfl, .inl ⟨rfl, _, SqL.of hpl⟩, F.pl, pr, .ref a, rfl, rfl, hpl, gv, ?_⟩
      refine ⟨_, rfl, F.fl, C, F.dx, _, rfl, (upd_ne nfp).trans hf, cl.cls, cl.nP, (by show 2 < 1000; decide), ?_⟩
      have x1 : SmS F.S H (upd (upd H F.pl (.lst pr.dropLast)) F.fl (.ins C F.dx (putF "pieces" (.ref a) (flF pa F.pl)))) :=
        ((SmS.of (Same.refl H)).upd (S := F.S) (p := F.pl) (List.mem_cons_of_mem _ (List.mem_singleton.mpr rfl))).upd List.mem_cons_self
      have tk1 := x1.tk hF.nt
      refine q2 ps z rfl _ x1 ⟨a, pr.dropLast, upd_same, hz.tk tk1, (upd_ne (Ne.symm nfp)).trans upd_same, Paired.mapP hps fun v z g => ?_⟩
      obtain ⟨a, e, g⟩ := g
      exact ⟨a, e, g.tk tk1⟩
def spLayout (C : Addr) : Sp := fun vs H Q _ => ∃ (F : Flr) (y : Lay) (past : List Lay), vs = [.ref F.fl] ∧ FlH C F H y past ∧ ∀ pa, LayT H pa y → Q (.ref pa) H
theorem sc_layout : FnScope ["self"] ["self"] (defScope m_layout) := ⟨rfl, rfl, rfl, by decide +kernel, rfl, by decide +kernel, by decide +kernel⟩
theorem c_layout (D : MDn K C "layout" "Layout.layout" m_layout) (cl : FlCls K C) : MCal CX0 P w K mg base 1 C "layout" (spLayout C) := by
  refine D.cal sc_layout (fun vs H Q E h => ?_) (fun _ _ _ _ _ _ us hl => match us, hl with | [_], _ => rfl) (fun f cdv A outer s H vs Q E hr h => ?_)
  · obtain ⟨F, y, past, rfl, _⟩ := h
    rfl
  · obtain ⟨F, y, past, rfl, ⟨pa, pr, hf, hy, _⟩, q⟩ := h
    exact ⟨_, pss_one (ps_ret (pe_fld (pv 0) rfl)), _, rfl, F.fl, C, F.dx, _, .ref pa, rfl, hf, cl.cls, cl.nP, rfl, q pa hy⟩
def spEndsM (C : Addr) : Sp := fun vs H Q _ => ∃ (F : Flr) (y : Lay) (past : List Lay), vs = [.ref F.fl] ∧ FlH C F H y past ∧ y.length ≤ 1000 ∧ ∀ H' t xs, Same H H' → H t = none → H' t = some (.tup xs) → TrsH H' xs (allEnds y) → Q (.ref t) H'
theorem sc_endsM : FnScope ["self"] ["self"] (defScope m_ends) := ⟨rfl, rfl, rfl, by decide +kernel, rfl, by decide +kernel, by decide +kernel⟩
theorem c_endsM (D : MDn K C "ends" "Layout.ends" m_ends) (cl : FlCls K C) (ca : Cal P w K mg base 5 "all_ends" spAll) : MCal CX0 P w K mg base 6 C "ends" (spEndsM C) := by
  refine D.cal sc_endsM (fun vs H Q E h => ?_) (fun _ _ _ _ _ _ us hl => match us, hl with | [_], _ => rfl) (fun f cdv A outer s H vs Q E hr h => ?_)
  · obtain ⟨F, y, past, rfl, _⟩ := h
    rfl
  · obtain ⟨F, y, past, rfl, ⟨pa, pr, hf, hy, _⟩, hl, q⟩ := h
    exact ⟨_, pss_one (ps_ret (pe_c ca hr (by decide) rfl (pa_cons (pe_fld (pv 0) rfl) pa_nil))), _, rfl, F.fl, C, F.dx, _, .ref pa, rfl, hf, cl.cls, cl.nP, rfl, pa, y, rfl, hy, hl, q⟩
end
end Rk
end
section
set_option Elab.async false
set_option linter.all false
set_option maxRecDepth 100000
set_option maxHeartbeats 4000000
/-! layouts.py: joined, open_ends, islands, is_shut. -/
namespace Rk
open PySem PySem.Spec PyProof.Rows L2
open GxR (TabG)
def opens (y : Lay) : List (Nat × Nat) := ((allEnds y).filter fun z => (jt y z.2.2).isNone).map fun z => (z.1, z.2.1)
def PrH (H : Hp) (v : V) (z : Nat × Nat) : Prop := ∃ t, v = .ref t ∧ H t = some (.tup [.int (z.1 : Nat), .int (z.2 : Nat)])
theorem PrH.tk {H H' : Hp} {v : V} {z : Nat × Nat} (t : Tk H H') (h : PrH H v z) : PrH H' v z := by
  obtain ⟨a, e, h1⟩ := h
  exact ⟨a, e, t _ _ h1⟩
abbrev PrsH (H : Hp) : List V → List (Nat × Nat) → Prop := Paired (PrH H)
theorem PrsH.tk {H H' : Hp} {vs : List V} {l : List (Nat × Nat)} (t : Tk H H') (h : PrsH H vs l) : PrsH H' vs l := Paired.mapP h fun _ _ z => z.tk t
def prD (z : Nat × Nat) : PyData := .tuple [.int (z.1 : Nat), .int (z.2 : Nat)]
theorem dp_pr {K : PySem.W.Frag} {H : Hp} {v : V} {z : Nat × Nat} (h : PrH H v z) : Dp K H v (prD z) := by
  obtain ⟨t, rfl, h1⟩ := h
  exact .tup (sqt_of h1) (.cons (.int _) (.cons (.int _) .nil))
theorem prs_shaped (l : List (Nat × Nat)) : SeqAt.shaped (.tuple (l.map prD)) = true := by
  have h1 : ∀ l : List (Nat × Nat), PyData.canLayAll0 (l.map prD) = true ∧ PyData.depthAll (l.map prD) ≤ 1 := fun l => by
    induction l with
    | nil => exact ⟨rfl, Nat.zero_le _⟩
    | cons z r ih =>
      refine ⟨?_, ?_⟩
      · show (PyData.canLay0 (prD z) && PyData.canLayAll0 (r.map prD)) = true
        rw [ih.1]
        rfl
      · show max (PyData.depth (prD z)) (PyData.depthAll (r.map prD)) ≤ 1
        have : PyData.depth (prD z) = 1 := rfl
        omega
  obtain ⟨a, b⟩ := h1 l
  unfold SeqAt.shaped
  rw [show PyData.canLay0 (.tuple (l.map prD)) = PyData.canLayAll0 (l.map prD) by simp only [PyData.canLay0], a]
  have e : PyData.depth (.tuple (l.map prD)) ≤ 64 := by
    have : PyData.depth (.tuple (l.map prD)) = PyData.depthAll (l.map prD) + 1 := by simp only [PyData.depth]
    omega
  exact decide_eq_true e
theorem prs_eqv (l : List (Nat × Nat)) : PyData.eqv (.tuple (l.map prD)) (.tuple []) = l.isEmpty := by
  cases l <;> simp [PyData.eqv, PyData.eqvAll]
theorem JtQ.sm {H H1 : Hp} {o : Option (Nat × Nat)} {Q : VK} (h : JtQ H o Q) (s : Same H H1) : JtQ H1 o Q := by
  cases o with
  | none => exact fun H' s' => h H' (s.trans s')
  | some z => exact fun H' t s' n e => h H' t (s.trans s') (s.free n) e
theorem filter_take {α : Type} {l : List α} {i : Nat} {x : α} {f : α → Bool} (h : l[i]? = some x) : (l.take (i + 1)).filter f = (l.take i).filter f ++ (if f x = true then [x] else []) := by
  rw [take_at h, List.filter_append]
  congr 1
  cases hf : f x <;> simp [hf]
section
variable {P : Program} {w : World} {K : PySem.W.Frag} {mg : Str → Option Value} {base : Heap} {C B fI : Addr}
def spJoined (C : Addr) : Sp := fun vs H Q _ => ∃ (F : Flr) (n e : Nat) (y : Lay) (past : List Lay) (pc : Pc) (p : Po), vs = [.ref F.fl, .int (n : Nat), .int (e : Nat)] ∧ FlH C F H y past ∧ y.length ≤ 1000 ∧ y[n]? = some (some pc) ∧ (endsOf pc.1 pc.2)[e]? = some p ∧ JtQ H (jt y p) Q
theorem sc_joined : FnScope ["self", "number", "end", "kind", "pose", "ends"] ["self", "number", "end"] (defScope m_joined) := ⟨rfl, rfl, rfl, by decide +kernel, rfl, by decide +kernel, by decide +kernel⟩
theorem c_joined (D : MDn K C "joined" "Layout.joined" m_joined) (cl : FlCls K C) (ml : mg "len" = none) (cp : MCal (L2.CX P w) P w K mg base 2 C "check_piece" (spCp C B)) (cc : CalX P w K mg base 1 "check" (spChk B)) (ce : Cal P w K mg base 4 "ends_of" (spEnds K)) (cj : Cal P w K mg base 6 "joined_to" (spJt K)) : MCal (L2.CX P w) P w K mg base 7 C "joined" (spJoined C) := by
  refine D.calX sc_joined (fun vs H Q E h => ?_) (fun _ _ _ _ _ _ us hl => match us, hl with | [_, _, _], _ => rfl) (fun f cdv A outer s H vs Q E hr h => ?_)
  · obtain ⟨F, n, e, y, past, pc, p, rfl, _⟩ := h
    rfl
  · obtain ⟨F, n, e, y, past, pc, p, rfl, hF, hl, gn, ge, q⟩ := h
    have nd := sc_joined.nd
    have tk : Takes (cxOf (L2.CX P w) P w K mg base ["self", "number", "end", "kind", "pose", "ends"] "Layout.joined" (defScope m_joined) f cdv A outer s H E) (fun cls d _ H => E cls d H) := takes_of rfl rfl rfl rfl
    refine ⟨_, pss_cons (ps_expr (pe_mS cp hr (by decide) cl.cls (fun σ => passAt tk σ) (pv 0) (pa_cons (pv 1) pa_nil)))
      (pss_cons (ps_asg (pe_ix ix_tup (pe_fld (pv 0) rfl) (pv 1) (fun _ _ => rfl)) (pg_tup rfl (pgs_cons (pg_name (i := 3) nd rfl (.inl rfl)) (pgs_cons (pg_name (i := 4) nd rfl (.inl rfl)) pgs_nil))))
      (pss_cons (ps_set (i := 5) nd rfl (.inl rfl) (pe_c ce hr (by decide) rfl (pa_cons (pv 3) (pa_cons (pv 4) pa_nil))))
      (pss_cons (ps_expr (pe_cS cc hr (by decide) rfl tk (pa_cons (pe_chain op_le op_lt pe_int (pv 2) (pe_callB call_len_seq (by rfl) ml PySem.boot_len (pa_cons (pv 5) pa_nil))) (pa_cons pe_str pa_nil))))
      (pss_one (ps_ret (pe_c cj hr (by decide) rfl (pa_cons (pe_fld (pv 0) rfl) (pa_cons (pe_ix ix_tup (pv 5) (pv 2) (fun _ _ => rfl)) pa_nil)))))))), ?_⟩
    obtain ⟨pa, pr, hf, hy, _⟩ := id hF
    obtain ⟨xs, hx1, hx2⟩ := id hy
    obtain ⟨v, gv, t, qa, rfl, h1, h2⟩ := pr_got hx2 gn
    refine ⟨_, rfl, F.fl, F.dx, _, rfl, hf, rfl, _, rfl, F, n, y, past, rfl, hF, fun _ => ?_, fun z => absurd ⟨pc, gn⟩ z⟩
    refine ⟨_, rfl, F.fl, C, F.dx, _, .ref pa, rfl, hf, cl.cls, cl.nP, rfl, _, rfl, pa, xs, (n : Int), .ref t, rfl, rfl, sqt_of hx1, atI_nat gv, ?_⟩
    refine ⟨t, _, rfl, .inl (.inl h1), rfl, _, _, rfl, _, _, rfl, rfl, ?_⟩
    refine ⟨_, rfl, _, rfl, pc.1, qa, pc.2, rfl, sqt_of h2, fun H1 te exs s1 n1 e1 hexs => ?_⟩
    obtain ⟨v2, gv2, pa2, rfl, hp2⟩ := pr_got hexs ge
    have he : e < exs.length := (List.getElem?_eq_some_iff.mp gv2).1
    refine ⟨_, rfl, 0, (e : Int), rfl, rfl, true, congrArg V.bl (decide_eq_true (show (0 : Int) ≤ (e : Int) by omega)), ?_⟩
    refine ⟨_, rfl, te, exs, rfl, .inr (sqt_of e1), (e : Int), _, rfl, rfl, _, _, rfl, fun _ => ?_, fun z => absurd (decide_eq_true (show (e : Int) < (exs.length : Int) by omega)) (by rw [z]; decide)⟩
    refine ⟨_, rfl, F.fl, C, F.dx, _, .ref pa, rfl, s1 _ _ hf, cl.cls, cl.nP, rfl, _, rfl, _, rfl, te, exs, (e : Int), .ref pa2, rfl, rfl, sqt_of e1, atI_nat gv2, pa, pa2, y, p, rfl, hy.tk (sm_tk s1), hl, sqt_of hp2, q.sm s1⟩
def spOpen (C : Addr) : Sp := fun vs H Q _ => ∃ (F : Flr) (y : Lay) (past : List Lay), vs = [.ref F.fl] ∧ FlH C F H y past ∧ y.length ≤ 1000 ∧ ∀ H' t xs, Same H H' → H t = none → H' t = some (.tup xs) → PrsH H' xs (opens y) → Q (.ref t) H'
theorem sc_open : FnScope ["self", "number", "end", "pose"] ["self"] (defScope m_open_ends) := ⟨rfl, rfl, rfl, by decide +kernel, rfl, by decide +kernel, by decide +kernel⟩
theorem c_open (D : MDn K C "open_ends" "Layout.open_ends" m_open_ends) (cl : FlCls K C) (mt : mg "tuple" = none) (ce : MCal CX0 P w K mg base 6 C "ends" (spEndsM C)) (cj : Cal P w K mg base 6 "joined_to" (spJt K)) : MCal CX0 P w K mg base 7 C "open_ends" (spOpen C) := by
  refine D.cal sc_open (fun vs H Q E h => ?_) (fun _ _ _ _ _ _ us hl => match us, hl with | [_], _ => rfl) (fun f cdv A outer s H vs Q E hr h => ?_)
  · obtain ⟨F, y, past, rfl, _⟩ := h
    rfl
  · obtain ⟨F, y, past, rfl, hF, hl, q⟩ := h
    have nd := sc_open.nd
    refine ⟨_, pss_one (ps_ret (pe_callTy call_tuple_of (by rfl) mt boot_tuple (pa_cons
      (pe_lc (own := [("number", 1), ("end", 2), ("pose", 3)]) (g := gTup K 3 (gCons (gName 1) (gCons (gName 2) (gCons (gName 3) gNil)))) (by rfl) nd (pi_tup (pe_mS0 (E := fun _ => E0) ce hr (by decide) cl.cls pass0S (pv 0)))
        (blkOk_by (N := ["self", "number", "end", "pose"]) (sc := defScope m_open_ends) (by decide +kernel))
        (fun _ _ _ _ _ => pg_tup rfl (pgs_cons (pg_name (i := 1) nd rfl (.inl rfl)) (pgs_cons (pg_name (i := 2) nd rfl (.inl rfl)) (pgs_cons (pg_name (i := 3) nd rfl (.inl rfl)) pgs_nil))))
        (fun _ _ _ _ _ => pts_one (t := tTest (tOp rIsN (tCall (spJt K) [] E0 (tCons (tFld K (tVar 0) "pieces") (tCons (tVar 3) tNil))) (tC .non))) (pt_cmpR op_isN1 (pe_c cj hr (by decide) rfl (pa_cons (pe_fld (pv 0) rfl) (pa_cons (pv 3) pa_nil))) pe_non (nomark _)))
        (fun _ _ _ _ _ => pe_tup (pa_cons (pv 1) (pa_cons (pv 2) pa_nil)))) pa_nil))), ?_⟩
    obtain ⟨pa, pr, hf, hy, _⟩ := id hF
    refine ⟨_, rfl, F.fl, F.dx, _, rfl, hf, rfl, F, y, past, rfl, hF, hl, fun H1 te tr s1 n1 e1 htr => ?_⟩
    refine ⟨te, rfl, ⟨_, sqt_of e1⟩, fun D0 hD => ?_⟩
    have h4 := all_len y 0
    refine lc_it (walk_tup (K := K) (a := te) (xs := tr)) (fun i H' => Same H1 H' ∧ ∃ acc, H' D0 = some (.lst acc) ∧ PrsH H' acc ((((allEnds y).take i).filter fun z => (jt y z.2.2).isNone).map fun z => (z.1, z.2.1)))
      ⟨sm_upd hD, [], upd_same, .nil⟩ (fun i H' _ p => sqt_of (p.1 _ _ e1)) ?_ ?_
    · rintro i v H4 H5 hi ⟨s4, acc, eD, hacc⟩ ⟨rfl, gx⟩
      obtain ⟨z, gz, g, qp, rfl, hg, hqp⟩ := pr_get htr gx
      have s14 := s1.trans s4
      refine ⟨g, _, rfl, .inl (.inl (s4 _ _ hg)), rfl, _, _, rfl, _, _, rfl, _, _, rfl, rfl, rfl, ?_⟩
      refine ⟨_, rfl, F.fl, C, F.dx, _, .ref pa, rfl, s14 _ _ hf, cl.cls, cl.nP, rfl, _, rfl, pa, qp, y, z.2.2, rfl, hy.tk (sm_tk s14), hl, sqt_of (s4 _ _ hqp), jtQ fun v6 H6 s6 hv6 => ?_⟩
      rw [filter_take gz, List.map_append]
      have hal : acc.length ≤ 4000 := by
        have e2 := pr_len hacc
        have e3 := List.length_filter_le (fun z : Nat × Nat × Po => (jt y z.2.2).isNone) ((allEnds y).take i)
        rw [List.length_map] at e2
        rw [List.length_take] at e3
        unfold allEnds at e2 e3
        omega
      cases hj : jt y z.2.2 with
      | none =>
        rw [hj] at hv6
        obtain rfl : v6 = .non := hv6
        refine ⟨rfl, _, rfl, ?_⟩
        refine ⟨_, rfl, _, rfl, (by show 2 ≤ sizeLine; decide), fun t7 n7 => ?_⟩
        have s7 := sm_upd (o := .tup [.int (z.1 : Nat), .int (z.2.1 : Nat)]) n7
        have eD7 := s7 _ _ (s6 _ _ eD)
        have tk8 : Tk _ (upd _ D0 (.lst (acc ++ [.ref t7]))) := tk_lst eD7
        refine ⟨acc, eD7, lt24 (by omega), sm_upd' (s4.trans (s6.trans s7)) hD, acc ++ [.ref t7], upd_same, ?_⟩
        exact pr_app (hacc.tk ((sm_tk (s6.trans s7)).trans tk8)) (.cons ⟨t7, rfl, tk8 _ _ upd_same⟩ .nil)
      | some w6 =>
        rw [hj] at hv6
        obtain ⟨t6, rfl, _⟩ := hv6
        refine ⟨rfl, _, rfl, ?_⟩
        refine ⟨s4.trans s6, acc, s6 _ _ eD, ?_⟩
        simp only [Option.isNone_some, Bool.false_eq_true, if_false, List.map_nil, List.append_nil]
        exact hacc.tk (sm_tk s6)
    · rintro H4 ⟨s4, acc, eD, hacc⟩
      rw [pr_len htr, List.take_length] at hacc
      have s14 := s1.trans s4
      exact ⟨D0, acc, rfl, .inl ⟨SqL.of eD, fun t ht => q _ t acc (sm_updN s14 ht) (s14.free ht) upd_same (hacc.tk (sm_tk (sm_upd ht)))⟩⟩
def spIslM (C p : Addr) : Sp := fun vs H Q _ => ∃ (F : Flr) (y : Lay) (past : List Lay), vs = [.ref F.fl] ∧ FlH C F H y past ∧ y.length ≤ 60 ∧ TabG H p ∧ ∀ H' t xs, SameX p H H' → TabG H' p → H t = none → H' t = some (.tup xs) → IslsH H' xs (isles y) → Q (.ref t) H'
theorem sc_islM : FnScope ["self"] ["self"] (defScope m_islands) := ⟨rfl, rfl, rfl, by decide +kernel, rfl, by decide +kernel, by decide +kernel⟩
theorem c_islM {p : Addr} (D : MDn K C "islands" "Layout.islands" m_islands) (cl : FlCls K C) (ci : Cal P w K mg base 9 "islands_of" (spIsles p)) : MCal CX0 P w K mg base 10 C "islands" (spIslM C p) := by
  refine D.cal sc_islM (fun vs H Q E h => ?_) (fun _ _ _ _ _ _ us hl => match us, hl with | [_], _ => rfl) (fun f cdv A outer s H vs Q E hr h => ?_)
  · obtain ⟨F, y, past, rfl, _⟩ := h
    rfl
  · obtain ⟨F, y, past, rfl, ⟨pa, pr, hf, hy, _⟩, hl, hT, q⟩ := h
    exact ⟨_, pss_one (ps_ret (pe_c ci hr (by decide) rfl (pa_cons (pe_fld (pv 0) rfl) pa_nil))), _, rfl, F.fl, C, F.dx, _, .ref pa, rfl, hf, cl.cls, cl.nP, rfl, pa, y, rfl, hy, hl, hT, q⟩
def spShut (C : Addr) : Sp := fun vs H Q _ => ∃ (F : Flr) (y : Lay) (past : List Lay), vs = [.ref F.fl] ∧ FlH C F H y past ∧ y.length ≤ 1000 ∧ ∀ H', Same H H' → Q (.bl (opens y).isEmpty) H'
theorem sc_shut : FnScope ["self"] ["self"] (defScope m_is_shut) := ⟨rfl, rfl, rfl, by decide +kernel, rfl, by decide +kernel, by decide +kernel⟩
theorem c_shut (D : MDn K C "is_shut" "Layout.is_shut" m_is_shut) (cl : FlCls K C) (co : MCal CX0 P w K mg base 7 C "open_ends" (spOpen C)) : MCal CX0 P w K mg base 8 C "is_shut" (spShut C) := by
  refine D.cal sc_shut (fun vs H Q E h => ?_) (fun _ _ _ _ _ _ us hl => match us, hl with | [_], _ => rfl) (fun f cdv A outer s H vs Q E hr h => ?_)
  · obtain ⟨F, y, past, rfl, _⟩ := h
    rfl
  · obtain ⟨F, y, past, rfl, hF, hl, q⟩ := h
    refine ⟨_, pss_one (ps_ret (pe_cmpR (op_eqD hr.units) (pe_mS0 (E := fun _ => E0) co hr (by decide) cl.cls pass0S (pv 0)) (pe_tup pa_nil) (nomark _))), ?_⟩
    obtain ⟨pa, pr, hf, _⟩ := id hF
    refine ⟨_, rfl, F.fl, F.dx, _, rfl, hf, rfl, F, y, past, rfl, hF, hl, fun H1 t xs s1 n1 e1 hxs => ⟨Nat.zero_le _, fun t2 n2 => ?_⟩⟩
    have s2 := sm_upd (o := .tup []) n2
    refine ⟨.tuple ((opens y).map prD), .tuple [], .tup (sqt_of (s2 _ _ e1)) (dp_all (fun _ _ z => dp_pr z) (hxs.tk (sm_tk s2))), .tup (sqt_of upd_same) .nil, prs_shaped _, rfl, ?_⟩
    rw [prs_eqv]
    exact q _ (s1.trans s2)
end
end Rk
end
section
set_option Elab.async false
set_option linter.all false
set_option maxRecDepth 100000
set_option maxHeartbeats 4000000
/-! The law's poses: move, turned, laid, back, led. -/
namespace Rk
open PySem PySem.Spec PyProof.Rows L2

/-! ### plain: the poses along a row -/
def pths : Po → List Lt → List Po
  | p, [] => [p]
  | p, l :: r => p :: pths (stp p l) r
theorem pths_snoc : ∀ (ls : List Lt) (p : Po) (l : Lt), pths p (ls ++ [l]) = pths p ls ++ [pth p (ls ++ [l])]
  | [], _, _ => rfl
  | a :: r, p, l => by
    show p :: pths (stp p a) (r ++ [l]) = _
    rw [pths_snoc r]
    rfl
theorem pths_last : ∀ (ls : List Lt) (p : Po), ∃ init, pths p ls = init ++ [pth p ls]
  | [], p => ⟨[], rfl⟩
  | a :: r, p => by
    obtain ⟨init, e⟩ := pths_last r (stp p a)
    exact ⟨p :: init, by show p :: pths (stp p a) r = _; rw [e]; rfl⟩
theorem pths_len : ∀ (ls : List Lt) (p : Po), (pths p ls).length = ls.length + 1
  | [], _ => rfl
  | a :: r, p => by
    show (pths (stp p a) r).length + 1 = r.length + 1 + 1
    rw [pths_len r]
theorem pths_at : ∀ (ls : List Lt) (p : Po) (i : Nat), i ≤ ls.length → (pths p ls)[i]? = some (pth p (ls.take i))
  | [], p, 0, _ => rfl
  | a :: r, p, 0, _ => rfl
  | a :: r, p, i + 1, h => by
    show (pths (stp p a) r)[i]? = _
    rw [pths_at r (stp p a) i (by simpa using h)]
    rfl
theorem at_last {α : Type} {xs : List α} {v : α} (h : xs[xs.length - 1]? = some v) : atI xs (-1) = some v := by
  obtain ⟨hi, e⟩ := List.getElem?_eq_some_iff.mp h
  have hne : xs ≠ [] := fun z => by
    subst z
    exact absurd hi (Nat.not_lt_zero _)
  have e2 : xs = xs.dropLast ++ [v] := by
    have e3 := List.dropLast_concat_getLast hne
    rw [List.getLast_eq_getElem, e] at e3
    exact e3.symm
  rw [e2]
  exact atI_last _ _
theorem pr_last {α β : Type} {F : α → β → Prop} {xs : List α} {ys : List β} {y : β} (h : Paired F xs (ys ++ [y])) : ∃ x, atI xs (-1) = some x ∧ F x y := by
  obtain ⟨x, h1, h2, _⟩ := pr_pop h
  exact ⟨x, at_last h1, h2⟩
theorem mv_list (q : P4) (d n : Int) : ∃ x, (q.l.map V.int)[((d % 8) % 4).toNat]? = some (.int x) ∧ (q.l.map V.int).set ((d % 8) % 4).toNat (.int (x + n * (1 - 2 * (if decide (3 < d % 8) = true then 1 else 0)))) = (mv q d n).l.map V.int := by
  obtain ⟨a, b, c, e⟩ := q
  unfold mv
  rcases eight d with z | z | z | z | z | z | z | z <;> rw [z] <;> simp [P4.l] <;> omega
section
variable {P : Program} {w : World} {K : PySem.W.Frag} {mg : Str → Option Value} {base : Heap}
def spMoveL (K : PySem.W.Frag) : Sp := fun vs H Q _ => ∃ (a : Addr) (q : P4) (d n : Int), vs = [.ref a, .int d, .int n] ∧ SqL K H a (q.l.map V.int) ∧ NewL H (mv q d n).l Q
theorem sc_moveL : FnScope ["_law_position", "_law_direction", "_law_many", "_law_at", "_law_row"] ["_law_position", "_law_direction", "_law_many"] (defScope s_law_move) := ⟨rfl, rfl, rfl, by decide +kernel, rfl, by decide +kernel, by decide +kernel⟩
theorem c_moveL (D : Dn K mg "_law_move" s_law_move) (mi : mg "int" = none) (ml : mg "list" = none) : Cal P w K mg base 1 "_law_move" (spMoveL K) := by
  refine D.cal sc_moveL (fun vs H Q E h => ?_) (fun _ _ _ _ _ _ us hl => match us, hl with | [_, _, _], _ => rfl) (fun f cdv A outer s H vs Q E hr h => ?_)
  · obtain ⟨a, q, d, n, rfl, _⟩ := h
    rfl
  · obtain ⟨a, q, d, n, rfl, ha, k⟩ := h
    have nd := sc_moveL.nd
    refine ⟨_, pss_cons (ps_set (i := 3) nd rfl (.inl rfl) (pe_op op_mod (pe_callTy call_int1 (by rfl) mi boot_int (pa_cons (pv 1) pa_nil)) pe_int))
      (pss_cons (ps_set (i := 4) nd rfl (.inl rfl) (pe_callTy call_list_of (by rfl) ml boot_list (pa_cons (pv 0) pa_nil)))
      (pss_cons (ps_asg (pe_op op_add (pe_ix ix_list (pv 4) (pe_op op_mod (pe_callTy call_int1 (by rfl) mi boot_int (pa_cons (pv 3) pa_nil)) pe_int) (fun _ _ => rfl))
          (pe_op op_mul (pv 2) (pe_op op_sub pe_int (pe_op op_mul pe_int (pe_callTy call_int1 (by rfl) mi boot_int (pa_cons (pe_cmpR op_gt (pv 3) pe_int (nomark _)) pa_nil))))))
        (pg_sub (pv 4) (pe_op op_mod (pe_callTy call_int1 (by rfl) mi boot_int (pa_cons (pv 3) pa_nil)) pe_int) set_list))
      (pss_one (ps_ret (pv 4))))), ?_⟩
    obtain ⟨x, gx, hset⟩ := mv_list q d n
    have ix0 : 0 ≤ d % 8 % 4 := by omega
    have ix1 : d % 8 % 4 < 4 := by omega
    refine ⟨_, rfl, .inl ⟨d, rfl, d, 8, rfl, rfl, (by show (0 : Int) < 8; decide), ?_⟩⟩
    refine ⟨_, rfl, a, _, rfl, .inl ha, fun l hl => ?_⟩
    refine ⟨_, rfl, _, rfl, .inl ⟨_, rfl, _, 4, rfl, rfl, (by show (0 : Int) < 4; decide), l, _, d % 8 % 4, .int x, rfl, rfl, SqL.of upd_same, ?_, ?_⟩⟩
    · unfold atI
      rw [ixN_ok ix0 (by show d % 8 % 4 < ((4 : Nat) : Int); exact ix1)]
      exact gx
    · refine ⟨_, rfl, _, rfl, _, _, rfl, rfl, .inr ⟨_, rfl, 2, _, rfl, rfl, .inl ⟨by decide, by decide⟩, 1, _, rfl, rfl, n, _, rfl, rfl, .inr ?_, x, _, rfl, rfl, ?_⟩⟩
      · by_cases c : decide (3 < d % 8) = true
        · rw [if_pos c]
          exact ⟨by decide, by decide⟩
        · rw [if_neg c]
          exact ⟨by decide, by decide⟩
      · refine ⟨_, rfl, _, rfl, .inl ⟨_, rfl, _, 4, rfl, rfl, (by show (0 : Int) < 4; decide), l, _, _, (d % 8 % 4).toNat, rfl, rfl, upd_same, ixN_ok ix0 (by show d % 8 % 4 < ((4 : Nat) : Int); exact ix1), ?_⟩⟩
        refine ⟨_, rfl, ?_⟩
        rw [upd_upd]
        refine k _ l (sm_upd hl) hl ?_
        rw [upd_same]
        exact congrArg (fun z => some (HO.lst z)) hset
def spTurnedL (K : PySem.W.Frag) : Sp := fun vs H Q _ => ∃ (a : Addr) (q : P4) (e : Int), vs = [.ref a, .int e] ∧ SqT K H a (q.l.map V.int) ∧ NewL H (rot q e).l Q
theorem sc_turnedL : FnScope ["_law_position", "_law_eighths", "_law_found", "_law_k"] ["_law_position", "_law_eighths"] (defScope s_law_turned) := ⟨rfl, rfl, rfl, by decide +kernel, rfl, by decide +kernel, by decide +kernel⟩
theorem c_turnedL (D : Dn K mg "_law_turned" s_law_turned) (mr : mg "range" = none) (cm : Cal P w K mg base 1 "_law_move" (spMoveL K)) : Cal P w K mg base 2 "_law_turned" (spTurnedL K) := by
  refine D.cal sc_turnedL (fun vs H Q E h => ?_) (fun _ _ _ _ _ _ us hl => match us, hl with | [_, _], _ => rfl) (fun f cdv A outer s H vs Q E hr h => ?_)
  · obtain ⟨a, q, e, rfl, _⟩ := h
    rfl
  · obtain ⟨a, q, e, rfl, ha, k⟩ := h
    have nd := sc_turnedL.nd
    refine ⟨_, pss_cons (ps_set (i := 2) nd rfl (.inl rfl) (pe_lst (pa_cons pe_int (pa_cons pe_int (pa_cons pe_int (pa_cons pe_int pa_nil))))))
      (pss_cons (ps_for PassesOwn.never rfl (pi_range1 (by rfl) mr (pa_cons pe_int pa_nil)) (pg_name (i := 3) nd rfl (.inl rfl))
        (pss_one (ps_set (i := 2) nd rfl (.inl rfl) (pe_c cm hr (by decide) rfl (pa_cons (pv 2) (pa_cons (pe_op op_add (pv 3) (pv 1)) (pa_cons (pe_ix ix_tup (pv 0) (pv 3) (fun _ _ => rfl)) pa_nil)))))))
      (pss_one (ps_ret (pv 2)))), ?_⟩
    refine ⟨(by show 4 ≤ sizeLine; exact small24 (by decide)), fun l hl => ?_⟩
    refine ⟨4, rfl, by decide, by decide, for_range (lo := 0) (n := 4) (fun i σ H' => ∃ (g : Addr) (c3 : Option V), σ = [some (.ref a), some (.int e), some (.ref g), c3] ∧ Same H H' ∧ H g = none ∧ H' g = some (.lst ((tn q e i).l.map V.int)))
      ⟨l, none, rfl, sm_upd hl, hl, upd_same⟩ ?_ ?_⟩
    · rintro i σ H1 hi ⟨g, c3, rfl, s1, ng, eg⟩
      have hi4 : i < q.l.length := hi
      have en : tn q e (i + 1) = mv (tn q e i) ((0 + (i : Nat)) + e) q.l[i] := by
        show mv (tn q e i) ((i : Int) + e) (q.l.getD i 0) = _
        rw [List.getD_eq_getElem?_getD, List.getElem?_eq_getElem hi4, Int.zero_add]
        rfl
      refine ⟨_, rfl, _, rfl, _, rfl, _, _, rfl, rfl, _, rfl, _, rfl, a, _, _, .int q.l[i], rfl, rfl, sm_tup s1 ha, ?_, ?_⟩
      · rw [Int.zero_add]
        refine atI_nat ?_
        rw [List.getElem?_map, List.getElem?_eq_getElem hi4]
        rfl
      · refine ⟨g, tn q e i, _, _, rfl, SqL.of eg, fun H2 g2 s2 n2 e2 => ?_⟩
        rw [en]
        exact ⟨g2, _, rfl, s1.trans s2, s1.free n2, e2⟩
    · rintro σ H1 ⟨g, c3, rfl, s1, ng, eg⟩
      exact ⟨_, rfl, k H1 g s1 ng eg⟩
end
end Rk
end
section
set_option Elab.async false
set_option linter.all false
set_option maxRecDepth 100000
set_option maxHeartbeats 4000000
/-! The law's laid, back, led. -/
namespace Rk
open PySem PySem.Spec PyProof.Rows L2
section
variable {P : Program} {w : World} {K : PySem.W.Frag} {mg : Str → Option Value} {base : Heap}
theorem sc_laidL : FnScope ["_law_pose_here", "_law_other", "_law_place_here", "_law_k"] ["_law_pose_here", "_law_other"] (defScope s_law_laid) := ⟨rfl, rfl, rfl, by decide +kernel, rfl, by decide +kernel, by decide +kernel⟩
theorem zip_at (p : Po) (r : P4) (i : Nat) (hi : i < 4) : ∃ x y, p.vs[i]? = some (.int x) ∧ (r.l.map V.int)[i]? = some (.int y) ∧ (List.zipWith (· + ·) p.pos.l r.l)[i]? = some (x + y) := by
  obtain ⟨a, b, c, d, h⟩ := p
  obtain ⟨a', b', c', d'⟩ := r
  match i, hi with
  | 0, _ => exact ⟨_, _, rfl, rfl, rfl⟩
  | 1, _ => exact ⟨_, _, rfl, rfl, rfl⟩
  | 2, _ => exact ⟨_, _, rfl, rfl, rfl⟩
  | 3, _ => exact ⟨_, _, rfl, rfl, rfl⟩
theorem c_laidL (D : Dn K mg "_law_laid" s_law_laid) (mr : mg "range" = none) (mt : mg "tuple" = none) (mi : mg "int" = none) (ct : Cal P w K mg base 2 "_law_turned" (spTurnedL K)) : Cal P w K mg base 3 "_law_laid" (spLaid K) := by
  refine D.cal sc_laidL (fun vs H Q E h => ?_) (fun _ _ _ _ _ _ us hl => match us, hl with | [_, _], _ => rfl) (fun f cdv A outer s H vs Q E hr h => ?_)
  · obtain ⟨a, b, p, q, rfl, _⟩ := h
    rfl
  · obtain ⟨a, b, p, q, rfl, ha, hb, k⟩ := h
    have nd := sc_laidL.nd
    refine ⟨_, pss_cons (ps_set (i := 2) nd rfl (.inr rfl) (pe_c ct hr (by decide) rfl (pa_cons (pe_slice sl_tupA (pv 1) po_none (po_some pe_int)) (pa_cons (pe_ix ix_tup (pv 0) pe_int (fun _ _ => rfl)) pa_nil))))
      (pss_one (ps_ret (pe_op op_catA (pe_callTy call_tuple_of (by rfl) mt boot_tuple (pa_cons
        (pe_lc (own := [("_law_k", 3)]) (g := gName 3) (tt := tYes) (te := tOp (rI0 fun i j => .int (i + j)) (tOp (rIxT K) (tVar 0) (tVar 3)) (tOp (rIxL K) (tVar 2) (tVar 3))) (by rfl) nd (pi_range1 (by rfl) mr (pa_cons pe_int pa_nil))
          (blkOk_by (N := ["_law_pose_here", "_law_other", "_law_place_here", "_law_k"]) (sc := defScope s_law_laid) (by decide +kernel))
          (fun _ _ _ _ _ => pg_name (i := 3) nd rfl (.inl rfl)) (fun _ _ _ _ _ => pts_nil) (fun _ _ _ _ _ => pe_op op_add (pe_ix ix_tup (pv 0) (pv 3) (fun _ _ => rfl)) (pe_ix ix_list (pv 2) (pv 3) (fun _ _ => rfl)))) pa_nil))
        (pe_tup (pa_cons (pe_op op_mod (pe_callTy call_int1 (by rfl) mi boot_int (pa_cons (pe_op op_add (pe_ix ix_tup (pv 0) pe_int (fun _ _ => rfl)) (pe_ix ix_tup (pv 1) pe_int (fun _ _ => rfl))) pa_nil)) pe_int) pa_nil))))), ?_⟩
    refine ⟨_, rfl, _, rfl, ?_⟩
    dsimp only [tNoPart]
    refine ⟨b, q.vs, rfl, hb, fun z => absurd z (notAll q), fun _ t1 h1 => ?_⟩
    have s1 := sm_upd (o := .tup (cutV q.vs none (some 4))) h1
    refine ⟨_, rfl, a, p.vs, 4, .int p.h, rfl, rfl, sm_tup s1 ha, rfl, ?_⟩
    refine ⟨t1, q.pos, p.h, rfl, sqt_of upd_same, fun H3 g s3 n3 e3 => ?_⟩
    have s13 := s1.trans s3
    refine ⟨4, rfl, by decide, by decide, fun D0 hD => ?_⟩
    refine lc_range (lo := 0) (n := 4) (fun i H' => Same H3 H' ∧ H' D0 = some (.lst (((List.zipWith (· + ·) p.pos.l (rot q.pos p.h).l).take i).map V.int))) ⟨sm_upd hD, upd_same⟩ ?_ ?_
    · rintro i H4 hi ⟨s4, e4⟩
      obtain ⟨x, y, gx, gy, gz⟩ := zip_at p (rot q.pos p.h) i hi
      have ei : (0 : Int) + (i : Nat) = (i : Int) := by omega
      refine ⟨rfl, ?_⟩
      refine ⟨_, rfl, _, rfl, a, p.vs, _, .int x, rfl, rfl, sm_tup (s13.trans s4) ha, by rw [ei]; exact atI_nat gx, _, rfl, _, rfl, g, _, _, .int y, rfl, rfl, SqL.of (s4 _ _ e3), by rw [ei]; exact atI_nat gy, x, y, rfl, rfl, _, e4, ?_, sm_upd' s4 hD, ?_⟩
      · rw [List.length_map, List.length_take]
        exact lt24 (by omega)
      · rw [upd_same, take_at gz, List.map_append]
        rfl
    · rintro H4 ⟨s4, e4⟩
      refine ⟨D0, _, rfl, .inl ⟨SqL.of e4, fun t5 n5 => ?_⟩⟩
      have s5 := sm_upd (o := .tup (((List.zipWith (· + ·) p.pos.l (rot q.pos p.h).l).take 4).map V.int)) n5
      have s15 := s13.trans (s4.trans s5)
      refine ⟨_, rfl, a, p.vs, 4, .int p.h, rfl, rfl, sm_tup s15 ha, rfl, _, rfl, b, q.vs, 4, .int q.h, rfl, rfl, sm_tup s15 hb, rfl, p.h, q.h, rfl, rfl, .inl ⟨_, rfl, _, 8, rfl, rfl, (by show (0 : Int) < 8; decide), (by show 1 ≤ sizeLine; decide), fun t6 n6 => ?_⟩⟩
      have s6 := sm_upd (o := .tup [V.int ((p.h + q.h) % 8)]) n6
      refine ⟨t5, t6, _, _, rfl, rfl, sqt_of (s6 _ _ upd_same), sqt_of upd_same, (by show 4 + 1 ≤ sizeLine; decide), (fun z => by cases z), (fun _ z => by cases z), fun _ _ t7 n7 => ?_⟩
      have s16 := s15.trans s6
      exact k _ t7 (sm_updN s16 n7) (s16.free n7) upd_same
theorem sc_backL : FnScope ["_law_pose_here"] ["_law_pose_here"] (defScope s_law_back) := ⟨rfl, rfl, rfl, by decide +kernel, rfl, by decide +kernel, by decide +kernel⟩
theorem c_backL (D : Dn K mg "_law_back" s_law_back) (mi : mg "int" = none) : Cal P w K mg base 1 "_law_back" (spBack K) := by
  refine D.cal sc_backL (fun vs H Q E h => ?_) (fun _ _ _ _ _ _ us hl => match us, hl with | [_], _ => rfl) (fun f cdv A outer s H vs Q E hr h => ?_)
  · obtain ⟨a, p, rfl, _⟩ := h
    rfl
  · obtain ⟨a, p, rfl, ha, k⟩ := h
    refine ⟨_, pss_one (ps_ret (pe_op op_catA (pe_slice sl_tupA (pv 0) po_none (po_some pe_int))
      (pe_tup (pa_cons (pe_op op_mod (pe_callTy call_int1 (by rfl) mi boot_int (pa_cons (pe_op op_add (pe_ix ix_tup (pv 0) pe_int (fun _ _ => rfl)) pe_int) pa_nil)) pe_int) pa_nil)))), ?_⟩
    refine ⟨_, rfl, _, rfl, a, p.vs, rfl, ha, fun z => absurd z (notAll p), fun _ t1 h1 => ?_⟩
    have s1 := sm_upd (o := .tup (cutV p.vs none (some 4))) h1
    refine ⟨_, rfl, a, p.vs, 4, .int p.h, rfl, rfl, sm_tup s1 ha, rfl, p.h, 4, rfl, rfl, .inl ⟨_, rfl, p.h + 4, 8, rfl, rfl, (by show (0 : Int) < 8; decide), (by show 1 ≤ sizeLine; decide), fun t5 n5 => ?_⟩⟩
    have s5 := sm_upd (o := .tup [V.int ((p.h + 4) % 8)]) n5
    refine ⟨t1, t5, _, _, rfl, rfl, sqt_of (s5 _ _ upd_same), sqt_of upd_same, (by show 4 + 1 ≤ sizeLine; decide), (fun z => by cases z), (fun _ z => by cases z), fun _ _ t6 n6 => ?_⟩
    have s15 := s1.trans s5
    exact k _ t6 (sm_updN s15 n6) (s15.free n6) upd_same
end
end Rk
end
section
set_option Elab.async false
set_option linter.all false
set_option maxRecDepth 100000
set_option maxHeartbeats 4000000
/-! The law's led. -/
namespace Rk
open PySem PySem.Spec PyProof.Rows L2
theorem if_t {c : Bool} {A B : Prop} (h : c = true) (a : A) : if c = true then A else B := by
  rw [if_pos h]
  exact a
theorem if_f {c : Bool} {A B : Prop} (h : c = false) (b : B) : if c = true then A else B := by
  rw [if_neg (by rw [h]; decide)]
  exact b
theorem ledT (p : Po) (l : Lt) : (ledP p l).l ++ [ledH p l % 8] = (stp p l).l := by
  rw [← led_eq]
  rfl
section
variable {P : Program} {w : World} {K : PySem.W.Frag} {mg : Str → Option Value} {base : Heap}
def spLed (K : PySem.W.Frag) : Sp := fun vs H Q _ => ∃ (a : Addr) (p : Po) (ls : List Lt), vs = [.ref a, .str (rowS ls)] ∧ H a = some (.tup p.vs) ∧ ls.length ≤ 100 ∧ NewLL H (pths p ls) Q
theorem sc_led : FnScope ["_law_pose_here", "_law_row", "_law_found", "_law_letter", "_law_place_here", "_law_h"] ["_law_pose_here", "_law_row"] (defScope s_law_led) := ⟨rfl, rfl, rfl, by decide +kernel, rfl, by decide +kernel, by decide +kernel⟩
theorem c_led (D : Dn K mg "_law_led" s_law_led) (ml : mg "list" = none) (mt : mg "tuple" = none) (mi : mg "int" = none) (cm : Cal P w K mg base 1 "_law_move" (spMoveL K)) : Cal P w K mg base 2 "_law_led" (spLed K) := by
  refine D.cal sc_led (fun vs H Q E h => ?_) (fun _ _ _ _ _ _ us hl => match us, hl with | [_, _], _ => rfl) (fun f cdv A outer s H vs Q E hr h => ?_)
  · obtain ⟨a, p, ls, rfl, _⟩ := h
    rfl
  · obtain ⟨a, p, ls, rfl, ha, hl, k⟩ := h
    have nd := sc_led.nd
    refine ⟨_, pss_cons (ps_set (i := 2) nd rfl (.inl rfl) (pe_lst (pa_cons (pv 0) pa_nil)))
      (pss_cons (ps_for PassesOwn.never rfl (pi_str (pv 1)) (pg_name (i := 3) nd rfl (.inl rfl))
        (pss_cons (ps_set (i := 4) nd rfl (.inl rfl) (pe_callTy call_list_of (by rfl) ml boot_list (pa_cons (pe_slice sl_tupA (pe_ix ix_list (pv 2) (pe_un un_neg pe_int) (fun _ _ => rfl)) po_none (po_some pe_int)) pa_nil)))
        (pss_cons (ps_set (i := 5) nd rfl (.inl rfl) (pe_ix ix_tup (pe_ix ix_list (pv 2) (pe_un un_neg pe_int) (fun _ _ => rfl)) pe_int (fun _ _ => rfl)))
        (Evl.pss_cut (ps_if (pw_or (pt_cmpR op_eq (pv 3) pe_str (nomark _)) (pw_or1 (pt_cmpR op_eq (pv 3) pe_str (nomark _)))).pt
            (pss_one (ps_set (i := 4) nd rfl (.inl rfl) (pe_c cm hr (by decide) rfl (pa_cons (pv 4) (pa_cons (pv 5) (pa_cons (pe_op op_add pe_int (pe_callTy call_int1 (by rfl) mi boot_int (pa_cons (pe_cmpR op_eq (pv 3) pe_str (nomark _)) pa_nil))) pa_nil))))))
            (pss_one (ps_if (pt_cmpR op_eq (pv 3) pe_str (nomark _))
              (pss_cons (ps_set (i := 4) nd rfl (.inl rfl) (pe_c cm hr (by decide) rfl (pa_cons (pe_c cm hr (by decide) rfl (pa_cons (pv 4) (pa_cons (pe_op op_add (pv 5) pe_int) (pa_cons pe_int pa_nil)))) (pa_cons (pe_op op_add (pv 5) pe_int) (pa_cons pe_int pa_nil)))))
              (pss_one (ps_set (i := 5) nd rfl (.inl rfl) (pe_op op_add (pv 5) pe_int))))
              (pss_cons (ps_set (i := 4) nd rfl (.inl rfl) (pe_c cm hr (by decide) rfl (pa_cons (pe_c cm hr (by decide) rfl (pa_cons (pv 4) (pa_cons (pe_op op_add (pv 5) pe_int) (pa_cons pe_int pa_nil)))) (pa_cons (pe_op op_add (pv 5) pe_int) (pa_cons pe_int pa_nil)))))
              (pss_one (ps_set (i := 5) nd rfl (.inl rfl) (pe_op op_add (pv 5) pe_int)))))))
        (pss_one (ps_expr (pe_bm PySem.F.plainAttrs_list PySem.F.slot_list_append PySem.F.type_list_append mt_append (pv 2) (pa_cons (pe_op op_catA (pe_callTy call_tuple_of (by rfl) mt boot_tuple (pa_cons (pv 4) pa_nil))
          (pe_tup (pa_cons (pe_op op_mod (pe_callTy call_int1 (by rfl) mi boot_int (pa_cons (pv 5) pa_nil)) pe_int) pa_nil))) pa_nil))))))))
      (pss_one (ps_ret (pv 2)))), ?_⟩
    refine ⟨_, rfl, (by show 1 ≤ sizeLine; decide), fun l hl0 => ?_⟩
    have s0 := sm_upd (o := .lst [.ref a]) hl0
    refine ⟨_, rfl, rowS ls, rfl, ?_⟩
    refine for_it (walk_str (z := rowS ls)) (fun i σ H' => Same H H' ∧ ∃ (c3 c4 c5 : Option V) (acc : List V), σ = [some (.ref a), some (.str (rowS ls)), some (.ref l), c3, c4, c5] ∧ H' l = some (.lst acc) ∧ PosH H' acc (pths p (ls.take i)))
      ⟨s0, none, none, none, [.ref a], rfl, upd_same, .cons ⟨a, rfl, s0 _ _ ha⟩ .nil⟩ (fun _ _ _ _ _ => trivial) ?_ ?_
    · rintro i v σ H1 H2 hi ⟨s1, c3, c4, c5, acc, rfl, eL, hacc⟩ ⟨rfl, c, hc, rfl⟩
      obtain ⟨lt, glt, rfl⟩ := rowS_at hc
      have hacc0 := hacc
      obtain ⟨init, ei⟩ := pths_last (ls.take i) p
      rw [ei] at hacc
      obtain ⟨v, gv, g, rfl, hg⟩ := pr_last hacc
      generalize hq : pth p (ls.take i) = q at hg
      have hal : acc.length ≤ 101 := by
        rw [pr_len hacc0, pths_len, List.length_take]
        omega
      refine ⟨_, rfl, 1, rfl, l, acc, -1, .ref g, rfl, rfl, SqL.of eL, gv, ?_⟩
      refine ⟨_, rfl, g, q.vs, rfl, sqt_of hg, fun z => absurd z (notAll q), fun _ t1 n1 => ?_⟩
      have s2 := sm_upd (o := .tup (cutV q.vs none (some 4))) n1
      refine ⟨t1, _, rfl, .inr (sqt_of upd_same), fun r nr => ?_⟩
      have s3 := sm_upd (o := .lst (cutV q.vs none (some 4))) nr
      have s23 := s2.trans s3
      refine ⟨_, rfl, 1, rfl, l, acc, -1, .ref g, rfl, rfl, SqL.of (s23 _ _ eL), gv, g, q.vs, 4, .int q.h, rfl, rfl, sqt_of (s23 _ _ hg), rfl, ?_⟩
      have er : (upd (upd H2 t1 (.tup (cutV q.vs none (some 4)))) r (.lst (cutV q.vs none (some 4)))) r = some (.lst (q.pos.l.map V.int)) := upd_same
      generalize hH3 : upd (upd H2 t1 (.tup (cutV q.vs none (some 4)))) r (.lst (cutV q.vs none (some 4))) = H3 at s23 er
      refine ⟨fun σ' H' => Same H3 H' ∧ ∃ r', σ' = [some (.ref a), some (.str (rowS ls)), some (.ref l), some (.str ⟨#[lt.cp]⟩), some (.ref r'), some (.int (ledH q lt))] ∧ H' r' = some (.lst ((ledP q lt).l.map V.int)), ?_, ?_⟩
      · cases lt with
        | S =>
          refine ⟨_, rfl, rfl, _, rfl, if_t (by decide +kernel) (if_t rfl ?_)⟩
          refine ⟨_, rfl, _, rfl, _, rfl, rfl, .inr ⟨_, rfl, _, _, rfl, rfl, r, q.pos, q.h, 2, ?_, SqL.of er, fun H4 r4 s4 n4 e4 => ⟨s4, r4, rfl, e4⟩⟩⟩
          exact congrArg (fun z => [V.ref r, V.int q.h, V.int z]) (by decide +kernel : (1 + (if decide (V.str ⟨#[Lt.S.cp]⟩ = V.str "S") = true then 1 else 0) : Int) = 2)
        | H =>
          refine ⟨_, rfl, rfl, _, rfl, if_f (by decide +kernel) ⟨_, rfl, rfl, _, rfl, if_t (by decide +kernel) ?_⟩⟩
          refine ⟨_, rfl, _, rfl, _, rfl, rfl, .inr ⟨_, rfl, _, _, rfl, rfl, r, q.pos, q.h, 1, ?_, SqL.of er, fun H4 r4 s4 n4 e4 => ⟨s4, r4, rfl, e4⟩⟩⟩
          exact congrArg (fun z => [V.ref r, V.int q.h, V.int z]) (by decide +kernel : (1 + (if decide (V.str ⟨#[Lt.H.cp]⟩ = V.str "S") = true then 1 else 0) : Int) = 1)
        | L =>
          refine ⟨_, rfl, rfl, _, rfl, if_f (by decide +kernel) ⟨_, rfl, rfl, _, rfl, if_f (by decide +kernel) ⟨_, rfl, rfl, _, rfl, if_t (by decide +kernel) ?_⟩⟩⟩
          refine ⟨_, rfl, _, rfl, _, _, rfl, rfl, r, q.pos, _, _, rfl, SqL.of er, fun H4 r4 s4 n4 e4 => ?_⟩
          refine ⟨_, rfl, _, _, rfl, rfl, r4, mv q.pos (q.h + 2) 2, _, _, rfl, SqL.of e4, fun H5 r5 s5 n5 e5 => ?_⟩
          exact ⟨_, rfl, _, _, rfl, rfl, s4.trans s5, r5, rfl, e5⟩
        | R =>
          refine ⟨_, rfl, rfl, _, rfl, if_f (by decide +kernel) ⟨_, rfl, rfl, _, rfl, if_f (by decide +kernel) ⟨_, rfl, rfl, _, rfl, if_f (by decide +kernel) ?_⟩⟩⟩
          refine ⟨_, rfl, _, rfl, _, _, rfl, rfl, r, q.pos, _, _, rfl, SqL.of er, fun H4 r4 s4 n4 e4 => ?_⟩
          refine ⟨_, rfl, _, _, rfl, rfl, r4, mv q.pos (q.h + 1) 2, _, _, rfl, SqL.of e4, fun H5 r5 s5 n5 e5 => ?_⟩
          exact ⟨_, rfl, _, _, rfl, rfl, s4.trans s5, r5, rfl, e5⟩
      · rintro σ' H4 ⟨s4, r', rfl, er'⟩
        have s24 := s23.trans s4
        refine ⟨_, rfl, .inl ⟨rfl, _, SqL.of (s24 _ _ eL)⟩, _, rfl, r', _, rfl, .inl ⟨SqL.of er', fun t5 n5 => ?_⟩⟩
        have s5 := sm_upd (o := .tup ((ledP q lt).l.map V.int)) n5
        refine ⟨_, rfl, .inl ⟨_, rfl, _, 8, rfl, rfl, (by show (0 : Int) < 8; decide), (by show 1 ≤ sizeLine; decide), fun t6 n6 => ?_⟩⟩
        have s6 := sm_upd (o := .tup [V.int (ledH q lt % 8)]) n6
        refine ⟨t5, t6, _, _, rfl, rfl, sqt_of (s6 _ _ upd_same), sqt_of upd_same, (by show 4 + 1 ≤ sizeLine; decide), (fun z => by cases z), (fun _ z => by cases z), fun _ _ t7 n7 => ?_⟩
        have et7 : ∀ Hz : Hp, (upd Hz t7 (.tup ((ledP q lt).l.map V.int ++ [V.int (ledH q lt % 8)]))) t7 = some (.tup (stp q lt).vs) := fun Hz => by
          rw [upd_same]
          unfold Po.vs
          rw [← ledT, List.map_append]
          rfl
        have s7 := sm_upd (o := .tup ((ledP q lt).l.map V.int ++ [V.int (ledH q lt % 8)])) n7
        have s27 := s24.trans (s5.trans (s6.trans s7))
        have eL7 := s27 _ _ eL
        refine ⟨l, acc, .ref t7, rfl, rfl, eL7, lt24 (by omega), sm_upd' (s1.trans s27) hl0, _, _, _, acc ++ [.ref t7], rfl, upd_same, ?_⟩
        rw [take_at glt, pths_snoc, pth_snoc, hq]
        have tk7 : Tk H2 (upd _ l (.lst (acc ++ [.ref t7]))) := (sm_tk s27).trans (tk_lst eL7)
        exact pr_snoc (hacc0.tk tk7) ⟨t7, rfl, tk_lst eL7 _ _ (et7 _)⟩
    · rintro σ H1 ⟨s1, c3, c4, c5, acc, rfl, eL, hacc⟩
      rw [rowS_size, List.take_length] at hacc
      exact ⟨_, rfl, k H1 l acc s1 hl0 eL hacc⟩
end
end Rk
end
section
set_option Elab.async false
set_option linter.all false
set_option maxRecDepth 100000
set_option maxHeartbeats 4000000
/-! The law's ends_of. -/
namespace Rk
open PySem PySem.Spec PyProof.Rows L2
def rowsK (l1 l2 l3 l4 l5 l6 : Addr) : List (Key × V) := [(.inr "S", .ref l1), (.inr "H", .ref l2), (.inr "C", .ref l3), (.inr "P", .ref l4), (.inr "Q", .ref l5), (.inr "X", .ref l6)]
def rowsA (l1 l2 l3 l4 l5 l6 : Addr) : Kd → Addr
  | .S => l1
  | .H => l2
  | .C => l3
  | .P => l4
  | .Q => l5
  | .X => l6
theorem rows_get (l1 l2 l3 l4 l5 l6 : Addr) (k : Kd) : valV (mergeK [] (rowsK l1 l2 l3 l4 l5 l6)) (.inr k.str) = some (.ref (rowsA l1 l2 l3 l4 l5 l6 k)) := by
  unfold mergeK rowsK
  simp only [List.foldl_cons, List.foldl_nil, valV_put]
  cases k
  · rw [if_neg (by decide +kernel), if_neg (by decide +kernel), if_neg (by decide +kernel), if_neg (by decide +kernel), if_neg (by decide +kernel), if_pos (by decide +kernel)]
    rfl
  · rw [if_neg (by decide +kernel), if_neg (by decide +kernel), if_neg (by decide +kernel), if_neg (by decide +kernel), if_pos (by decide +kernel)]
    rfl
  · rw [if_neg (by decide +kernel), if_neg (by decide +kernel), if_neg (by decide +kernel), if_pos (by decide +kernel)]
    rfl
  · rw [if_neg (by decide +kernel), if_neg (by decide +kernel), if_pos (by decide +kernel)]
    rfl
  · rw [if_neg (by decide +kernel), if_pos (by decide +kernel)]
    rfl
  · rw [if_pos (by decide +kernel)]
    rfl
theorem rowS_one (l : Lt) : rowS [l] = l.str := rfl
section
variable {P : Program} {w : World} {K : PySem.W.Frag} {mg : Str → Option Value} {base : Heap}
def spEndsL : Sp := fun vs H Q _ => ∃ (k : Kd) (a : Addr) (p : Po), vs = [.str k.str, .ref a] ∧ H a = some (.tup p.vs) ∧ NewLL H (endsOf k p) Q
theorem sc_endsL : FnScope ["_law_kind", "_law_pose_here", "_law_rows", "_law_found", "_law_row", "_law_place_here"] ["_law_kind", "_law_pose_here"] (defScope s_law_ends_of) := ⟨rfl, rfl, rfl, by decide +kernel, rfl, by decide +kernel, by decide +kernel⟩
theorem c_endsL (D : Dn K mg "_law_ends_of" s_law_ends_of) (cb : Cal P w K mg base 1 "_law_back" (spBack K)) (cd : Cal P w K mg base 2 "_law_led" (spLed K)) (cl : Cal P w K mg base 3 "_law_laid" (spLaid K)) : Cal P w K mg base 4 "_law_ends_of" spEndsL := by
  refine D.cal sc_endsL (fun vs H Q E h => ?_) (fun _ _ _ _ _ _ us hl => match us, hl with | [_, _], _ => rfl) (fun f cdv A outer s H vs Q E hr h => ?_)
  · obtain ⟨k, a, p, rfl, _⟩ := h
    rfl
  · obtain ⟨k, a, p, rfl, ha, q⟩ := h
    have nd := sc_endsL.nd
    refine ⟨_, pss_cons (ps_set (i := 2) nd rfl (.inl rfl) (pe_disp
        (pps_cons pe_str (pe_lst (pa_cons pe_str pa_nil)) (pps_cons pe_str (pe_lst (pa_cons pe_str pa_nil)) (pps_cons pe_str (pe_lst (pa_cons pe_str pa_nil)) (pps_cons pe_str (pe_lst (pa_cons pe_str (pa_cons pe_str pa_nil)))
          (pps_cons pe_str (pe_lst (pa_cons pe_str (pa_cons pe_str pa_nil))) (pps_cons pe_str (pe_lst pa_nil) pps_nil)))))) rfl rfl (by decide) (by decide)))
      (pss_cons (ps_set (i := 3) nd rfl (.inl rfl) (pe_op op_cat (pe_lst (pa_cons (pe_c cb hr (by decide) rfl (pa_cons (pv 1) pa_nil)) pa_nil))
        (pe_lc (own := [("_law_row", 4)]) (g := gName 4) (tt := tYes) (te := tOp (rIxL K) (tCall (spLed K) [] E0 (tCons (tVar 1) (tCons (tVar 4) tNil))) (tUn (rU fun i => .int (-i)) (tC (.int 1)))) (by rfl) nd
          (pi_list (pe_dget (Rm.u1 hr) (pv 2) (pv 0) (fun _ _ => rfl)))
          (blkOk_by (N := ["_law_kind", "_law_pose_here", "_law_rows", "_law_found", "_law_row", "_law_place_here"]) (sc := defScope s_law_ends_of) (by decide +kernel))
          (fun _ _ _ _ _ => pg_name (i := 4) nd rfl (.inl rfl)) (fun _ _ _ _ _ => pts_nil) (fun _ _ _ _ _ => pe_ix ix_list (pe_c cd hr (by decide) rfl (pa_cons (pv 1) (pa_cons (pv 4) pa_nil))) (pe_un un_neg pe_int) (fun _ _ => rfl)))))
      (pss_cons (ps_if (pt_cmpR op_eq (pv 0) pe_str (nomark _))
        (pss_one (ps_set (i := 3) nd rfl (.inl rfl) (pe_op op_cat (pv 3)
          (pe_lc (own := [("_law_place_here", 5)]) (g := gName 5) (tt := tYes) (by rfl) nd
            (pi_list (pe_lst (pa_cons (pe_tup (pa_cons pe_int (pa_cons pe_int (pa_cons pe_int (pa_cons pe_int (pa_cons pe_int pa_nil)))))) (pa_cons (pe_tup (pa_cons pe_int (pa_cons pe_int (pa_cons pe_int (pa_cons pe_int (pa_cons pe_int pa_nil))))))
              (pa_cons (pe_tup (pa_cons pe_int (pa_cons pe_int (pa_cons (pe_un un_neg pe_int) (pa_cons pe_int (pa_cons pe_int pa_nil)))))) pa_nil)))))
            (blkOk_by (N := ["_law_kind", "_law_pose_here", "_law_rows", "_law_found", "_law_row", "_law_place_here"]) (sc := defScope s_law_ends_of) (by decide +kernel))
            (fun _ _ _ _ _ => pg_name (i := 5) nd rfl (.inl rfl)) (fun _ _ _ _ _ => pts_nil) (fun _ _ _ _ _ => pe_c cl hr (by decide) rfl (pa_cons (pv 1) (pa_cons (pv 5) pa_nil))))))) pss_nil)
      (pss_one (ps_ret (pv 3))))), ?_⟩
    intro d hd
    have s0 := sm_upd (o := .dK []) hd
    refine ⟨by show 1 ≤ sizeLine; decide, fun l1 h1 => ?_⟩
    have s1 := sm_upd (o := .lst [.str "S"]) h1
    refine ⟨by show 1 ≤ sizeLine; decide, fun l2 h2 => ?_⟩
    have s2 := sm_upd (o := .lst [.str "H"]) h2
    refine ⟨by show 1 ≤ sizeLine; decide, fun l3 h3 => ?_⟩
    have s3 := sm_upd (o := .lst [.str "L"]) h3
    refine ⟨by show 2 ≤ sizeLine; decide, fun l4 h4 => ?_⟩
    have s4 := sm_upd (o := .lst [.str "S", .str "L"]) h4
    refine ⟨by show 2 ≤ sizeLine; decide, fun l5 h5 => ?_⟩
    have s5 := sm_upd (o := .lst [.str "S", .str "R"]) h5
    refine ⟨Nat.zero_le _, fun l6 h6 => ?_⟩
    have s6 := sm_upd (o := .lst []) h6
    have s56 := s5.trans s6
    have s46 := s4.trans s56
    have s36 := s3.trans s46
    have s26 := s2.trans s36
    have s16 := s1.trans s26
    refine ⟨s16 _ _ upd_same, rowsK l1 l2 l3 l4 l5 l6, rfl, (by show 6 ≤ 15; decide), ?_⟩
    have g1 := s26 _ _ (upd_same (H := upd H d (.dK [])) (a := l1) (o := .lst [.str "S"]))
    have row : ∃ G : Hp, G = upd (upd (upd (upd (upd (upd (upd H d (.dK [])) l1 (.lst [.str "S"])) l2 (.lst [.str "H"])) l3 (.lst [.str "L"])) l4 (.lst [.str "S", .str "L"])) l5 (.lst [.str "S", .str "R"])) l6 (.lst []) ∧
        Same (upd H d (.dK [])) G ∧ G d = some (.dK []) ∧ G (rowsA l1 l2 l3 l4 l5 l6 k) = some (.lst ((endRows k).map fun l => V.str l.str)) := by
      refine ⟨_, rfl, s16, s16 _ _ upd_same, ?_⟩
      cases k
      · exact s26 _ _ upd_same
      · exact s36 _ _ upd_same
      · exact s46 _ _ upd_same
      · exact s56 _ _ upd_same
      · exact s6 _ _ upd_same
      · exact upd_same
    obtain ⟨G, eG, sG, dG, rG⟩ := row
    have eG2 : upd (upd (upd (upd (upd (upd (upd H d (.dK [])) l1 (.lst [.str "S"])) l2 (.lst [.str "H"])) l3 (.lst [.str "L"])) l4 (.lst [.str "S", .str "L"])) l5 (.lst [.str "S", .str "R"])) l6 (.lst []) = G := eG.symm
    show gName 2 (.ref d) _ (upd (upd (upd (upd (upd (upd (upd (upd H d (.dK [])) l1 (.lst [.str "S"])) l2 (.lst [.str "H"])) l3 (.lst [.str "L"])) l4 (.lst [.str "S", .str "L"])) l5 (.lst [.str "S", .str "R"])) l6 (.lst [])) d (.dK (mergeK [] (rowsK l1 l2 l3 l4 l5 l6)))) _
    rw [eG2]
    have sA : Same H (upd G d (.dK (mergeK [] (rowsK l1 l2 l3 l4 l5 l6)))) := sm_upd' (s0.trans sG) hd
    have nrd : rowsA l1 l2 l3 l4 l5 l6 k ≠ d := fun z => by
      rw [z, dG] at rG
      cases rG
    have dA : (upd G d (.dK (mergeK [] (rowsK l1 l2 l3 l4 l5 l6)))) d = some (.dK (mergeK [] (rowsK l1 l2 l3 l4 l5 l6))) := upd_same
    have rA : (upd G d (.dK (mergeK [] (rowsK l1 l2 l3 l4 l5 l6)))) (rowsA l1 l2 l3 l4 l5 l6 k) = some (.lst ((endRows k).map fun l => V.str l.str)) := (upd_ne nrd).trans rG
    generalize upd G d (.dK (mergeK [] (rowsK l1 l2 l3 l4 l5 l6))) = GA at sA dA rA
    have gd : DGet GA d (.str k.str) (some (.ref (rowsA l1 l2 l3 l4 l5 l6 k))) := by
      have z := DGet.k (k := .inr k.str) dA
      rw [rows_get] at z
      exact z
    generalize rowsA l1 l2 l3 l4 l5 l6 k = rk at rA gd
    have elen : (endRows k).length ≤ 2 := by cases k <;> decide
    refine ⟨_, rfl, a, p, rfl, sqt_of (sA _ _ ha), fun H1 b sb nb eb => ⟨by show 1 ≤ sizeLine; decide, fun l0 n0 => ?_⟩⟩
    have sc := sm_upd (o := .lst [.ref b]) n0
    have sbc := sb.trans sc
    have gd2 : DGet (upd H1 l0 (.lst [.ref b])) d (.str k.str) (some (.ref rk)) := by
      rcases gd with ⟨kvs, k', e, ey, l⟩ | ⟨_, _, _, _, ey, _⟩
      · refine .inl ⟨kvs, k', ?_, ey, l⟩
        rcases e with e | ⟨o, e⟩
        · exact .inl (sbc _ _ e)
        · exact .inr ⟨o, sbc _ _ e⟩
      · cases ey
    refine ⟨_, rfl, _, rfl, d, .ref rk, rfl, gd2, rk, rfl, ⟨_, SqL.of (sbc _ _ rA)⟩, fun D0 hD => ?_⟩
    have sAc := sA.trans sbc
    have r2 := sbc _ _ rA
    refine lc_it (walk_list (K := K) (a := rk) (xs := (endRows k).map fun l => V.str l.str)) (fun i H' => Same (upd H1 l0 (.lst [.ref b])) H' ∧ ∃ acc, H' D0 = some (.lst acc) ∧ PosH H' acc (((endRows k).map (stp p)).take i))
      ⟨sm_upd hD, [], upd_same, .nil⟩ (fun i H' _ z => SqL.of (z.1 _ _ r2)) ?_ ?_
    · rintro i v H4 H5 hi ⟨s4', acc, eD, hacc⟩ ⟨rfl, gx⟩
      rw [List.getElem?_map] at gx
      cases gl : (endRows k)[i]? with
      | none =>
        rw [gl] at gx
        cases gx
      | some lt =>
        rw [gl] at gx
        obtain rfl : V.str lt.str = v := Option.some.inj gx
        refine ⟨rfl, ?_⟩
        have sA4 := sAc.trans s4'
        refine ⟨_, rfl, _, rfl, a, p, [lt], rfl, sA4 _ _ ha, (by show 1 ≤ 100; decide), fun H6 t6 xs6 s6' n6 e6 hxs6 => ?_⟩
        obtain ⟨x6, gv, g, rfl, hg⟩ := pr_last (ys := [p]) (y := stp p lt) hxs6
        have eD6 := s6' _ _ eD
        have hal : acc.length ≤ 2 := by
          rw [pr_len hacc, List.length_take, List.length_map]
          omega
        have tk7 : Tk H6 (upd H6 D0 (.lst (acc ++ [.ref g]))) := tk_lst eD6
        refine ⟨1, rfl, t6, xs6, -1, .ref g, rfl, rfl, SqL.of e6, gv, acc, eD6, lt24 (by omega), sm_upd' (s4'.trans s6') hD, acc ++ [.ref g], upd_same, ?_⟩
        rw [take_at (x := stp p lt) (by rw [List.getElem?_map, gl]; rfl)]
        exact pr_snoc (hacc.tk ((sm_tk s6').trans tk7)) ⟨g, rfl, tk7 _ _ hg⟩
    · rintro H4 ⟨s4', acc, eD, hacc⟩
      rw [List.length_map, show (endRows k).length = ((endRows k).map (stp p)).length by rw [List.length_map], List.take_length] at hacc
      have hal : acc.length ≤ 2 := by
        rw [pr_len hacc, List.length_map]
        exact elen
      have e0 := s4' _ _ (upd_same (H := H1) (a := l0) (o := .lst [.ref b]))
      refine ⟨l0, D0, [.ref b], acc, rfl, rfl, e0, eD, small24 (by show 1 + _ ≤ _; omega), fun t nt => ?_⟩
      have st := sm_upd (o := .lst ([.ref b] ++ acc)) nt
      have sAt := (sAc.trans s4').trans st
      have hx : PosH (upd H4 t (.lst ([.ref b] ++ acc))) ([.ref b] ++ acc) (back p :: (endRows k).map (stp p)) := .cons ⟨b, rfl, (sc.trans (s4'.trans st)) _ _ eb⟩ (hacc.tk (sm_tk st))
      have nH : H t = none := (sAc.trans s4').free nt
      have et : (upd H4 t (.lst ([.ref b] ++ acc))) t = some (.lst ([.ref b] ++ acc)) := upd_same
      generalize upd H4 t (.lst ([.ref b] ++ acc)) = G2 at sAt hx et
      refine ⟨_, rfl, rfl, _, rfl, ite2 (fun c => ?_) (fun c => ?_)⟩
      · have ek : k = .X := by
          revert c
          cases k <;> first | exact fun _ => rfl | exact fun c => absurd (of_decide_eq_true c) (by decide +kernel)
        subst ek
        refine ⟨_, rfl, (by show 5 ≤ sizeLine; decide), fun u1 m1 => ⟨(by show 5 ≤ sizeLine; decide), fun u2 m2 => ?_⟩⟩
        have w1 := sm_upd (o := .tup [.int 2, .int 0, .int 0, .int 0, .int 0]) m1
        have w2 := sm_upd (o := .tup [.int 1, .int 0, .int 1, .int 0, .int 2]) m2
        refine ⟨1, rfl, (by show 5 ≤ sizeLine; decide), fun u3 m3 => ⟨(by show 3 ≤ sizeLine; decide), fun l3 m4 => ?_⟩⟩
        have w3 := sm_upd (o := .tup [.int 1, .int 0, .int (-1), .int 0, .int 6]) m3
        have w4 := sm_upd (o := .lst [.ref u1, .ref u2, .ref u3]) m4
        have w34 := w3.trans w4
        have w24 := w2.trans w34
        have w14 := w1.trans w24
        have pX : PosH (upd (upd (upd (upd G2 u1 (.tup [.int 2, .int 0, .int 0, .int 0, .int 0])) u2 (.tup [.int 1, .int 0, .int 1, .int 0, .int 2])) u3 (.tup [.int 1, .int 0, .int (-1), .int 0, .int 6])) l3 (.lst [.ref u1, .ref u2, .ref u3])) [.ref u1, .ref u2, .ref u3] (others .X) :=
          .cons ⟨u1, rfl, w24 _ _ upd_same⟩ (.cons ⟨u2, rfl, w34 _ _ upd_same⟩ (.cons ⟨u3, rfl, w4 _ _ upd_same⟩ .nil))
        have e4 : (upd (upd (upd (upd G2 u1 (.tup [.int 2, .int 0, .int 0, .int 0, .int 0])) u2 (.tup [.int 1, .int 0, .int 1, .int 0, .int 2])) u3 (.tup [.int 1, .int 0, .int (-1), .int 0, .int 6])) l3 (.lst [.ref u1, .ref u2, .ref u3])) l3 = some (.lst [.ref u1, .ref u2, .ref u3]) := upd_same
        dsimp only
        generalize upd (upd (upd (upd G2 u1 (.tup [.int 2, .int 0, .int 0, .int 0, .int 0])) u2 (.tup [.int 1, .int 0, .int 1, .int 0, .int 2])) u3 (.tup [.int 1, .int 0, .int (-1), .int 0, .int 6])) l3 (.lst [.ref u1, .ref u2, .ref u3]) = G3 at w14 pX e4
        have sA3 := sAt.trans w14
        refine ⟨l3, rfl, ⟨_, SqL.of e4⟩, fun D1 hD1 => ?_⟩
        refine lc_it (walk_list (K := K) (a := l3) (xs := [.ref u1, .ref u2, .ref u3])) (fun i H' => Same G3 H' ∧ ∃ acc2, H' D1 = some (.lst acc2) ∧ PosH H' acc2 (((others .X).map (laid p)).take i))
          ⟨sm_upd hD1, [], upd_same, .nil⟩ (fun i H' _ z => SqL.of (z.1 _ _ e4)) ?_ ?_
        · rintro i v H5 H6 hi ⟨s5', acc2, eD, hacc2⟩ ⟨rfl, gx⟩
          obtain ⟨o, go, g, rfl, hg⟩ := pr_get pX gx
          refine ⟨rfl, ?_⟩
          refine ⟨_, rfl, _, rfl, a, g, p, o, rfl, sqt_of ((sA3.trans s5') _ _ ha), sqt_of (s5' _ _ hg), fun H7 g7 s7' n7 e7 => ?_⟩
          have eD7 := s7' _ _ eD
          have hal2 : acc2.length ≤ 3 := by
            rw [pr_len hacc2, List.length_take, List.length_map]
            show min i 3 ≤ 3
            omega
          have tk7 : Tk H7 (upd H7 D1 (.lst (acc2 ++ [.ref g7]))) := tk_lst eD7
          refine ⟨acc2, eD7, lt24 (by omega), sm_upd' (s5'.trans s7') hD1, acc2 ++ [.ref g7], upd_same, ?_⟩
          rw [take_at (x := laid p o) (by rw [List.getElem?_map, go]; rfl)]
          exact pr_snoc (hacc2.tk ((sm_tk s7').trans tk7)) ⟨g7, rfl, tk7 _ _ e7⟩
        · rintro H5 ⟨s5', acc2, eD, hacc2⟩
          have hl2 : acc2.length = 3 := pr_len hacc2
          have et5 := (w14.trans s5') _ _ et
          refine ⟨t, D1, [.ref b] ++ acc, acc2, rfl, rfl, et5, eD, small24 (by rw [List.length_append]; show 1 + _ + _ ≤ _; omega), fun t6 n6 => ?_⟩
          have s6' := sm_upd (o := .lst (([.ref b] ++ acc) ++ acc2)) n6
          have sF := (sA3.trans s5').trans s6'
          refine ⟨_, rfl, q _ t6 _ sF ((sA3.trans s5').free n6) upd_same ?_⟩
          exact pr_app (hx.tk (sm_tk ((w14.trans s5').trans s6'))) (hacc2.tk (sm_tk s6'))
      · have nk : k ≠ .X := fun z => by
          subst z
          exact c (by decide +kernel)
        rw [ends_led k nk p] at hx
        exact ⟨_, rfl, q G2 t _ sAt nH et hx⟩
end
end Rk
end
section
set_option Elab.async false
set_option linter.all false
set_option maxRecDepth 100000
set_option maxHeartbeats 4000000
/-! The law's all_ends. -/
namespace Rk
open PySem PySem.Spec PyProof.Rows L2
def rInt1 : List V → Hp → VK → Prop := fun xs H Q => (∃ i, xs = [.int i] ∧ Q (.int i) H) ∨ ∃ k, xs = [.bl k] ∧ Q (.int (if k then 1 else 0)) H
theorem call_int2 {X : Cx} : CallR X (.type "int") rInt1 := call_int1
/-- a row [number, end, pose], a list that H0 has not -/
def RwH (H0 H : Hp) (v : V) (z : Nat × Nat × Po) : Prop := ∃ t q, v = .ref t ∧ H0 t = none ∧ H t = some (.lst [.int (z.1 : Nat), .int (z.2.1 : Nat), .ref q]) ∧ H q = some (.tup z.2.2.vs)
theorem RwH.sm {H0 H H' : Hp} {v : V} {z : Nat × Nat × Po} (s : Same H H') (h : RwH H0 H v z) : RwH H0 H' v z := by
  obtain ⟨t, q, e, n, h1, h2⟩ := h
  exact ⟨t, q, e, n, s _ _ h1, s _ _ h2⟩
abbrev RwsH (H0 H : Hp) : List V → List (Nat × Nat × Po) → Prop := Paired (RwH H0 H)
theorem RwsH.sm {H0 H H' : Hp} {vs : List V} {l : List (Nat × Nat × Po)} (s : Same H H') (h : RwsH H0 H vs l) : RwsH H0 H' vs l := Paired.mapP h fun _ _ z => z.sm s
section
variable {P : Program} {w : World} {K : PySem.W.Frag} {mg : Str → Option Value} {base : Heap}
def spAllL : Sp := fun vs H Q _ => ∃ (a : Addr) (y : Lay), vs = [.ref a] ∧ LayL H a y ∧ y.length ≤ 1000 ∧ ∀ H' t xs, Same H H' → H t = none → H' t = some (.lst xs) → RwsH H H' xs (allEnds y) → Q (.ref t) H'
theorem sc_allL : FnScope ["_law_layout", "_law_found", "_law_number", "_law_ends", "_law_k"] ["_law_layout"] (defScope s_law_all_ends) := ⟨rfl, rfl, rfl, by decide +kernel, rfl, by decide +kernel, by decide +kernel⟩
theorem c_allL (D : Dn K mg "_law_all_ends" s_law_all_ends) (mr : mg "range" = none) (ml : mg "len" = none) (mi : mg "int" = none) (ce : Cal P w K mg base 4 "_law_ends_of" spEndsL) : Cal P w K mg base 5 "_law_all_ends" spAllL := by
  refine D.cal sc_allL (fun vs H Q E h => ?_) (fun _ _ _ _ _ _ us hl => match us, hl with | [_], _ => rfl) (fun f cdv A outer s H vs Q E hr h => ?_)
  · obtain ⟨a, y, rfl, _⟩ := h
    rfl
  · obtain ⟨a, y, rfl, ⟨pvs, ha, hp⟩, hy, q⟩ := h
    have nd := sc_allL.nd
    refine ⟨_, pss_cons (ps_set (i := 1) nd rfl (.inl rfl) (pe_lst pa_nil))
      (pss_cons (ps_for PassesOwn.never rfl (pi_range1 (by rfl) mr (pa_cons (pe_callB call_len_seq (by rfl) ml PySem.boot_len (pa_cons (pv 0) pa_nil)) pa_nil)) (pg_name (i := 2) nd rfl (.inr rfl))
        (pss_one (ps_if (pt_cmpR op_notN1 (pe_ix ix_list (pv 0) (pv 2) (fun _ _ => rfl)) pe_non (nomark _))
          (pss_cons (ps_set (i := 3) nd rfl (.inr rfl) (pe_c ce hr (by decide) rfl (pa_cons (pe_ix ix_tup (pe_ix ix_list (pv 0) (pv 2) (fun _ _ => rfl)) pe_int (fun _ _ => rfl)) (pa_cons (pe_ix ix_tup (pe_ix ix_list (pv 0) (pv 2) (fun _ _ => rfl)) pe_int (fun _ _ => rfl)) pa_nil))))
          (pss_one (ps_set (i := 1) nd rfl (.inl rfl) (pe_op op_cat (pv 1)
            (pe_lc (own := [("_law_k", 4)]) (g := gName 4) (tt := tYes) (te := tLst (tCons (tCB rInt1 (tCons (tVar 2) tNil)) (tCons (tCB rInt1 (tCons (tVar 4) tNil)) (tCons (tOp (rIxL K) (tVar 3) (tVar 4)) tNil)))) (by rfl) nd
              (pi_range1 (by rfl) mr (pa_cons (pe_callB call_len_seq (by rfl) ml PySem.boot_len (pa_cons (pv 3) pa_nil)) pa_nil))
              (blkOk_by (N := ["_law_layout", "_law_found", "_law_number", "_law_ends", "_law_k"]) (sc := defScope s_law_all_ends) (by decide +kernel))
              (fun _ _ _ _ _ => pg_name (i := 4) nd rfl (.inl rfl)) (fun _ _ _ _ _ => pts_nil)
              (fun _ _ _ _ _ => pe_lst (pa_cons (pe_callTy call_int2 (by rfl) mi boot_int (pa_cons (pv 2) pa_nil)) (pa_cons (pe_callTy call_int2 (by rfl) mi boot_int (pa_cons (pv 4) pa_nil)) (pa_cons (pe_ix ix_list (pv 3) (pv 4) (fun _ _ => rfl)) pa_nil)))))))))
          pss_nil)))
      (pss_one (ps_ret (pv 1)))), ?_⟩
    have hlen : pvs.length = y.length := pr_len hp
    refine ⟨Nat.zero_le _, fun l0 hl0 => ?_⟩
    have s0 := sm_upd (o := .lst []) hl0
    refine ⟨_, rfl, a, pvs, rfl, .inl (SqL.of (s0 _ _ ha)), pvs.length, rfl, by omega, by omega, ?_⟩
    refine for_range (lo := 0) (n := pvs.length) (fun i σ H' => Same H H' ∧ ∃ (l : Addr) (acc : List V) (c2 c3 c4 : Option V), σ = [some (.ref a), some (.ref l), c2, c3, c4] ∧ H l = none ∧ H' l = some (.lst acc) ∧ RwsH H H' acc (allEnds (y.take i)))
      ⟨s0, l0, [], none, none, none, rfl, hl0, upd_same, .nil⟩ ?_ ?_
    · rintro i σ H1 hi ⟨s1, l, acc, c2, c3, c4, rfl, nl, eL, hacc⟩
      obtain ⟨pc, gpc, hpc⟩ := pr_get hp (List.getElem?_eq_getElem hi)
      have ei : (0 : Int) + (i : Nat) = (i : Int) := by omega
      have at1 : atI pvs (0 + (i : Nat)) = some pvs[i] := by
        rw [ei]
        exact atI_nat (List.getElem?_eq_getElem hi)
      have hpc1 := hpc.tk (sm_tk s1)
      refine ⟨_, rfl, _, rfl, a, pvs, _, pvs[i], rfl, rfl, SqL.of (s1 _ _ ha), at1, rfl, ?_⟩
      generalize pvs[i] = v at hpc hpc1 at1
      cases pc with
      | none =>
        obtain rfl : v = .non := hpc
        refine ⟨_, rfl, s1, l, acc, _, _, _, rfl, nl, eL, ?_⟩
        rw [all_take gpc]
        show RwsH _ _ _ (_ ++ [])
        rw [List.append_nil]
        exact hacc
      | some pc =>
        obtain ⟨t, qa, rfl, h1, h2⟩ := hpc1
        refine ⟨_, rfl, ?_⟩
        refine ⟨_, rfl, _, rfl, a, pvs, _, .ref t, rfl, rfl, SqL.of (s1 _ _ ha), at1, t, _, 0, .str pc.1.str, rfl, rfl, sqt_of h1, rfl, _, rfl, _, rfl, a, pvs, _, .ref t, rfl, rfl, SqL.of (s1 _ _ ha), at1, t, _, 1, .ref qa, rfl, rfl, sqt_of h1, rfl, pc.1, qa, pc.2, rfl, h2, fun H3 te exs s3 n3 e3 hexs => ?_⟩
        have elen : exs.length = (endsOf pc.1 pc.2).length := pr_len hexs
        have e4 := (ends_len pc.1 pc.2).1
        have s13 := s1.trans s3
        refine ⟨_, rfl, _, rfl, te, exs, rfl, .inl (SqL.of e3), exs.length, rfl, by omega, by omega, fun D0 hD => ?_⟩
        refine lc_range (lo := 0) (n := exs.length) (fun j H' => Same H3 H' ∧ ∃ acc2, H' D0 = some (.lst acc2) ∧ RwsH H H' acc2 ((pcRows i (some pc)).take j))
          ⟨sm_upd hD, [], upd_same, .nil⟩ ?_ ?_
        · rintro j H4 hj ⟨s4, acc2, eD, hacc2⟩
          obtain ⟨p, gp, qp, ev, hqp⟩ := pr_get hexs (List.getElem?_eq_getElem hj)
          have ej : (0 : Int) + (j : Nat) = (j : Int) := by omega
          have s14 := s13.trans s4
          refine ⟨rfl, ?_⟩
          refine ⟨_, rfl, .inl ⟨_, rfl, _, rfl, .inl ⟨_, rfl, _, rfl, _, rfl, te, exs, _, .ref qp, rfl, rfl, SqL.of (s4 _ _ e3), ?_, (by show 3 ≤ sizeLine; decide), fun g ng => ?_⟩⟩⟩
          · rw [ej]
            refine atI_nat ?_
            rw [List.getElem?_eq_getElem hj, ev]
          · have s5 := sm_upd (o := .lst [.int (i : Nat), .int (j : Nat), .ref qp]) ng
            have eD5 := s5 _ _ eD
            have ngD : g ≠ D0 := fun z => by
              rw [z, eD] at ng
              cases ng
            have hal : acc2.length ≤ 4 := by
              have z := pcRows_len i (some pc)
              rw [pr_len hacc2, List.length_take]
              omega
            rw [ei, ej]
            refine ⟨acc2, eD5, lt24 (by omega), sm_upd' (s4.trans s5) hD, acc2 ++ [.ref g], upd_same, ?_⟩
            have s6 : ∀ b u, b ≠ D0 → H4 b = some u → (upd (upd H4 g (.lst [.int (i : Nat), .int (j : Nat), .ref qp])) D0 (.lst (acc2 ++ [.ref g]))) b = some u := fun b u nb e => (upd_ne nb).trans (s5 _ _ e)
            have nq : qp ≠ D0 := fun z => by
              rw [z] at hqp
              rw [s4 _ _ hqp] at eD
              cases eD
            unfold pcRows
            rw [zip_take (fun x e => (i, e, x)) gp]
            refine pr_snoc (Paired.mapP hacc2 fun v z_ g' => ?_) ⟨g, qp, rfl, s14.free ng, (upd_ne ngD).trans upd_same, s6 _ _ nq (s4 _ _ hqp)⟩
            obtain ⟨t', q', e, n', z1, z2⟩ := g'
            refine ⟨t', q', e, n', s6 _ _ (fun z => ?_) z1, s6 _ _ (fun z => ?_) z2⟩
            · rw [z, eD] at z1
              have z1' := HO.lst.inj (Option.some.inj z1)
              have h0 : acc2[0]? = some (V.int (z_.1 : Nat)) := by rw [z1'] <;> rfl
              obtain ⟨_, _, _, _, e', _⟩ := pr_get hacc2 h0
              cases e'
            · rw [z, eD] at z2
              cases z2
        · rintro H4 ⟨s4, acc2, eD, hacc2⟩
          have e9 : (pcRows i (some pc)).take exs.length = pcRows i (some pc) := List.take_of_length_le (by rw [elen]; simp [pcRows])
          rw [e9] at hacc2
          have s14 := s13.trans s4
          have eL4 := (s3.trans s4) _ _ eL
          have l1 := pr_len hacc
          have l2 := pr_len hacc2
          have l3 := all_len (y.take i) 0
          have l4 : (y.take i).length ≤ 1000 := by rw [List.length_take]; omega
          have l5 := pcRows_len i (some pc)
          unfold allEnds at l1
          refine ⟨l, D0, acc, acc2, rfl, rfl, eL4, eD, small24 (by omega), fun t6 n6 => ?_⟩
          have s6 := sm_upd (o := .lst (acc ++ acc2)) n6
          refine ⟨s14.trans s6, t6, acc ++ acc2, _, _, _, rfl, s14.free n6, upd_same, ?_⟩
          rw [all_take gpc]
          exact pr_app (hacc.sm ((s3.trans s4).trans s6)) (hacc2.sm s6)
    · rintro σ H1 ⟨s1, l, acc, c2, c3, c4, rfl, nl, eL, hacc⟩
      rw [hlen, List.take_length] at hacc
      exact ⟨_, rfl, q H1 l acc s1 nl eL hacc⟩
end
end Rk
end
section
set_option Elab.async false
set_option linter.all false
set_option maxRecDepth 100000
set_option maxHeartbeats 4000000
/-! The law's is_free. -/
namespace Rk
open PySem PySem.Spec PyProof.Rows L2

theorem allFrom_append : ∀ (y z : Lay) (n : Nat), allFrom n (y ++ z) = allFrom n y ++ allFrom (n + y.length) z
  | [], z, n => by simp [allFrom]
  | o :: r, z, n => by
    rw [List.cons_append, allFrom_cons, allFrom_cons, allFrom_append r z (n + 1), List.append_assoc, List.length_cons, show n + 1 + r.length = n + (r.length + 1) by omega]
theorem pcRows_pos (n : Nat) (pc : Pc) : (pcRows n (some pc)).map (·.2.2) = endsOf pc.1 pc.2 := by
  unfold pcRows
  rw [List.map_map]
  exact (List.zipIdx_map_fst 0 (endsOf pc.1 pc.2))
theorem pos_pcs : ∀ (l : List Pc) (n : Nat), (allFrom n (l.map some)).map (·.2.2) = pcPoses l
  | [], _ => rfl
  | pc :: r, n => by
    rw [List.map_cons, allFrom_cons, List.map_append, pcRows_pos, pos_pcs r]
    rfl
theorem poses_app (y : Lay) (l : List Pc) : poses (y ++ l.map some) = poses y ++ pcPoses l := by
  unfold poses allEnds
  rw [allFrom_append, List.map_append, pos_pcs]
theorem pcPoses_snoc {l : List Pc} {i : Nat} {pc : Pc} (h : l[i]? = some pc) : pcPoses (l.take (i + 1)) = pcPoses (l.take i) ++ endsOf pc.1 pc.2 := by
  rw [take_at h]
  unfold pcPoses
  rw [List.flatMap_append]
  simp
theorem nd_mid {α : Type} {A B : List α} {x : α} (h : (A ++ x :: B).Nodup) : x ∉ A := fun m => (List.nodup_append.mp h).2.2 x m x List.mem_cons_self rfl
theorem pos_len (y : Lay) : (poses y).length ≤ 4 * y.length := by
  unfold poses
  rw [List.length_map]
  exact all_len y 0
theorem pcs_len : ∀ (l : List Pc), (pcPoses l).length ≤ 4 * l.length
  | [] => Nat.zero_le _
  | pc :: r => by
    have h1 := pcs_len r
    have h2 := (ends_len pc.1 pc.2).1
    have e : pcPoses (pc :: r) = endsOf pc.1 pc.2 ++ pcPoses r := rfl
    rw [e, List.length_append, List.length_cons]
    omega
theorem pos_shaped (l : List Po) : SeqAt.shaped (.list (l.map poD)) = true := by
  have h1 : ∀ l : List Po, PyData.canLayAll0 (l.map poD) = true ∧ PyData.depthAll (l.map poD) ≤ 1 := fun l => by
    induction l with
    | nil => exact ⟨rfl, Nat.zero_le _⟩
    | cons z r ih =>
      obtain ⟨a, b, c, d, h⟩ := z
      refine ⟨?_, ?_⟩
      · show (PyData.canLay0 (poD ⟨a, b, c, d, h⟩) && PyData.canLayAll0 (r.map poD)) = true
        rw [ih.1]
        rfl
      · show max (PyData.depth (poD ⟨a, b, c, d, h⟩)) (PyData.depthAll (r.map poD)) ≤ 1
        have : PyData.depth (poD ⟨a, b, c, d, h⟩) = 1 := rfl
        omega
  obtain ⟨a, b⟩ := h1 l
  unfold SeqAt.shaped
  rw [show PyData.canLay0 (.list (l.map poD)) = PyData.canLayAll0 (l.map poD) by simp only [PyData.canLay0], a]
  have e : PyData.depth (.list (l.map poD)) ≤ 64 := by
    have : PyData.depth (.list (l.map poD)) = PyData.depthAll (l.map poD) + 1 := by simp only [PyData.depth]
    omega
  exact decide_eq_true e
theorem pos_any (l : List Po) (p : Po) : ((l.map poD).any fun z => PyData.eqv z (poD p)) = decide (p ∈ l) := by
  rw [List.any_map, Bool.eq_iff_iff, List.any_eq_true, decide_eq_true_iff]
  constructor
  · rintro ⟨q, hq, e⟩
    have e2 : PyData.eqv (poD q) (poD p) = true := e
    rw [poD_eqv, decide_eq_true_iff] at e2
    rw [← e2]
    exact hq
  · intro h
    refine ⟨p, h, ?_⟩
    show PyData.eqv (poD p) (poD p) = true
    rw [poD_eqv]
    exact decide_eq_true rfl
theorem dp_pos {K : PySem.W.Frag} {H : Hp} {a : Addr} {xs : List V} {l : List Po} (e : H a = some (.lst xs)) (h : PosH H xs l) : Dp K H (.ref a) (.list (l.map poD)) :=
  .lst (SqL.of e) (dp_all (fun v o z => by
    obtain ⟨q, e, z⟩ := z
    subst e
    exact dp_po (sqt_of z)) h)
theorem Rm.u65 {k : Nat} {A : Around} (r : Room k A) : A.units + 65 < cLine := by
  have := r.un
  omega
section
variable {P : Program} {w : World} {K : PySem.W.Frag} {mg : Str → Option Value} {base : Heap}
def spFree : Sp := fun vs H Q _ => ∃ (a b : Addr) (y : Lay) (bs : List V) (ps : List Pc), vs = [.ref a, .ref b] ∧ LayL H a y ∧ y.length ≤ 900 ∧ H b = some (.lst bs) ∧ PcsH H bs (ps.map some) ∧ ps.length ≤ 100 ∧ (poses y).Nodup ∧
  ∀ H', Same H H' → Q (.bl (decide (poses (y ++ ps.map some)).Nodup)) H'
theorem sc_free : FnScope ["_law_layout", "_law_pieces", "_law_seen_here", "_law_kind", "_law_pose_here", "_law_end", "_law_row"] ["_law_layout", "_law_pieces"] (defScope s_law_is_free) := ⟨rfl, rfl, rfl, by decide +kernel, rfl, by decide +kernel, by decide +kernel⟩
theorem c_free (D : Dn K mg "_law_is_free" s_law_is_free) (ca : Cal P w K mg base 5 "_law_all_ends" spAllL) (ce : Cal P w K mg base 4 "_law_ends_of" spEndsL) : Cal P w K mg base 6 "_law_is_free" spFree := by
  refine D.cal sc_free (fun vs H Q E h => ?_) (fun _ _ _ _ _ _ us hl => match us, hl with | [_, _], _ => rfl) (fun f cdv A outer s H vs Q E hr h => ?_)
  · obtain ⟨a, b, y, bs, ps, rfl, _⟩ := h
    rfl
  · obtain ⟨a, b, y, bs, ps, rfl, hy, hyl, hb, hbs, hpl, hnd, q⟩ := h
    have nd := sc_free.nd
    refine ⟨_, pss_cons (ps_setLc (i := 2) (own := [("_law_row", 6)]) (g := gName 6) (tt := tYes) (te := tOp (rIxL K) (tVar 6) (tC (.int 2))) (by rfl) nd rfl rfl (sw_true rfl rfl rfl rfl) (pi_list (pe_c ca hr (by decide) rfl (pa_cons (pv 0) pa_nil)))
          (blkOk_by (N := ["_law_layout", "_law_pieces", "_law_seen_here", "_law_kind", "_law_pose_here", "_law_end", "_law_row"]) (sc := defScope s_law_is_free) (by decide +kernel))
          (fun _ _ _ _ _ => pg_name (i := 6) nd rfl (.inl rfl)) (fun _ _ _ _ _ => pts_nil) (fun _ _ _ _ _ => pe_ix ix_list (pv 6) pe_int (fun _ _ => rfl)))
      (pss_cons (ps_for PassesOwn.never rfl (pi_list (pv 1)) (pg_tup rfl (pgs_cons (pg_name (i := 3) nd rfl (.inl rfl)) (pgs_cons (pg_name (i := 4) nd rfl (.inl rfl)) pgs_nil)))
        (pss_one (ps_for PassesOwn.never rfl (pi_list (pe_c ce hr (by decide) rfl (pa_cons (pv 3) (pa_cons (pv 4) pa_nil)))) (pg_name (i := 5) nd rfl (.inl rfl))
          (pss_cons (ps_if (pt_cmpR (op_inD (Rm.u65 hr)) (pv 5) (pv 2) (by rfl)) (pss_one (ps_ret pe_bl)) pss_nil)
          (pss_one (ps_expr (pe_bm PySem.F.plainAttrs_list PySem.F.slot_list_append PySem.F.type_list_append mt_append (pv 2) (pa_cons (pv 5) pa_nil))))))))
      (pss_one (ps_ret pe_bl))), ?_⟩
    refine ⟨_, rfl, a, y, rfl, hy, by omega, fun H1 t rs s1 n1 e1 hrs => ?_⟩
    refine ⟨t, rfl, ⟨_, SqL.of e1⟩, fun l hl => ?_⟩
    have h4 := all_len y 0
    refine lc_it (walk_list (K := K) (a := t) (xs := rs)) (fun i H' => Same H1 H' ∧ ∃ acc, H' l = some (.lst acc) ∧ PosH H' acc ((poses y).take i)) ⟨sm_upd hl, [], upd_same, .nil⟩ (fun i H' _ z => SqL.of (z.1 _ _ e1)) ?_ ?_
    · rintro i v H4 H5 hi ⟨s4, acc, eD, hacc⟩ ⟨rfl, gx⟩
      obtain ⟨z, gz, g, qp, rfl, _, hg, hqp⟩ := pr_get hrs gx
      have hal : acc.length ≤ 4000 := by
        have z1 := pr_len hacc
        have z2 := pos_len y
        rw [List.length_take] at z1
        omega
      refine ⟨rfl, ?_⟩
      have tk5 : Tk H5 (upd H5 l (.lst (acc ++ [.ref qp]))) := tk_lst eD
      refine ⟨_, rfl, g, _, 2, .ref qp, rfl, rfl, SqL.of (s4 _ _ hg), rfl, acc, eD, lt24 (by omega), sm_upd' s4 hl, acc ++ [.ref qp], upd_same, ?_⟩
      rw [take_at (x := z.2.2) (by unfold poses; rw [List.getElem?_map, gz]; rfl)]
      exact pr_snoc (hacc.tk tk5) ⟨qp, rfl, tk5 _ _ (s4 _ _ hqp)⟩
    · rintro H2 ⟨s2, acc, eD, hacc⟩
      rw [pr_len hrs, show (allEnds y).length = (poses y).length by unfold poses; rw [List.length_map], List.take_length] at hacc
      have s12 := s1.trans s2
      have nbl : b ≠ l := fun z => by
        rw [← z, s1 _ _ hb] at hl
        cases hl
      refine ⟨_, rfl, b, rfl, ⟨_, SqL.of (s12 _ _ hb)⟩, ?_⟩
      have lb := pr_len hbs
      rw [List.length_map] at lb
      refine for_it (walk_list (K := K) (a := b) (xs := bs)) (fun i σ H' => Same H H' ∧ (∀ u o, u ≠ l → H2 u = some o → H' u = some o) ∧ ∃ (acc : List V) (c3 c4 c5 c6 : Option V), σ = [some (.ref a), some (.ref b), some (.ref l), c3, c4, c5, c6] ∧ H' l = some (.lst acc) ∧ PosH H' acc (poses y ++ pcPoses (ps.take i)) ∧ (poses y ++ pcPoses (ps.take i)).Nodup)
        ⟨s12, fun _ _ _ h => h, acc, _, _, _, _, rfl, eD, by rw [show pcPoses (ps.take 0) = [] from rfl, List.append_nil]; exact hacc, by rw [show pcPoses (ps.take 0) = [] from rfl, List.append_nil]; exact hnd⟩ (fun i σ H' _ z => SqL.of (z.1 _ _ hb)) ?_ ?_
      · rintro i v σ H3 H4 hi ⟨s3, k3, acc, c3, c4, c5, c6, rfl, eL, hacc, ndi⟩ ⟨rfl, gx⟩
        obtain ⟨o, go, hpc⟩ := pr_get hbs gx
        rw [List.getElem?_map] at go
        cases gp : ps[i]? with
        | none =>
          rw [gp] at go
          cases go
        | some pc =>
          rw [gp] at go
          obtain rfl : some pc = o := Option.some.inj go
          obtain ⟨tp, qa, rfl, h1, h2⟩ := hpc
          refine ⟨tp, _, rfl, .inl (.inl (s3 _ _ h1)), rfl, _, _, rfl, _, _, rfl, rfl, ?_⟩
          refine ⟨_, rfl, _, rfl, pc.1, qa, pc.2, rfl, s3 _ _ h2, fun H5 te exs s5 n5 e5 hexs => ?_⟩
          refine ⟨te, rfl, ⟨_, SqL.of e5⟩, ?_⟩
          have hte : te ≠ l := fun z => by
            rw [z, eL] at n5
            cases n5
          have len5 := (ends_len pc.1 pc.2).1
          have lexs := pr_len hexs
          refine for_it (walk_list (K := K) (a := te) (xs := exs)) (fun j σ H' => Same H H' ∧ (∀ u o, u ≠ l → H5 u = some o → H' u = some o) ∧ ∃ (acc : List V) (c5 : Option V), σ = [some (.ref a), some (.ref b), some (.ref l), some (.str pc.1.str), some (.ref qa), c5, c6] ∧ H' l = some (.lst acc) ∧ PosH H' acc (poses y ++ pcPoses (ps.take i) ++ (endsOf pc.1 pc.2).take j) ∧ (poses y ++ pcPoses (ps.take i) ++ (endsOf pc.1 pc.2).take j).Nodup)
            ⟨s3.trans s5, fun _ _ _ h => h, acc, _, rfl, s5 _ _ eL, by rw [List.take_zero, List.append_nil]; exact hacc.tk (sm_tk s5), by rw [List.take_zero, List.append_nil]; exact ndi⟩ (fun j σ H' _ z => SqL.of (z.2.1 _ _ hte e5)) ?_ ?_
          · rintro j v σ H6 H7 hj ⟨s6, k6, acc, c5, rfl, eL, hacc, ndj⟩ ⟨rfl, gx⟩
            obtain ⟨p, gp2, qp, rfl, hqp⟩ := pr_get hexs gx
            have nql : qp ≠ l := fun z => by
              rw [z, s5 _ _ ‹H4 l = some _›] at hqp
              cases hqp
            have hqp7 := k6 _ _ nql hqp
            refine ⟨_, rfl, _, rfl, poD p, _, dp_po (sqt_of hqp7), dp_pos eL hacc, poD_shaped _, pos_shaped _, _, rfl, ?_⟩
            rw [pos_any]
            refine ite2 (fun c => ?_) (fun c => ?_)
            · have m := of_decide_eq_true c
              have nn : ¬ (poses (y ++ ps.map some)).Nodup := fun z => by
                rw [poses_app] at z
                have e1 : pcPoses ps = pcPoses (ps.take (i + 1)) ++ pcPoses (ps.drop (i + 1)) := by
                  unfold pcPoses
                  rw [← List.flatMap_append, List.take_append_drop]
                rw [e1, pcPoses_snoc gp, at_split gp2] at z
                refine nd_mid (A := poses y ++ pcPoses (ps.take i) ++ (endsOf pc.1 pc.2).take j) (x := p) (B := (endsOf pc.1 pc.2).drop (j + 1) ++ pcPoses (ps.drop (i + 1))) ?_ m
                simpa [List.append_assoc] using z
              have r := q H7 s6
              rw [decide_eq_false nn] at r
              exact r
            · have m : p ∉ poses y ++ pcPoses (ps.take i) ++ (endsOf pc.1 pc.2).take j := fun m => c (decide_eq_true m)
              have hal : acc.length ≤ 8000 := by
                have z1 := pr_len hacc
                have z2 := pos_len y
                have z3 := pcs_len (ps.take i)
                have z4 : (ps.take i).length ≤ 100 := by rw [List.length_take]; omega
                rw [List.length_append, List.length_append, List.length_take] at z1
                omega
              refine ⟨_, rfl, .inl ⟨rfl, _, SqL.of eL⟩, _, rfl, l, acc, .ref qp, rfl, rfl, eL, lt24 (by omega), ?_⟩
              have tk8 : Tk H7 (upd H7 l (.lst (acc ++ [.ref qp]))) := tk_lst eL
              refine ⟨sm_upd' s6 (s1.free hl), fun u o nu e => (upd_ne nu).trans (k6 u o nu e), acc ++ [.ref qp], _, rfl, upd_same, ?_, ?_⟩
              · rw [take_at gp2, ← List.append_assoc]
                exact pr_snoc (hacc.tk tk8) ⟨qp, rfl, tk8 _ _ hqp7⟩
              · rw [take_at gp2, ← List.append_assoc]
                exact nd_snoc ndj m
          · rintro σ H6 ⟨s6, k6, acc, c5, rfl, eL, hacc, ndj⟩
            rw [lexs, List.take_length] at hacc ndj
            refine ⟨s6, fun u o nu e => k6 u o nu (s5 _ _ (k3 u o nu e)), acc, _, _, _, _, rfl, eL, ?_, ?_⟩
            · rw [pcPoses_snoc gp, ← List.append_assoc]
              exact hacc
            · rw [pcPoses_snoc gp, ← List.append_assoc]
              exact ndj
      · rintro σ H3 ⟨s3, k3, acc, c3, c4, c5, c6, rfl, eL, hacc, ndi⟩
        rw [lb, List.take_length, ← poses_app] at ndi
        have r := q H3 s3
        rw [decide_eq_true ndi] at r
        exact r
end
end Rk
end
section
set_option Elab.async false
set_option linter.all false
set_option maxRecDepth 100000
set_option maxHeartbeats 4000000
/-! The law's placed. -/
namespace Rk
open PySem PySem.Spec PyProof.Rows L2
section
variable {P : Program} {w : World} {K : PySem.W.Frag} {mg : Str → Option Value} {base : Heap}
def lcD : List (Key × V) := mergeK [] [(.inr "L", .str "C")]
theorem lc_get (l : Lt) (h : l ≠ .R) : (valV lcD (.inr l.str)).getD (.str l.str) = .str (pcOf ⟨0, 0, 0, 0, 0⟩ l).1.str := by
  cases l with
  | R => exact absurd rfl h
  | S =>
    have e : valV lcD (.inr Lt.S.str) = none := by
      unfold lcD mergeK
      simp only [List.foldl_cons, List.foldl_nil, valV_put]
      rw [if_neg (by decide +kernel)]
      rfl
    rw [e]
    rfl
  | H =>
    have e : valV lcD (.inr Lt.H.str) = none := by
      unfold lcD mergeK
      simp only [List.foldl_cons, List.foldl_nil, valV_put]
      rw [if_neg (by decide +kernel)]
      rfl
    rw [e]
    rfl
  | L =>
    have e : valV lcD (.inr Lt.L.str) = some (.str "C") := by
      unfold lcD mergeK
      simp only [List.foldl_cons, List.foldl_nil, valV_put]
      rw [if_pos (by decide +kernel)]
    rw [e]
    decide +kernel
theorem pcOf_kd (l : Lt) (p q : Po) : (pcOf p l).1 = (pcOf q l).1 := by cases l <;> rfl
theorem pcOf_po (l : Lt) (p : Po) (h : l ≠ .R) : (pcOf p l).2 = p := by
  cases l <;> first | rfl | exact absurd rfl h
theorem row_at {ls : List Lt} {i : Nat} {l : Lt} (h : ls[i]? = some l) : atI (rowS ls).cps.toList (i : Int) = some l.cp := by
  refine atI_nat ?_
  simp [rowS, h]
def spPlaced : Sp := fun vs H Q _ => ∃ (a : Addr) (p : Po) (ls : List Lt), vs = [.ref a, .str (rowS ls)] ∧ H a = some (.tup p.vs) ∧ ls.length ≤ 100 ∧
  ∀ H' t xs, Same H H' → H t = none → H' t = some (.lst xs) → PcsH H' xs ((plc p ls).map some) → Q (.ref t) H'
theorem sc_placed : FnScope ["_law_pose_here", "_law_row", "_law_poses", "_law_found", "_law_k"] ["_law_pose_here", "_law_row"] (defScope s_law_placed) := ⟨rfl, rfl, rfl, by decide +kernel, rfl, by decide +kernel, by decide +kernel⟩
theorem c_placed (D : Dn K mg "_law_placed" s_law_placed) (mr : mg "range" = none) (ml : mg "len" = none) (cd : Cal P w K mg base 2 "_law_led" (spLed K)) (cb : Cal P w K mg base 1 "_law_back" (spBack K)) : Cal P w K mg base 3 "_law_placed" spPlaced := by
  refine D.cal sc_placed (fun vs H Q E h => ?_) (fun _ _ _ _ _ _ us hl => match us, hl with | [_, _], _ => rfl) (fun f cdv A outer s H vs Q E hr h => ?_)
  · obtain ⟨a, p, ls, rfl, _⟩ := h
    rfl
  · obtain ⟨a, p, ls, rfl, ha, hl, q⟩ := h
    have nd := sc_placed.nd
    refine ⟨_, pss_cons (ps_set (i := 2) nd rfl (.inl rfl) (pe_c cd hr (by decide) rfl (pa_cons (pv 0) (pa_cons (pv 1) pa_nil))))
      (pss_cons (ps_set (i := 3) nd rfl (.inl rfl) (pe_lst pa_nil))
      (pss_cons (ps_for PassesOwn.never rfl (pi_range1 (by rfl) mr (pa_cons (pe_callB call_len_str (by rfl) ml PySem.boot_len (pa_cons (pv 1) pa_nil)) pa_nil)) (pg_name (i := 4) nd rfl (.inl rfl))
        (pss_one (ps_if (pt_cmpR op_eq (pe_ix ix_str (pv 1) (pv 4) (fun _ _ => rfl)) pe_str (nomark _))
          (pss_one (ps_expr (pe_bm PySem.F.plainAttrs_list PySem.F.slot_list_append PySem.F.type_list_append mt_append (pv 3) (pa_cons (pe_tup (pa_cons pe_str (pa_cons (pe_c cb hr (by decide) rfl (pa_cons (pe_ix ix_list (pv 2) (pe_op op_add (pv 4) pe_int) (fun _ _ => rfl)) pa_nil)) pa_nil))) pa_nil))))
          (pss_one (ps_expr (pe_bm PySem.F.plainAttrs_list PySem.F.slot_list_append PySem.F.type_list_append mt_append (pv 3) (pa_cons (pe_tup (pa_cons
            (pe_dget2 (Rm.u1 hr) (pe_disp (pps_cons pe_str pe_str pps_nil) rfl rfl (by decide) (by decide)) (pe_ix ix_str (pv 1) (pv 4) (fun _ _ => rfl)) (pe_ix ix_str (pv 1) (pv 4) (fun _ _ => rfl)) ⟨rfl, rfl, rfl, rfl⟩)
            (pa_cons (pe_ix ix_list (pv 2) (pv 4) (fun _ _ => rfl)) pa_nil))) pa_nil)))))))
      (pss_one (ps_ret (pv 3))))), ?_⟩
    refine ⟨_, rfl, _, rfl, a, p, ls, rfl, ha, hl, fun H1 tp pxs s1 n1 e1 hpx => ?_⟩
    refine ⟨Nat.zero_le _, fun l nl => ?_⟩
    have hsz : (rowS ls).length = ls.length := rowS_size ls
    have htl : tp ≠ l := fun z => by
      rw [← z, e1] at nl
      cases nl
    refine ⟨_, rfl, rowS ls, rfl, by rw [hsz]; exact small24 (by omega), (rowS ls).length, rfl, by omega, by rw [hsz]; omega, ?_⟩
    refine for_range (lo := 0) (n := (rowS ls).length) (fun i σ H' => Same H1 H' ∧ ∃ (acc : List V) (c4 : Option V), σ = [some (.ref a), some (.str (rowS ls)), some (.ref tp), some (.ref l), c4] ∧ H' l = some (.lst acc) ∧ PcsH H' acc ((plc p (ls.take i)).map some))
      ⟨sm_upd nl, [], none, rfl, upd_same, .nil⟩ ?_ ?_
    · rintro i σ H2 hi ⟨s2, acc, c4, rfl, eL, hacc⟩
      rw [hsz] at hi
      have gl : ls[i]? = some ls[i] := List.getElem?_eq_getElem hi
      generalize ls[i] = lt at gl
      have ei : (0 : Int) + (i : Nat) = (i : Int) := by omega
      have ri : atI (rowS ls).cps.toList (0 + (i : Nat)) = some lt.cp := by
        rw [ei]
        exact row_at gl
      have rz : (rowS ls).length ≤ sizeLine := by
        rw [hsz]
        exact small24 (by omega)
      have hal : acc.length ≤ 100 := by
        have z := pr_len hacc
        rw [List.length_map, plc_len, List.length_take] at z
        omega
      obtain ⟨v0, gv0, g0, rfl, hg0⟩ := pr_got hpx (pths_at ls p i (by omega))
      obtain ⟨v1, gv1, g1, rfl, hg1⟩ := pr_got hpx (pths_at ls p (i + 1) (by omega))
      rw [take_at gl, pth_snoc] at hg1
      have s12 := s1.trans s2
      refine ⟨_, rfl, _, rfl, rowS ls, _, _, rfl, rfl, rz, ri, rfl, _, rfl, ite2 (fun c => ?_) (fun c => ?_)⟩
      · have el : lt = .R := by
          revert c
          cases lt <;> first | exact fun _ => rfl | exact fun c => absurd (of_decide_eq_true c) (by decide +kernel)
        subst el
        refine ⟨_, rfl, .inl ⟨rfl, _, SqL.of eL⟩, ?_⟩
        refine ⟨_, rfl, _, rfl, _, _, rfl, rfl, tp, pxs, _, .ref g1, rfl, rfl, SqL.of (s2 _ _ e1), ?_, ?_⟩
        · rw [ei]
          exact atI_nat gv1
        refine ⟨g1, _, rfl, sqt_of (s2 _ _ hg1), fun H3 b3 s3 n3 e3 => ⟨by show 2 ≤ sizeLine; decide, fun t4 n4 => ?_⟩⟩
        have s4 := sm_upd (o := .tup [.str "C", .ref b3]) n4
        have eL4 := (s3.trans s4) _ _ eL
        refine ⟨l, acc, .ref t4, rfl, rfl, eL4, lt24 (by omega), ?_⟩
        have tk5 : Tk _ (upd _ l (.lst (acc ++ [.ref t4]))) := tk_lst eL4
        refine ⟨sm_upd' (s2.trans (s3.trans s4)) nl, acc ++ [.ref t4], _, rfl, upd_same, ?_⟩
        rw [take_at gl, plc_snoc, List.map_append]
        exact pr_snoc (hacc.tk ((sm_tk (s3.trans s4)).trans tk5)) ⟨t4, b3, rfl, tk5 _ _ upd_same, tk5 _ _ (s4 _ _ e3)⟩
      · have nR : lt ≠ .R := fun z => by
          subst z
          exact c (by decide +kernel)
        refine ⟨_, rfl, .inl ⟨rfl, _, SqL.of eL⟩, ?_⟩
        intro d nd2
        have s3 := sm_upd (o := .dK []) nd2
        refine ⟨upd_same, [(.inr "L", .str "C")], rfl, (by show 1 ≤ 15; decide), ?_⟩
        rw [upd_upd]
        have s4 := sm_upd (o := .dK lcD) nd2
        have ed : (upd H2 d (.dK lcD)) d = some (.dK lcD) := upd_same
        refine ⟨d, rfl, .inl ⟨_, .inl ed⟩, ?_⟩
        refine ⟨_, rfl, _, rfl, rowS ls, _, _, rfl, rfl, rz, ri, _, rfl, _, rfl, rowS ls, _, _, rfl, rfl, rz, ri, _, DGet.k (k := .inr lt.str) ed, ?_⟩
        refine ⟨_, rfl, _, rfl, tp, pxs, _, .ref g0, rfl, rfl, SqL.of ((s2.trans s4) _ _ e1), ?_, ?_⟩
        · rw [ei]
          exact atI_nat gv0
        refine ⟨by show 2 ≤ sizeLine; decide, fun t4 n4 => ?_⟩
        have s5 := sm_upd (o := .tup [(valV lcD (.inr lt.str)).getD (.str lt.str), .ref g0]) n4
        have eL4 := (s4.trans s5) _ _ eL
        refine ⟨l, acc, .ref t4, rfl, rfl, eL4, lt24 (by omega), ?_⟩
        have tk5 : Tk _ (upd _ l (.lst (acc ++ [.ref t4]))) := tk_lst eL4
        refine ⟨sm_upd' (s2.trans (s4.trans s5)) nl, acc ++ [.ref t4], _, rfl, upd_same, ?_⟩
        rw [take_at gl, plc_snoc, List.map_append]
        refine pr_snoc (hacc.tk ((sm_tk (s4.trans s5)).trans tk5)) ⟨t4, g0, rfl, ?_, ?_⟩
        · refine (tk5 _ _ upd_same).trans ?_
          rw [show (valV lcD (.inr lt.str)).getD (.str lt.str) = .str (pcOf (pth p (ls.take i)) lt).1.str by rw [lc_get lt nR, pcOf_kd lt ⟨0, 0, 0, 0, 0⟩ (pth p (ls.take i))]]
        · rw [pcOf_po lt _ nR]
          exact tk5 _ _ ((s2.trans (s4.trans s5)) _ _ hg0)
    · rintro σ H2 ⟨s2, acc, c4, rfl, eL, hacc⟩
      rw [hsz, List.take_length] at hacc
      exact ⟨_, rfl, q H2 l acc (s1.trans s2) (s1.free nl) eL hacc⟩
end
end Rk
end
section
set_option Elab.async false
set_option linter.all false
set_option maxRecDepth 100000
set_option maxHeartbeats 4000000
/-! The law's joins. -/
namespace Rk
open PySem PySem.Spec PyProof.Rows L2

/-! ### plain: the pairs (number, end), ascending -/
def LexL (a b : Nat × Nat) : Prop := a.1 < b.1 ∨ a.1 = b.1 ∧ a.2 < b.2
def prs (y : Lay) : List (Nat × Nat) := (allEnds y).map fun z => (z.1, z.2.1)
theorem zip_asc (n : Nat) : ∀ (l : List Po) (k : Nat), ((l.zipIdx k).map fun q => (n, q.2)).Pairwise LexL ∧ ∀ z ∈ ((l.zipIdx k).map fun q => (n, q.2)), z.1 = n ∧ k ≤ z.2
  | [], k => ⟨.nil, fun _ z => nomatch z⟩
  | a :: r, k => by
    obtain ⟨h1, h2⟩ := zip_asc n r (k + 1)
    rw [List.zipIdx_cons, List.map_cons]
    refine ⟨List.pairwise_cons.mpr ⟨fun z hz => ?_, h1⟩, fun z hz => ?_⟩
    · obtain ⟨a, b⟩ := h2 z hz
      refine .inr ⟨a.symm, ?_⟩
      show k < z.2
      omega
    · rcases List.mem_cons.mp hz with e | hz
      · rw [e]
        exact ⟨rfl, Nat.le_refl _⟩
      · obtain ⟨a, b⟩ := h2 z hz
        exact ⟨a, by omega⟩
theorem prs_from : ∀ (y : Lay) (n : Nat), ((allFrom n y).map fun z => (z.1, z.2.1)).Pairwise LexL ∧ ∀ z ∈ ((allFrom n y).map fun z => (z.1, z.2.1)), n ≤ z.1
  | [], n => ⟨.nil, fun _ z => nomatch z⟩
  | o :: r, n => by
    obtain ⟨h1, h2⟩ := prs_from r (n + 1)
    have h3 : ((pcRows n o).map fun z => (z.1, z.2.1)).Pairwise LexL ∧ ∀ z ∈ ((pcRows n o).map fun z => (z.1, z.2.1)), z.1 = n := by
      cases o with
      | none => exact ⟨.nil, fun _ z => nomatch z⟩
      | some pc =>
        obtain ⟨a, b⟩ := zip_asc n (endsOf pc.1 pc.2) 0
        have e : ((pcRows n (some pc)).map fun z => (z.1, z.2.1)) = ((endsOf pc.1 pc.2).zipIdx.map fun q => (n, q.2)) := by
          unfold pcRows
          rw [List.map_map]
          rfl
        rw [e]
        exact ⟨a, fun z hz => (b z hz).1⟩
    rw [allFrom_cons, List.map_append]
    refine ⟨List.pairwise_append.mpr ⟨h3.1, h1, fun a ha b hb => .inl ?_⟩, fun z hz => ?_⟩
    · have e1 := h3.2 a ha
      have e2 := h2 b hb
      omega
    · rcases List.mem_append.mp hz with hz | hz
      · have := h3.2 z hz
        omega
      · have := h2 z hz
        omega
theorem prs_asc (y : Lay) : (prs y).Pairwise LexL := (prs_from y 0).1
theorem prs_nd (y : Lay) : (prs y).Nodup := List.Pairwise.imp (fun h e => by
  subst e
  rcases h with h | ⟨_, h⟩ <;> exact absurd h (Nat.lt_irrefl _)) (prs_asc y)

/-! ### dicts beside lists -/
theorem pv_find {κ β : Type} [DecidableEq κ] {F : κ × V → β → Prop} {key : β → κ} (hk : ∀ kv z, F kv z → kv.1 = key z) (k : κ) : ∀ {kvs : List (κ × V)} {zs : List β}, Paired F kvs zs →
    (valV kvs k = none ∧ zs.find? (fun z => decide (key z = k)) = none) ∨ ∃ kv z, valV kvs k = some kv.2 ∧ zs.find? (fun z => decide (key z = k)) = some z ∧ F kv z
  | _, _, .nil => .inl ⟨rfl, rfl⟩
  | _, _, .cons (a := kv) (b := z) h t => by
    by_cases e : key z = k
    · refine .inr ⟨kv, z, valV_pos ((hk _ _ h).trans e), ?_, h⟩
      rw [List.find?_cons, decide_eq_true e]
    · have e1 : ¬ kv.1 = k := fun q => e ((hk _ _ h).symm.trans q)
      rw [valV_neg e1, List.find?_cons, decide_eq_false e]
      exact pv_find hk k t
section
variable {P : Program} {w : World} {K : PySem.W.Frag} {mg : Str → Option Value} {base : Heap}
def PlF (H : Hp) (kv : List Key × V) (z : Nat × Nat × Po) : Prop := kv.1 = z.2.2.ks ∧ PrH H kv.2 (z.1, z.2.1)
def JnF (H : Hp) (y : Lay) (kv : List Key × V) (z : Nat × Nat × Po) : Prop := kv.1 = [.inl (z.1 : Int), .inl (z.2.1 : Int)] ∧ JoH H kv.2 (jt y z.2.2)
theorem PlF.tk {H H' : Hp} {kv : List Key × V} {z : Nat × Nat × Po} (t : Tk H H') (h : PlF H kv z) : PlF H' kv z := ⟨h.1, h.2.tk t⟩
theorem JnF.tk {H H' : Hp} {y : Lay} {kv : List Key × V} {z : Nat × Nat × Po} (t : Tk H H') (h : JnF H y kv z) : JnF H' y kv z := ⟨h.1, h.2.tk t⟩
def JnH (H : Hp) (d : Addr) (y : Lay) : Prop := ∃ kvs, H d = some (.dT kvs) ∧ Paired (JnF H y) kvs (allEnds y)
/-- the place of a pose, among poses that differ -/
theorem plf_get {H : Hp} {kvs : List (List Key × V)} {y : Lay} (h : Paired (PlF H) kvs (allEnds y)) (p : Po) : JoH H ((valV kvs (back p).ks).getD .non) (jt y p) := by
  have e : ((allEnds y).find? fun z => decide (z.2.2.ks = (back p).ks)) = (allEnds y).find? fun z => decide (z.2.2 = back p) := by
    congr 1
    funext z
    rw [decide_eq_decide]
    exact ⟨fun q => Po.ks_inj q, fun q => by rw [q]⟩
  unfold jt
  rcases pv_find (F := PlF H) (key := fun z => z.2.2.ks) (fun _ _ h => h.1) (back p).ks h with ⟨e1, e2⟩ | ⟨kv, z, e1, e2, h⟩
  · rw [e] at e2
    rw [e1, e2]
    rfl
  · rw [e] at e2
    rw [e1, e2]
    exact h.2
def spJoins : Sp := fun vs H Q _ => ∃ (a : Addr) (y : Lay), vs = [.ref a] ∧ LayL H a y ∧ y.length ≤ 1000 ∧ (poses y).Nodup ∧ ∀ H' d, Same H H' → H d = none → JnH H' d y → Q (.ref d) H'
theorem sc_joins : FnScope ["_law_layout", "_law_rows", "_law_places", "_law_number", "_law_end", "_law_pose_here", "_law_found"] ["_law_layout"] (defScope s_law_joins) := ⟨rfl, rfl, rfl, by decide +kernel, rfl, by decide +kernel, by decide +kernel⟩
theorem c_joins (D : Dn K mg "_law_joins" s_law_joins) (ca : Cal P w K mg base 5 "_law_all_ends" spAllL) (cb : Cal P w K mg base 1 "_law_back" (spBack K)) : Cal P w K mg base 6 "_law_joins" spJoins := by
  refine D.cal sc_joins (fun vs H Q E h => ?_) (fun _ _ _ _ _ _ us hl => match us, hl with | [_], _ => rfl) (fun f cdv A outer s H vs Q E hr h => ?_)
  · obtain ⟨a, y, rfl, _⟩ := h
    rfl
  · obtain ⟨a, y, rfl, hy, hyl, hnd, q⟩ := h
    have nd := sc_joins.nd
    refine ⟨_, pss_cons (ps_set (i := 1) nd rfl (.inl rfl) (pe_c ca hr (by decide) rfl (pa_cons (pv 0) pa_nil)))
      (pss_cons (ps_set (i := 2) nd rfl (.inl rfl) pe_dnewT)
      (pss_cons (ps_for PassesOwn.never rfl (pi_list (pv 1)) (pg_unl rfl (pgs_cons (pg_name (i := 3) nd rfl (.inl rfl)) (pgs_cons (pg_name (i := 4) nd rfl (.inl rfl)) (pgs_cons (pg_name (i := 5) nd rfl (.inl rfl)) pgs_nil))))
        (pss_one (ps_dput (Rm.u1 hr) (pv 2) (pv 5) (pe_tup (pa_cons (pv 3) (pa_cons (pv 4) pa_nil))) rfl)))
      (pss_cons (ps_set (i := 6) nd rfl (.inl rfl) pe_dnewT)
      (pss_cons (ps_for PassesOwn.never rfl (pi_list (pv 1)) (pg_unl rfl (pgs_cons (pg_name (i := 3) nd rfl (.inl rfl)) (pgs_cons (pg_name (i := 4) nd rfl (.inl rfl)) (pgs_cons (pg_name (i := 5) nd rfl (.inl rfl)) pgs_nil))))
        (pss_one (ps_dput (Rm.u1 hr) (pv 6) (pe_tup (pa_cons (pv 3) (pa_cons (pv 4) pa_nil))) (pe_dget1 (Rm.u1 hr) (pv 2) (pe_c cb hr (by decide) rfl (pa_cons (pv 5) pa_nil)) ⟨rfl, rfl, rfl, rfl⟩) rfl)))
      (pss_one (ps_ret (pv 6))))))), ?_⟩
    have h4 := all_len y 0
    refine ⟨_, rfl, a, y, rfl, hy, hyl, fun H1 t rs s1 n1 e1 hrs => ?_⟩
    intro d nd1
    have s2 := sm_upd (o := .dT []) nd1
    have ntd : t ≠ d := fun z => by
      rw [← z, e1] at nd1
      cases nd1
    refine ⟨_, rfl, t, rfl, ⟨_, SqL.of (s2 _ _ e1)⟩, ?_⟩
    have hlen : rs.length = (allEnds y).length := pr_len hrs
    refine for_it (walk_list (K := K) (a := t) (xs := rs)) (fun i σ H' => Same H1 H' ∧ ∃ (c3 c4 c5 c6 : Option V) (kvs : List (List Key × V)), σ = [some (.ref a), some (.ref t), some (.ref d), c3, c4, c5, c6] ∧ H' d = some (.dT kvs) ∧ Paired (PlF H') kvs ((allEnds y).take i))
      ⟨s2, none, none, none, none, [], rfl, upd_same, .nil⟩ (fun i σ H' _ z => SqL.of (z.1 _ _ e1)) ?_ ?_
    · rintro i v σ H2 H3 hi ⟨s3, c3, c4, c5, c6, kvs, rfl, eD, hk⟩ ⟨rfl, gx⟩
      obtain ⟨z, gz, g, qp, rfl, _, hg, hqp⟩ := pr_get hrs gx
      refine ⟨g, _, rfl, SqL.of (s3 _ _ hg), rfl, _, _, rfl, _, _, rfl, _, _, rfl, rfl, ?_⟩
      refine ⟨_, rfl, _, rfl, (by show 2 ≤ sizeLine; decide), fun u nu => ?_⟩
      have s5 := sm_upd (o := .tup [.int (z.1 : Nat), .int (z.2.1 : Nat)]) nu
      have eD5 := s5 _ _ eD
      have hq5 := s5 _ _ (s3 _ _ hqp)
      have hk5 : (upd H3 u (.tup [.int (z.1 : Nat), .int (z.2.1 : Nat)])) qp = some (.tup (z.2.2.ks.map kV)) := by
        rw [hq5, Po.vs_ks]
      have hkl : kvs.length ≤ 4000 := by
        rw [pr_len hk, List.length_take]
        unfold allEnds
        omega
      refine ⟨_, rfl, _, rfl, d, _, rfl, DPut.t eD5 hk5 (lt24 (by omega)), ?_⟩
      have hv : valV kvs z.2.2.ks = none := by
        rcases pv_find (F := PlF H3) (key := fun z => z.2.2.ks) (fun _ _ h => h.1) z.2.2.ks hk with ⟨e1, _⟩ | ⟨kv, z', _, e2, _⟩
        · exact e1
        · have m := List.mem_of_find?_eq_some e2
          have e3 : z'.2.2 = z.2.2 := Po.ks_inj (of_decide_eq_true (List.find?_some (p := fun w : Nat × Nat × Po => decide (w.2.2.ks = z.2.2.ks)) e2))
          refine absurd hnd (nd_take (i := i) (x := z.2.2) (by unfold poses; rw [List.getElem?_map, gz]; rfl) ?_)
          unfold poses
          rw [← List.map_take]
          exact List.mem_map.mpr ⟨z', m, e3⟩
      rw [putK_new _ hv]
      have tk6 : Tk H3 (upd (upd H3 u (.tup [.int (z.1 : Nat), .int (z.2.1 : Nat)])) d (.dT (kvs ++ [(z.2.2.ks, .ref u)]))) := (sm_tk s5).trans (tk_upd fun xs q => by rw [eD5] at q; cases q)
      have tk7 : Tk (upd H3 u (.tup [.int (z.1 : Nat), .int (z.2.1 : Nat)])) (upd (upd H3 u (.tup [.int (z.1 : Nat), .int (z.2.1 : Nat)])) d (.dT (kvs ++ [(z.2.2.ks, .ref u)]))) := tk_upd fun xs q => by rw [eD5] at q; cases q
      refine ⟨sm_upd' (s3.trans s5) nd1, _, _, _, _, _, rfl, upd_same, ?_⟩
      rw [take_at gz]
      exact pr_snoc (Paired.mapP hk fun _ _ q => q.tk tk6) ⟨rfl, u, rfl, tk7 _ _ upd_same⟩
    · rintro σ H2 ⟨s3, c3, c4, c5, c6, kvs, rfl, eD, hk⟩
      rw [hlen, List.take_length] at hk
      intro d2 nd2
      have s4 := sm_upd (o := .dT []) nd2
      have s14 := s1.trans (s3.trans s4)
      have ndd : d ≠ d2 := fun z => by
        rw [← z, eD] at nd2
        cases nd2
      refine ⟨_, rfl, t, rfl, ⟨_, SqL.of ((s3.trans s4) _ _ e1)⟩, ?_⟩
      refine for_it (walk_list (K := K) (a := t) (xs := rs)) (fun i σ H' => Same H2 H' ∧ ∃ (c3 c4 c5 : Option V) (kvs2 : List (List Key × V)), σ = [some (.ref a), some (.ref t), some (.ref d), c3, c4, c5, some (.ref d2)] ∧ H' d2 = some (.dT kvs2) ∧ Paired (JnF H' y) kvs2 ((allEnds y).take i))
        ⟨s4, _, _, _, [], rfl, upd_same, .nil⟩ (fun i σ H' _ z => SqL.of (z.1 _ _ (s3 _ _ e1))) ?_ ?_
      · rintro i v σ H3 H4 hi ⟨s5, c3, c4, c5, kvs2, rfl, eD2, hk2⟩ ⟨rfl, gx⟩
        obtain ⟨z, gz, g, qp, rfl, _, hg, hqp⟩ := pr_get hrs gx
        have s35 := s3.trans s5
        refine ⟨g, _, rfl, SqL.of (s35 _ _ hg), rfl, _, _, rfl, _, _, rfl, _, _, rfl, rfl, ?_⟩
        refine ⟨_, rfl, d, rfl, .inr ⟨_, .inl (s5 _ _ eD)⟩, _, rfl, qp, z.2.2, rfl, sqt_of (s35 _ _ hqp), fun H5 b5 s6 n6 e6 => ?_⟩
        have hkb : H5 b5 = some (.tup ((back z.2.2).ks.map kV)) := by
          rw [e6, Po.vs_ks]
          rfl
        have s26 := s5.trans s6
        refine ⟨_, DGet.t (s26 _ _ eD) hkb, ?_⟩
        have jo := plf_get (Paired.mapP hk fun _ _ q => q.tk (sm_tk s26)) z.2.2
        refine ⟨_, rfl, _, rfl, _, rfl, (by show 2 ≤ sizeLine; decide), fun u nu => ?_⟩
        have s7 := sm_upd (o := .tup [.int (z.1 : Nat), .int (z.2.1 : Nat)]) nu
        have eD7 := (s6.trans s7) _ _ eD2
        have hkl : kvs2.length ≤ 4000 := by
          rw [pr_len hk2, List.length_take]
          unfold allEnds
          omega
        refine ⟨d2, _, rfl, DPut.t (k := [.inl (z.1 : Int), .inl (z.2.1 : Int)]) eD7 upd_same (lt24 (by omega)), ?_⟩
        have hv : valV kvs2 [.inl (z.1 : Int), .inl (z.2.1 : Int)] = none := by
          rcases pv_find (F := JnF H4 y) (key := fun z : Nat × Nat × Po => ([.inl (z.1 : Int), .inl (z.2.1 : Int)] : List Key)) (fun _ _ h => h.1) [.inl (z.1 : Int), .inl (z.2.1 : Int)] hk2 with ⟨e1, _⟩ | ⟨kv, z', _, e2, _⟩
          · exact e1
          · have m := List.mem_of_find?_eq_some e2
            have e3 := of_decide_eq_true (List.find?_some (p := fun w : Nat × Nat × Po => decide (([.inl (w.1 : Int), .inl (w.2.1 : Int)] : List Key) = [.inl (z.1 : Int), .inl (z.2.1 : Int)])) e2)
            simp only [List.cons.injEq, Sum.inl.injEq, and_true] at e3
            refine absurd (prs_nd y) (nd_take (i := i) (x := (z.1, z.2.1)) (by unfold prs; rw [List.getElem?_map, gz]; rfl) ?_)
            unfold prs
            rw [← List.map_take]
            refine List.mem_map.mpr ⟨z', m, ?_⟩
            rw [show z'.1 = z.1 by omega, show z'.2.1 = z.2.1 by omega]
        rw [putK_new _ hv]
        have tk8 : Tk (upd H5 u (.tup [.int (z.1 : Nat), .int (z.2.1 : Nat)])) (upd (upd H5 u (.tup [.int (z.1 : Nat), .int (z.2.1 : Nat)])) d2 (.dT (kvs2 ++ [([.inl (z.1 : Int), .inl (z.2.1 : Int)], (valV kvs (back z.2.2).ks).getD .non)]))) := tk_upd fun xs q => by rw [eD7] at q; cases q
        have tk9 := (sm_tk s7).trans tk8
        refine ⟨sm_upd' (s26.trans s7) nd2, _, _, _, _, rfl, upd_same, ?_⟩
        rw [take_at gz]
        exact pr_snoc (Paired.mapP hk2 fun _ _ q => q.tk ((sm_tk s6).trans tk9)) ⟨rfl, jo.tk tk9⟩
      · rintro σ H3 ⟨s5, c3, c4, c5, kvs2, rfl, eD2, hk2⟩
        rw [hlen, List.take_length] at hk2
        have s15 := s1.trans (s3.trans s5)
        exact ⟨_, rfl, q H3 d2 s15 ((s1.trans s3).free nd2) ⟨kvs2, eD2, hk2⟩⟩
end
end Rk
end
section
set_option Elab.async false
set_option linter.all false
set_option maxRecDepth 100000
set_option maxHeartbeats 4000000
/-! The plain law: what is left while islands are taken. -/
namespace Rk
open Classical in
noncomputable def leftOf (y : Lay) (m : Nat) : List Nat := (List.range y.length).filter fun k => decide (There y k ∧ ¬ ∃ s ∈ islesTo y m, k ∈ s)
open Classical in
theorem mem_left {y : Lay} {m k : Nat} : k ∈ leftOf y m ↔ There y k ∧ ¬ ∃ s ∈ islesTo y m, k ∈ s := by
  unfold leftOf
  rw [List.mem_filter, decide_eq_true_iff, List.mem_range]
  exact ⟨fun h => h.2, fun h => ⟨h.1.lt, h⟩⟩
open Classical in
theorem left_asc (y : Lay) (m : Nat) : (leftOf y m).Pairwise (· < ·) := List.Pairwise.sublist List.filter_sublist List.pairwise_lt_range
open Classical in
theorem left_zero (y : Lay) : leftOf y 0 = (List.range y.length).filter fun k => decide (There y k) := by
  unfold leftOf
  congr 1
  funext k
  rw [decide_eq_decide]
  exact ⟨fun h => h.1, fun h => ⟨h, fun ⟨s, hs, _⟩ => nomatch hs⟩⟩
theorem left_head {y : Lay} {m k : Nat} {r : List Nat} (e : leftOf y m = k :: r) : m ≤ k ∧ There y k ∧ islesTo y (k + 1) = islesTo y m ++ [isl y k] := by
  have hk : k ∈ leftOf y m := by rw [e]; exact List.mem_cons_self
  obtain ⟨t, n⟩ := mem_left.mp hk
  have hm : m ≤ k := by
    rcases Nat.lt_or_ge k m with h | h
    · exact absurd (isles_has h t) n
    · exact h
  have hs : islesTo y k = islesTo y m := isles_same hm fun j h1 h2 tj => by
    refine Classical.byContradiction fun nj => ?_
    have hj : j ∈ leftOf y m := mem_left.mpr ⟨tj, nj⟩
    rw [e] at hj
    have as := left_asc y m
    rw [e] at as
    rcases List.mem_cons.mp hj with z | z
    · omega
    · have := (List.pairwise_cons.mp as).1 j z
      omega
  refine ⟨hm, t, ?_⟩
  rw [← hs] at n ⊢
  exact isles_new t n
open Classical in
theorem left_next {y : Lay} {m k : Nat} {r : List Nat} (e : leftOf y m = k :: r) : leftOf y (k + 1) = (leftOf y m).filter fun j => decide (j ∉ isl y k) := by
  obtain ⟨_, _, h⟩ := left_head e
  unfold leftOf
  rw [List.filter_filter, h]
  congr 1
  funext j
  rw [Bool.eq_iff_iff, decide_eq_true_iff, Bool.and_eq_true, decide_eq_true_iff, decide_eq_true_iff]
  constructor
  · rintro ⟨a, b⟩
    exact ⟨fun q => b ⟨_, List.mem_append_right _ (List.mem_singleton.mpr rfl), q⟩, a, fun ⟨s, hs, q⟩ => b ⟨s, List.mem_append_left _ hs, q⟩⟩
  · rintro ⟨a, b, c⟩
    refine ⟨b, fun ⟨s, hs, q⟩ => ?_⟩
    rcases List.mem_append.mp hs with hs | hs
    · exact c ⟨s, hs, q⟩
    · rw [List.mem_singleton.mp hs] at q
      exact a q
theorem left_nil {y : Lay} {m : Nat} (e : leftOf y m = []) (h : m ≤ y.length) : islesTo y m = isles y := by
  refine (isles_same h fun j h1 h2 tj => ?_).symm
  refine Classical.byContradiction fun nj => ?_
  have hj : j ∈ leftOf y m := mem_left.mpr ⟨tj, nj⟩
  rw [e] at hj
  exact nomatch hj
theorem left_len (y : Lay) (m : Nat) : (leftOf y m).length ≤ y.length := by
  unfold leftOf
  refine Nat.le_trans (List.length_filter_le _ _) ?_
  rw [List.length_range]
  exact Nat.le_refl _
/-- a step of the walk in breadth -/
theorem adj_done {y : Lay} {fs : List Nat} {a : Nat} (h : ∀ z ∈ allEnds y, z.1 = a → ∀ w, jt y z.2.2 = some w → w.1 ∈ fs) : ∀ b, Adj y a b → b ∈ fs := fun b hb => by
  obtain ⟨z, hz, e, w, hw, rfl⟩ := adj_iff.mp hb
  exact h z hz e w hw
open Classical in
noncomputable def thL (y : Lay) (i : Nat) : List Nat := (List.range i).filter fun k => decide (There y k)
open Classical in
theorem thL_yes {y : Lay} {i : Nat} (h : There y i) : thL y (i + 1) = thL y i ++ [i] := by
  unfold thL
  rw [List.range_succ, List.filter_append]
  congr 1
  simp [h]
open Classical in
theorem thL_no {y : Lay} {i : Nat} (h : ¬ There y i) : thL y (i + 1) = thL y i := by
  unfold thL
  rw [List.range_succ, List.filter_append]
  simp [h]
theorem thL_all (y : Lay) : thL y y.length = leftOf y 0 := (left_zero y).symm
theorem thL_len (y : Lay) (i : Nat) : (thL y i).length ≤ i := by
  unfold thL
  refine Nat.le_trans (List.length_filter_le _ _) ?_
  rw [List.length_range]
  exact Nat.le_refl _
open Classical in
/-- what is not in the island, item by item -/
noncomputable def outL (y : Lay) (k : Nat) (l : List Nat) : List Nat := l.filter fun j => decide (j ∉ isl y k)
open Classical in
theorem outL_snoc_in {y : Lay} {k j : Nat} {l : List Nat} (h : j ∈ isl y k) : outL y k (l ++ [j]) = outL y k l := by
  unfold outL
  rw [List.filter_append]
  simp [h]
open Classical in
theorem outL_snoc_out {y : Lay} {k j : Nat} {l : List Nat} (h : j ∉ isl y k) : outL y k (l ++ [j]) = outL y k l ++ [j] := by
  unfold outL
  rw [List.filter_append]
  simp [h]
theorem outL_left {y : Lay} {m k : Nat} {r : List Nat} (e : leftOf y m = k :: r) : outL y k (leftOf y m) = leftOf y (k + 1) := (left_next e).symm
theorem outL_len (y : Lay) (k : Nat) (l : List Nat) : (outL y k l).length ≤ l.length := List.length_filter_le _ _
theorem outL_lt {y : Lay} {k : Nat} {r : List Nat} (t : There y k) : (outL y k (k :: r)).length < (k :: r).length := by
  have h : k ∈ isl y k := (mem_isl t).mpr .self
  have e : outL y k (k :: r) = outL y k r := by
    unfold outL
    rw [List.filter_cons]
    simp [h]
  rw [e, List.length_cons]
  have := outL_len y k r
  omega
end Rk
end
section
set_option Elab.async false
set_option linter.all false
set_option maxRecDepth 100000
set_option maxHeartbeats 4000000
/-! The law's islands. -/
namespace Rk
open PySem PySem.Spec PyProof.Rows L2
/-- numbers -/
abbrev nv (l : List Nat) : List V := (l.map Int.ofNat).map V.int
theorem nv_at {l : List Nat} {i k : Nat} (h : l[i]? = some k) : (nv l)[i]? = some (V.int (k : Nat)) := by
  rw [List.getElem?_map, List.getElem?_map, h]
  rfl
theorem nv_len (l : List Nat) : (nv l).length = l.length := by rw [List.length_map, List.length_map]
theorem nv_snoc (l : List Nat) (k : Nat) : nv (l ++ [k]) = nv l ++ [V.int (k : Nat)] := by
  unfold nv
  rw [List.map_append, List.map_append]
  rfl
theorem nv_flat (l : List Nat) : (nv l).all flatV = true := by
  rw [List.all_eq_true]
  intro x hx
  obtain ⟨i, _, rfl⟩ := List.mem_map.mp hx
  rfl
theorem nv_in (k : Nat) (l : List Nat) : inV (.int (k : Nat)) (nv l) = decide (k ∈ l) := by
  rw [inV_ints, decide_eq_decide, List.mem_map]
  constructor
  · rintro ⟨j, hj, e⟩
    have e2 : j = k := Int.ofNat_inj.mp e
    exact e2 ▸ hj
  · exact fun h => ⟨k, h, rfl⟩
theorem jn_get {H : Hp} {kvs : List (List Key × V)} {y : Lay} (h : Paired (JnF H y) kvs (allEnds y)) {z : Nat × Nat × Po} (hz : z ∈ allEnds y) : ∃ v, valV kvs [.inl (z.1 : Int), .inl (z.2.1 : Int)] = some v ∧ JoH H v (jt y z.2.2) := by
  rcases pv_find (F := JnF H y) (key := fun z : Nat × Nat × Po => ([.inl (z.1 : Int), .inl (z.2.1 : Int)] : List Key)) (fun _ _ h => h.1) [.inl (z.1 : Int), .inl (z.2.1 : Int)] h with ⟨_, e2⟩ | ⟨kv, z', e1, e2, hF⟩
  · have := List.find?_eq_none.mp e2 z hz
    exact absurd (decide_eq_true rfl) this
  · have m := List.mem_of_find?_eq_some e2
    have e3 := of_decide_eq_true (List.find?_some (p := fun w : Nat × Nat × Po => decide (([.inl (w.1 : Int), .inl (w.2.1 : Int)] : List Key) = [.inl (z.1 : Int), .inl (z.2.1 : Int)])) e2)
    simp only [List.cons.injEq, Sum.inl.injEq, and_true] at e3
    obtain ⟨pc, h1, h2⟩ := mem_all.mp m
    obtain ⟨pc', h3, h4⟩ := mem_all.mp hz
    rw [show z'.1 = z.1 by omega, h3] at h1
    cases Option.some.inj (Option.some.inj h1)
    rw [show z'.2.1 = z.2.1 by omega, h4] at h2
    have e4 : z.2.2 = z'.2.2 := Option.some.inj h2
    refine ⟨kv.2, e1, ?_⟩
    rw [e4]
    exact hF.2
theorem keys_at {H : Hp} {y : Lay} : ∀ {kvs : List (List Key × V)} {zs : List (Nat × Nat × Po)} {bs : List Addr} {j : Nat} {b : Addr}, Paired (JnF H y) kvs zs → IsKeys H kvs bs → bs[j]? = some b → ∃ z, zs[j]? = some z ∧ H b = some (.tup [.int (z.1 : Nat), .int (z.2.1 : Nat)])
  | _, _, _, j, b, h, hk, e => by
    obtain ⟨p, hp, hb⟩ := pr_got hk e
    obtain ⟨z, hz, hF⟩ := pr_get h hp
    refine ⟨z, hz, ?_⟩
    rw [hb, hF.1]
    rfl
section
variable {P : Program} {w : World} {K : PySem.W.Frag} {mg : Str → Option Value} {base : Heap}
def spIslL : Sp := fun vs H Q _ => ∃ (a d : Addr) (y : Lay), vs = [.ref a, .ref d] ∧ LayL H a y ∧ JnH H d y ∧ y.length ≤ 60 ∧ ∀ H' t xs, Same H H' → H t = none → H' t = some (.tup xs) → IslsH H' xs (isles y) → Q (.ref t) H'
abbrev nIslL : List Str := ["_law_layout", "_law_joins_here", "_law_left", "_law_found", "_law_island", "_law_at", "_law_pair", "_law_k", "_law_number"]
theorem sc_islL : FnScope nIslL ["_law_layout", "_law_joins_here"] (defScope s_law_islands) := ⟨rfl, rfl, rfl, by decide +kernel, rfl, by decide +kernel, by decide +kernel⟩
theorem c_islL (D : Dn K mg "_law_islands" s_law_islands) (mr : mg "range" = none) (ml : mg "len" = none) (mt : mg "tuple" = none) (mi : mg "int" = none) (ms : mg "sorted" = none) (mli : mg "list" = none) : Cal P w K mg base 1 "_law_islands" spIslL := by
  refine D.cal sc_islL (fun vs H Q E h => ?_) (fun _ _ _ _ _ _ us hl => match us, hl with | [_, _], _ => rfl) (fun f cdv A outer s H vs Q E hr h => ?_)
  · obtain ⟨a, d, y, rfl, _⟩ := h
    rfl
  · obtain ⟨a, d, y, rfl, hy, hd, hyl, q⟩ := h
    have nd := sc_islL.nd
    refine ⟨_, pss_cons (ps_setLc (i := 2) (own := [("_law_k", 7)]) (g := gName 7) (te := tVar 7) (by rfl) nd rfl rfl (sw_true rfl rfl rfl rfl) (pi_range1 (by rfl) mr (pa_cons (pe_callB call_len_seq (by rfl) ml PySem.boot_len (pa_cons (pv 0) pa_nil)) pa_nil))
          (blkOk_by (N := nIslL) (sc := defScope s_law_islands) (by decide +kernel))
          (fun _ _ _ _ _ => pg_name (i := 7) nd rfl (.inl rfl)) (fun _ _ _ _ _ => pts_one (t := tTest (tOp rNotN (tOp (rIxL K) (tVar 0) (tVar 7)) (tC .non))) (pt_cmpR op_notN1 (pe_ix ix_list (pv 0) (pv 7) (fun _ _ => rfl)) pe_non (nomark _))) (fun _ _ _ _ _ => pv 7))
      (pss_cons (ps_set (i := 3) nd rfl (.inl rfl) (pe_lst pa_nil))
      (pss_cons (ps_while PassesOwn.never (pt_cmpR op_gt (pe_callB call_len_seq (by rfl) ml PySem.boot_len (pa_cons (pv 2) pa_nil)) pe_int (nomark _))
        (pss_cons (ps_set (i := 4) nd rfl (.inr rfl) (pe_lst (pa_cons (pe_ix ix_list (pv 2) pe_int (fun _ _ => rfl)) pa_nil)))
        (pss_cons (ps_set (i := 5) nd rfl (.inl rfl) pe_int)
        (pss_cons (ps_while PassesOwn.never (pt_cmpR op_lt (pv 5) (pe_callB call_len_seq (by rfl) ml PySem.boot_len (pa_cons (pv 4) pa_nil)) (nomark _))
          (pss_cons (ps_for PassesOwn.never rfl (pi_list (pe_callTy (call_list_dT rfl) (by rfl) mli boot_list (pa_cons (pv 1) pa_nil))) (pg_name (i := 6) nd rfl (.inl rfl))
            (pss_one (ps_if (pw_and (pt_cmpR op_eq (pe_ix ix_tup (pv 6) pe_int (fun _ _ => rfl)) (pe_ix ix_list (pv 4) (pv 5) (fun _ _ => rfl)) (nomark _))
                (pw_and (pt_cmpR op_notN1 (pe_dget (Rm.u1 hr) (pv 1) (pv 6) (fun _ _ => rfl)) pe_non (nomark _))
                (pw_and1 (pt_cmpR op_notIn_seq (pe_ix ix_tup (pe_dget (Rm.u1 hr) (pv 1) (pv 6) (fun _ _ => rfl)) pe_int (fun _ _ => rfl)) (pv 4) (by rfl))))).pt
              (pss_one (ps_expr (pe_bm PySem.F.plainAttrs_list PySem.F.slot_list_append PySem.F.type_list_append mt_append (pv 4) (pa_cons (pe_ix ix_tup (pe_dget (Rm.u1 hr) (pv 1) (pv 6) (fun _ _ => rfl)) pe_int (fun _ _ => rfl)) pa_nil)))) pss_nil)))
          (pss_one (ps_set (i := 5) nd rfl (.inl rfl) (pe_op op_add (pv 5) pe_int)))))
        (pss_cons (ps_expr (pe_bm PySem.F.plainAttrs_list PySem.F.slot_list_append PySem.F.type_list_append mt_append (pv 3) (pa_cons (pe_callTy call_tuple_of (by rfl) mt boot_tuple (pa_cons (pe_callB cr_sorted (by rfl) ms boot_srt (pa_cons
            (pe_lc (own := [("_law_number", 8)]) (g := gName 8) (tt := tYes) (te := tCB rInt1 (tCons (tVar 8) tNil)) (by rfl) nd (pi_list (pv 4)) (blkOk_by (N := nIslL) (sc := defScope s_law_islands) (by decide +kernel))
              (fun _ _ _ _ _ => pg_name (i := 8) nd rfl (.inl rfl)) (fun _ _ _ _ _ => pts_nil) (fun _ _ _ _ _ => pe_callTy call_int2 (by rfl) mi boot_int (pa_cons (pv 8) pa_nil))) pa_nil)) pa_nil)) pa_nil)))
        (pss_one (ps_setLc (i := 2) (own := [("_law_number", 8)]) (g := gName 8) (te := tVar 8) (by rfl) nd rfl rfl (sw_true rfl rfl rfl rfl) (pi_list (pv 2)) (blkOk_by (N := nIslL) (sc := defScope s_law_islands) (by decide +kernel))
          (fun _ _ _ _ _ => pg_name (i := 8) nd rfl (.inl rfl)) (fun _ _ _ _ _ => pts_one (t := tTest (tOp (rIn K true) (tVar 8) (tVar 4))) (pt_cmpR op_notIn_seq (pv 8) (pv 4) (by rfl))) (fun _ _ _ _ _ => pv 8))))))))
      (pss_one (ps_ret (pe_callTy call_tuple_of (by rfl) mt boot_tuple (pa_cons (pv 3) pa_nil)))))), ?_⟩
    obtain ⟨pvs, ha, hp⟩ := hy
    obtain ⟨kvs, ed, hkv⟩ := hd
    have hlen : pvs.length = y.length := pr_len hp
    have gd : ∀ H', Same H H' → ∀ (b : Addr) (z : Nat × Nat × Po), z ∈ allEnds y → H' b = some (.tup [.int (z.1 : Nat), .int (z.2.1 : Nat)]) → ∃ v, DGet H' d (.ref b) (some v) ∧ JoH H' v (jt y z.2.2) := fun H' s b z hz eb => by
      obtain ⟨v, e1, e2⟩ := jn_get hkv hz
      refine ⟨v, ?_, e2.tk (sm_tk s)⟩
      have g := DGet.t (k := [.inl (z.1 : Int), .inl (z.2.1 : Int)]) (s _ _ ed) eb
      rw [e1] at g
      exact g
    -- what is there
    refine ⟨_, rfl, a, pvs, rfl, .inl (SqL.of ha), pvs.length, rfl, by omega, by omega, fun l2 hl2 => ?_⟩
    refine lc_range (lo := 0) (n := pvs.length) (fun i H' => Same H H' ∧ H' l2 = some (.lst (nv (thL y i)))) ⟨sm_upd hl2, upd_same⟩ ?_ ?_
    · rintro i H1 hi ⟨s1, e1⟩
      obtain ⟨pc, gpc, hpc⟩ := pr_get hp (List.getElem?_eq_getElem hi)
      have ei : (0 : Int) + (i : Nat) = (i : Int) := by omega
      have at1 : atI pvs (0 + (i : Nat)) = some pvs[i] := by
        rw [ei]
        exact atI_nat (List.getElem?_eq_getElem hi)
      refine ⟨rfl, ?_⟩
      refine ⟨_, rfl, _, rfl, a, pvs, _, pvs[i], rfl, rfl, SqL.of (s1 _ _ ha), at1, rfl, _, rfl, ?_⟩
      generalize pvs[i] = v at hpc
      cases pc with
      | none =>
        obtain rfl : v = .non := hpc
        refine ⟨s1, ?_⟩
        rw [thL_no (fun ⟨pc, z⟩ => by rw [gpc] at z; cases z)]
        exact e1
      | some pc =>
        obtain ⟨t, qa, rfl, _⟩ := hpc
        refine ⟨_, rfl, _, e1, lt24 (by rw [nv_len]; have := thL_len y i; omega), sm_upd' s1 hl2, ?_⟩
        rw [upd_same, thL_yes ⟨pc, gpc⟩, nv_snoc, ei]
    rintro H1 ⟨s1, e1⟩
    rw [hlen, thL_all] at e1
    refine ⟨Nat.zero_le _, fun l3 hl3 => ?_⟩
    have s2 := sm_upd (o := .lst []) hl3
    have n23 : l2 ≠ l3 := fun z => by
      rw [← z, e1] at hl3
      cases hl3
    have nl3 : H l3 = none := s1.free hl3
    -- the outer while
    refine ⟨fun m σ H' => ∃ (mm : Nat) (l2 : Addr) (rs : List V) (c4 c5 c6 c7 c8 : Option V), m = (leftOf y mm).length ∧ mm ≤ y.length ∧ σ = [some (.ref a), some (.ref d), some (.ref l2), some (.ref l3), c4, c5, c6, c7, c8] ∧ Same H H' ∧ l2 ≠ l3 ∧ H l2 = none ∧
      H' l2 = some (.lst (nv (leftOf y mm))) ∧ H' l3 = some (.lst rs) ∧ IslsH H' rs (islesTo y mm),
      ⟨_, 0, l2, [], none, none, none, _, none, rfl, Nat.zero_le _, rfl, s1.trans s2, n23, hl2, s2 _ _ e1, upd_same, .nil⟩, ?_⟩
    rintro m σ H2 ⟨mm, l2, rs, c4, c5, c6, c7, c8, rfl, hmm, rfl, s3, n23, nl2, e2, e3, hrs⟩
    refine ⟨_, rfl, l2, _, rfl, .inl (SqL.of e2), _, _, rfl, rfl, _, rfl, ite2 (fun c => ?_) (fun c => ?_)⟩
    · have c' := of_decide_eq_true c
      rw [nv_len] at c'
      obtain ⟨k0, rest, eL⟩ : ∃ k0 rest, leftOf y mm = k0 :: rest := by
        cases e : leftOf y mm with
        | nil =>
          rw [e] at c'
          exact absurd c' (by decide)
        | cons k r => exact ⟨k, r, rfl⟩
      obtain ⟨hmk, ht0, hnext⟩ := left_head eL
      have hsz2 := left_len y mm
      have hrl : rs.length ≤ 60 := by
        rw [pr_len hrs]
        exact Nat.le_trans (isles_len y mm) (by omega)
      refine ⟨fun σ' H' => ∃ (mm' : Nat) (l2' : Addr) (rs' : List V) (c4 c5 c6 c7 c8 : Option V), (leftOf y mm').length < (leftOf y mm).length ∧ mm' ≤ y.length ∧ σ' = [some (.ref a), some (.ref d), some (.ref l2'), some (.ref l3), c4, c5, c6, c7, c8] ∧ Same H H' ∧ l2' ≠ l3 ∧ H l2' = none ∧
        H' l2' = some (.lst (nv (leftOf y mm'))) ∧ H' l3 = some (.lst rs') ∧ IslsH H' rs' (islesTo y mm'),
        (fun σ' H' ⟨mm', l2', rs', c4, c5, c6, c7, c8, h1, h2⟩ => ⟨_, h1, mm', l2', rs', c4, c5, c6, c7, c8, rfl, h2⟩), ?_⟩
      have g0 : (leftOf y mm)[0]? = some k0 := by rw [eL]; rfl
      refine ⟨_, rfl, l2, _, 0, .int (k0 : Nat), rfl, rfl, SqL.of e2, atI_nat (nv_at g0), (by show 1 ≤ sizeLine; decide), fun l4 hl4 => ?_⟩
      have s4 := sm_upd (o := .lst [.int (k0 : Nat)]) hl4
      have n42 : l4 ≠ l2 := fun z => by
        rw [z, e2] at hl4
        cases hl4
      have n43 : l4 ≠ l3 := fun z => by
        rw [z, e3] at hl4
        cases hl4
      -- the inner while
      refine ⟨fun m σ H' => ∃ (fs : List Nat) (at_ : Nat) (c6 c7 c8 : Option V), m = y.length - at_ ∧ at_ ≤ fs.length ∧ σ = [some (.ref a), some (.ref d), some (.ref l2), some (.ref l3), some (.ref l4), some (.int (at_ : Nat)), c6, c7, c8] ∧ Same H2 H' ∧
        H' l4 = some (.lst (nv fs)) ∧ fs.Nodup ∧ k0 ∈ fs ∧ (∀ k ∈ fs, Reach y k0 k) ∧ (∀ i k, i < at_ → fs[i]? = some k → ∀ b, Adj y k b → b ∈ fs),
        ⟨_, [k0], 0, _, _, _, rfl, Nat.zero_le _, rfl, s4, upd_same, List.nodup_cons.mpr ⟨List.not_mem_nil, List.nodup_nil⟩, List.mem_singleton.mpr rfl, (fun k z => by rw [List.mem_singleton.mp z]; exact .self), (fun i k z => absurd z (Nat.not_lt_zero _))⟩, ?_⟩
      rintro m2 σ H3 ⟨fs, at_, c6, c7, c8, rfl, hat, rfl, s5, e4, ndf, hk0, hfs, hcl⟩
      have hfl : fs.length ≤ y.length := nd_len ndf fun k hk => ((hfs k hk).there ht0).lt
      refine ⟨_, rfl, _, rfl, l4, _, rfl, .inl (SqL.of e4), _, _, rfl, rfl, _, rfl, ite2 (fun c => ?_) (fun c => ?_)⟩
      · have hat2 : at_ < fs.length := by
          have z := of_decide_eq_true c
          rw [nv_len] at z
          omega
        have gk : fs[at_]? = some fs[at_] := List.getElem?_eq_getElem hat2
        generalize hkk : fs[at_] = k at gk
        have hkr : Reach y k0 k := hfs k (List.mem_of_getElem? gk)
        refine ⟨fun σ' H' => ∃ (fs : List Nat) (at' : Nat) (c6 c7 c8 : Option V), y.length - at' < y.length - at_ ∧ at' ≤ fs.length ∧ σ' = [some (.ref a), some (.ref d), some (.ref l2), some (.ref l3), some (.ref l4), some (.int (at' : Nat)), c6, c7, c8] ∧ Same H2 H' ∧
          H' l4 = some (.lst (nv fs)) ∧ fs.Nodup ∧ k0 ∈ fs ∧ (∀ k ∈ fs, Reach y k0 k) ∧ (∀ i k, i < at' → fs[i]? = some k → ∀ b, Adj y k b → b ∈ fs),
          (fun σ' H' ⟨fs, at', c6, c7, c8, h1, h2⟩ => ⟨_, h1, fs, at', c6, c7, c8, rfl, h2⟩), ?_⟩
        have s35 := s3.trans s5
        refine ⟨_, rfl, d, kvs, rfl, .inl (s35 _ _ ed), fun p bs np hbs => ?_⟩
        have s6 := sm_upd (o := .lst (bs.map V.ref)) np
        have n4p : l4 ≠ p := fun z => by
          rw [← z, e4] at np
          cases np
        have hkv3 : Paired (JnF H3 y) kvs (allEnds y) := Paired.mapP hkv fun _ _ q => q.tk (sm_tk s35)
        refine ⟨p, rfl, ⟨_, SqL.of upd_same⟩, ?_⟩
        refine for_it (walk_list (K := K) (a := p) (xs := bs.map V.ref)) (fun j σ H' => ∃ (fs' : List Nat) (c6 : Option V), σ = [some (.ref a), some (.ref d), some (.ref l2), some (.ref l3), some (.ref l4), some (.int (at_ : Nat)), c6, c7, c8] ∧ Same H2 H' ∧ (∀ u o, u ≠ l4 → (upd H3 p (.lst (bs.map V.ref))) u = some o → H' u = some o) ∧
          H' l4 = some (.lst (nv fs')) ∧ fs'.Nodup ∧ (∃ ext, fs' = fs ++ ext) ∧ (∀ k ∈ fs', Reach y k0 k) ∧ (∀ z ∈ (allEnds y).take j, z.1 = k → ∀ w, jt y z.2.2 = some w → w.1 ∈ fs'))
          ⟨fs, _, rfl, s5.trans s6, fun _ _ _ h => h, s6 _ _ e4, ndf, ⟨[], (List.append_nil _).symm⟩, hfs, fun z hz => by simp at hz⟩ (fun j σ H' _ z => ?_) ?_ ?_
        · obtain ⟨_, _, _, _, k6, _⟩ := z
          exact SqL.of (k6 _ _ (Ne.symm n4p) upd_same)
        · rintro j v σ H4 H5 hj ⟨fs', c6, rfl, s7, k7, e4', ndf', ⟨ext, ex⟩, hfs', hdone⟩ ⟨rfl, gx⟩
          rw [List.getElem?_map] at gx
          cases gb : bs[j]? with
          | none =>
            rw [gb] at gx
            cases gx
          | some b =>
            rw [gb] at gx
            obtain rfl : V.ref b = v := Option.some.inj gx
            obtain ⟨z, gz, hb⟩ := keys_at hkv3 hbs gb
            have hzm : z ∈ allEnds y := List.mem_of_getElem? gz
            have nb4 : b ≠ l4 := fun q => by
              rw [q, e4] at hb
              cases hb
            have hb5 := k7 _ _ nb4 (s6 _ _ hb)
            have gk' : fs'[at_]? = some k := by
              rw [ex, List.getElem?_append_left hat2]
              exact gk
            have sH5 := s3.trans s7
            obtain ⟨v, gdv, jo⟩ := gd H5 sH5 b z hzm hb5
            have hfl' : fs'.length ≤ y.length := nd_len ndf' fun k hk => ((hfs' k hk).there ht0).lt
            have stay : (z.1 = k → ∀ w, jt y z.2.2 = some w → w.1 ∈ fs') → ∃ (fs'' : List Nat) (c6' : Option V), ([some (.ref a), some (.ref d), some (.ref l2), some (.ref l3), some (.ref l4), some (.int (at_ : Nat)), c6, c7, c8] : L2.St).set 6 (some (.ref b)) = [some (.ref a), some (.ref d), some (.ref l2), some (.ref l3), some (.ref l4), some (.int (at_ : Nat)), c6', c7, c8] ∧ Same H2 H5 ∧ (∀ u o, u ≠ l4 → (upd H3 p (.lst (bs.map V.ref))) u = some o → H5 u = some o) ∧
                H5 l4 = some (.lst (nv fs'')) ∧ fs''.Nodup ∧ (∃ ext, fs'' = fs ++ ext) ∧ (∀ k ∈ fs'', Reach y k0 k) ∧ (∀ z ∈ (allEnds y).take (j + 1), z.1 = k → ∀ w, jt y z.2.2 = some w → w.1 ∈ fs'') := fun hz =>
              ⟨fs', _, rfl, s7, k7, e4', ndf', ⟨ext, ex⟩, hfs', fun z' hz' => by
                rw [take_at gz] at hz'
                rcases List.mem_append.mp hz' with q | q
                · exact hdone z' q
                · rw [List.mem_singleton.mp q]
                  exact hz⟩
            refine ⟨_, rfl, b, _, 0, .int (z.1 : Nat), rfl, rfl, sqt_of hb5, rfl, _, rfl, _, rfl, l4, _, (at_ : Int), .int (k : Nat), rfl, rfl, SqL.of e4', atI_nat (nv_at gk'), rfl, _, rfl, ?_⟩
            by_cases ek : z.1 = k
            · refine if_t (decide_eq_true (by rw [ek])) ?_
              refine ⟨_, rfl, _, rfl, d, v, rfl, gdv, rfl, _, rfl, ?_⟩
              cases ej : jt y z.2.2 with
              | none =>
                rw [ej] at jo
                obtain rfl : v = .non := jo
                exact stay fun _ w hw => by rw [ej] at hw; cases hw
              | some w =>
                rw [ej] at jo
                obtain ⟨tw, rfl, hw⟩ := jo
                refine if_t rfl ?_
                refine ⟨_, rfl, _, rfl, d, .ref tw, rfl, gdv, tw, _, 0, .int (w.1 : Nat), rfl, rfl, sqt_of hw, rfl, _, rfl, l4, _, rfl, .inl (SqL.of e4'), rfl, nv_flat _, _, rfl, ?_⟩
                show if (!inV (.int (w.1 : Nat)) (nv fs')) = true then _ else _
                rw [nv_in]
                by_cases ew : w.1 ∈ fs'
                · rw [decide_eq_true ew]
                  exact stay fun _ w' hw' => by
                    rw [ej] at hw'
                    cases hw'
                    exact ew
                · rw [decide_eq_false ew]
                  refine if_t rfl ?_
                  refine ⟨_, rfl, .inl ⟨rfl, _, SqL.of e4'⟩, _, rfl, _, rfl, d, .ref tw, rfl, gdv, tw, _, 0, .int (w.1 : Nat), rfl, rfl, sqt_of hw, rfl, l4, _, _, rfl, rfl, e4', lt24 (by rw [nv_len]; omega), ?_⟩
                  have hadj : Adj y k w.1 := adj_iff.mpr ⟨z, hzm, ek, w, ej, rfl⟩
                  refine ⟨fs' ++ [w.1], _, rfl, sm_upd' s7 hl4, fun u o nu e => (upd_ne nu).trans (k7 u o nu e), ?_, nd_snoc ndf' ew, ⟨ext ++ [w.1], by rw [ex, List.append_assoc]⟩, fun q hq => ?_, fun z' hz' => ?_⟩
                  · rw [upd_same, nv_snoc]
                  · rcases List.mem_append.mp hq with hq | hq
                    · exact hfs' q hq
                    · rw [List.mem_singleton.mp hq]
                      exact .step hkr hadj
                  · rw [take_at gz] at hz'
                    rcases List.mem_append.mp hz' with q | q
                    · exact fun h1 w' h2 => List.mem_append_left _ (hdone z' q h1 w' h2)
                    · rw [List.mem_singleton.mp q]
                      intro _ w' hw'
                      rw [ej] at hw'
                      cases hw'
                      exact List.mem_append_right _ (List.mem_singleton.mpr rfl)
            · refine if_f (decide_eq_false fun q => ek ?_) (stay fun q => absurd q ek)
              exact Int.ofNat_inj.mp (V.int.inj q)
        · rintro σ H4 ⟨fs', c6, rfl, s7, k7, e4', ndf', ⟨ext, ex⟩, hfs', hdone⟩
          have hbl : (bs.map V.ref).length = (allEnds y).length := by
            rw [List.length_map, ← pr_len hbs, pr_len hkv3]
          rw [hbl, List.take_length] at hdone
          refine ⟨_, rfl, _, _, rfl, rfl, fs', at_ + 1, _, _, _, by omega, by rw [ex, List.length_append]; omega, rfl, s7, e4', ndf', by rw [ex]; exact List.mem_append_left _ hk0, hfs', fun i k' hi gi => ?_⟩
          by_cases ei : i < at_
          · have gi' : fs[i]? = some k' := by
              rw [ex, List.getElem?_append_left (by omega)] at gi
              exact gi
            exact fun b hb => by
              rw [ex]
              exact List.mem_append_left _ (hcl i k' ei gi' b hb)
          · have ei2 : i = at_ := by omega
            rw [ei2, ex, List.getElem?_append_left hat2, gk] at gi
            obtain rfl : k = k' := Option.some.inj gi
            exact adj_done hdone
      · have hat2 : at_ = fs.length := by
          have z : ¬ ((at_ : Int) < ((nv fs).length : Nat)) := fun z => c (decide_eq_true z)
          rw [nv_len] at z
          omega
        subst hat2
        have hall : ∀ z, z ∈ fs ↔ Reach y k0 z := fun z => ⟨hfs z, fun hz => reach_of hk0 (fun k hk b hb => by
          obtain ⟨i, hi, e⟩ := List.getElem_of_mem hk
          exact hcl i k hi (by rw [List.getElem?_eq_getElem hi, e]) b hb) hz⟩
        have e35 := s5 _ _ e3
        refine ⟨_, rfl, .inl ⟨rfl, _, SqL.of e35⟩, _, rfl, l4, rfl, ⟨_, SqL.of e4⟩, fun l5 hl5 => ?_⟩
        refine lc_it (walk_list (K := K) (a := l4) (xs := nv fs)) (fun i H' => Same H3 H' ∧ H' l5 = some (.lst ((nv fs).take i))) ⟨sm_upd hl5, upd_same⟩ (fun i H' _ z => SqL.of (z.1 _ _ e4)) ?_ ?_
        · rintro i v H4 H5 hi ⟨s6, e6⟩ ⟨rfl, gx⟩
          have gx2 := gx
          rw [List.getElem?_map] at gx2
          cases gn : (fs.map Int.ofNat)[i]? with
          | none =>
            rw [gn] at gx2
            cases gx2
          | some n =>
            rw [gn] at gx2
            obtain rfl : V.int n = v := Option.some.inj gx2
            refine ⟨rfl, ?_⟩
            refine ⟨_, rfl, .inl ⟨n, rfl, _, e6, lt24 (by rw [List.length_take, nv_len]; omega), sm_upd' s6 hl5, ?_⟩⟩
            rw [upd_same, take_at gx]
        · rintro H4 ⟨s6, e6⟩
          rw [List.take_length] at e6
          refine ⟨l5, fs.map Int.ofNat, rfl, SqL.of e6, by rw [List.length_map]; omega, fun ys l6 hperm hord hl6 => ?_⟩
          have ey := isl_sorted ht0 ndf hall hperm hord
          subst ey
          have s7 := sm_upd (o := .lst (nv (isl y k0))) hl6
          refine ⟨l6, _, rfl, .inl ⟨SqL.of upd_same, fun t7 ht7 => ?_⟩⟩
          have s8 := sm_upd (o := .tup (nv (isl y k0))) ht7
          have s68 := s6.trans (s7.trans s8)
          have e38 := s68 _ _ e35
          refine ⟨l3, rs, .ref t7, rfl, rfl, e38, lt24 (by omega), ?_⟩
          have tk9 : Tk _ (upd _ l3 (.lst (rs ++ [.ref t7]))) := tk_lst e38
          have s58 := s5.trans s68
          -- left = [..]
          have e29 : (upd _ l3 (.lst (rs ++ [.ref t7]))) l2 = some (.lst (nv (leftOf y mm))) := (upd_ne n23).trans (s58 _ _ e2)
          have e49 : (upd _ l3 (.lst (rs ++ [.ref t7]))) l4 = some (.lst (nv fs)) := (upd_ne n43).trans (s68 _ _ e4)
          have e39 : ∀ G : Hp, (upd G l3 (.lst (rs ++ [.ref t7]))) l3 = some (.lst (rs ++ [.ref t7])) := fun G => upd_same
          have hrs9 := pr_snoc (Paired.mapP hrs fun _ _ z => NsH.tk ((sm_tk s58).trans tk9) z) (show NsH _ _ (isl y k0) from ⟨t7, rfl, tk9 _ _ upd_same⟩)
          have s9 := sm_upd' (o := .lst (rs ++ [.ref t7])) (s3.trans s58) nl3
          rw [← hnext] at hrs9
          refine ⟨_, rfl, l2, rfl, ⟨_, SqL.of e29⟩, fun l10 hl10 => ?_⟩
          refine lc_it (walk_list (K := K) (a := l2) (xs := nv (leftOf y mm))) (fun i H' => Same _ H' ∧ H' l10 = some (.lst (nv (outL y k0 ((leftOf y mm).take i))))) ⟨sm_upd hl10, upd_same⟩ (fun i H' _ z => SqL.of (z.1 _ _ e29)) ?_ ?_
          · rintro i v H5 H6 hi ⟨s10, e10⟩ ⟨rfl, gx⟩
            have hi2 : i < (leftOf y mm).length := by
              rw [← nv_len]
              exact hi
            have gn : (leftOf y mm)[i]? = some (leftOf y mm)[i] := List.getElem?_eq_getElem hi2
            generalize (leftOf y mm)[i] = n at gn
            rw [nv_at gn] at gx
            obtain rfl : V.int (n : Nat) = v := Option.some.inj gx
            refine ⟨rfl, ?_⟩
            refine ⟨_, rfl, _, rfl, l4, _, rfl, .inl (SqL.of (s10 _ _ e49)), rfl, nv_flat _, _, rfl, ?_⟩
            show if (!inV (.int (n : Nat)) (nv fs)) = true then _ else _
            rw [nv_in, take_at gn]
            by_cases en : n ∈ isl y k0
            · have en2 : n ∈ fs := (hall n).mpr ((mem_isl ht0).mp en)
              rw [decide_eq_true en2, outL_snoc_in en]
              exact ⟨s10, e10⟩
            · have en2 : n ∉ fs := fun q => en ((mem_isl ht0).mpr ((hall n).mp q))
              rw [decide_eq_false en2, outL_snoc_out en]
              have hol := outL_len y k0 ((leftOf y mm).take i)
              rw [List.length_take] at hol
              refine if_t rfl ⟨_, rfl, _, e10, lt24 (by rw [nv_len]; omega), sm_upd' s10 hl10, ?_⟩
              rw [upd_same, nv_snoc]
          · rintro H5 ⟨s10, e10⟩
            rw [nv_len, List.take_length] at e10
            have hlt := outL_lt (r := rest) ht0
            rw [← eL] at hlt
            rw [outL_left eL] at e10 hlt
            refine ⟨k0 + 1, l10, rs ++ [.ref t7], _, _, _, _, _, hlt, ht0.lt, rfl, s9.trans s10, fun z => ?_, s9.free hl10, e10, s10 _ _ (e39 _), Paired.mapP hrs9 fun _ _ z => z.tk (sm_tk s10)⟩
            rw [z, e39 _] at hl10
            cases hl10
    · have c' : leftOf y mm = [] := by
        cases e : leftOf y mm with
        | nil => rfl
        | cons k r =>
          refine absurd (decide_eq_true ?_) c
          rw [nv_len, e, List.length_cons]
          omega
      rw [left_nil c' hmm] at hrs
      refine ⟨_, rfl, l3, rs, rfl, .inl ⟨SqL.of e3, fun t ht => ?_⟩⟩
      have s4 := sm_upd (o := .tup rs) ht
      exact q _ t rs (s3.trans s4) (s3.free ht) upd_same (Paired.mapP hrs fun _ _ z => z.tk (sm_tk s4))
end
end Rk
end
section
set_option Elab.async false
set_option linter.all false
set_option maxRecDepth 100000
set_option maxHeartbeats 4000000
/-! The law's same, told. -/
namespace Rk
open PySem PySem.Spec PyProof.Rows L2
/-- data that repr can show -/
structure ShOk (d : PyData) : Prop where
  show_ : d.showable = true
  nodict : d.hasDict = false
  depth : d.depth ≤ 20
  size : d.shown.length ≤ sizeLine
section
variable {P : Program} {w : World} {K : PySem.W.Frag} {mg : Str → Option Value} {base : Heap}
/-- a def's body gives its promise, no guard around -/
theorem Fn.okG {x qual : Str} {st : Stmt} {f : Addr} {fd : FuncData} {N ps : List Str} {k : Nat} {sp : Sp} (F : Fn K x qual st f fd) (S : FnScope N ps (defScope st)) (len : ∀ vs H Q E, sp vs H Q E → vs.length = ps.length)
    (hb : ∀ (cdv : Value) (A : Around) (outer : List Env) (s : Shared) (H : Hp) (vs : List V) (Q : VK) (E : XK), A.guards = some [] → Room k (A.deeper (envOfC qual (defScope st) s.heap.objs.size f cdv)) → sp vs H Q E →
      ∃ t, PSs (cxOf CX0 P w K mg base N qual (defScope st) f cdv A outer s H E).nox (defBody st) t ∧ t { nx := fun _ H' => Q .non H', rt := Q } (start N vs) H) : FnG P w K mg base CX0 (k + 1) f fd ps sp := by
  obtain ⟨oc, od, dV, kV, doc, pm, an, cdv, ct, osl, efd, lk, hcd, _, _⟩ := F.ex
  subst efd
  refine ⟨len, fun A outer s H args us vs Q E hg hr e0 hbi r hsp => ?_⟩
  have hn := len _ _ _ _ hsp
  have stays : ∀ b o, base.get? b = some o → s.heap.get? b = some o := fun b o e => (e0.bs b o e).1
  have kin : K.In s.heap := e0.mod.kin.keeps stays
  have kinds : ∀ y ∈ ps.zip us, (defScope st).names.lookup y.1 = some .local ∨ ((defScope st).names.lookup y.1 = some .cell ∧ ((cellsFrom (s.heap.objs.size + 1) (defScope st).names []).lookup y.1).isSome = true) := by
    rintro ⟨n, v⟩ hy
    cases S.par n (List.of_mem_zip hy).1 with
    | inl q => exact .inl q
    | inr q => exact .inr ⟨q, PySem.W.cellsFrom_some _ _ _ (.inl q)⟩
  refine codeAny_call_function hr.depth (kin _ _ lk) rfl S.co S.gen rfl (PySem.W.codeRec_of kin hcd) (hbi _ _ _ _ (wpAny_newFunctionEnv_cells S.kind kinds fun env he s1 inCall => ?_))
  subst he
  obtain ⟨t, ht, hq⟩ := hb cdv A outer s H vs Q E hg (hr.deeper _) hsp
  have I := inv_start (CX := CX0) (E := E) S hr.hd e0 hn r inCall
  refine ⟨(e0.mod.nolimit.keeps stays).keeps inCall.toInCall.keep, codeAny_func ?_⟩
  refine wpAny_mono (ht.nox.run [] s1 (start N vs) H _ I hq) (fun fl s' done => ?_) fun _ _ q => q
  cases fl with
  | next =>
    obtain ⟨σ', H', J, q⟩ := done
    exact ⟨.non, H', J.os, J.bare, J.base, J.hok, rfl, q⟩
  | ret u =>
    obtain ⟨v, σ', H', J, rv, q⟩ := done
    exact ⟨v, H', J.os, J.bare, J.base, J.hok, rv, q⟩
  | brk =>
    obtain ⟨_, _, _, q⟩ := done
    exact q.elim
  | cont =>
    obtain ⟨_, _, _, q⟩ := done
    exact q.elim
structure CalG (P : Program) (w : World) (K : PySem.W.Frag) (mg : Str → Option Value) (base : Heap) (k : Nat) (x : Str) (sp : Sp) : Prop where
  ex : ∃ (f : Addr) (fd : FuncData) (ps : List Str), FnG P w K mg base CX0 k f fd ps sp ∧ mg x = some (.ref f) ∧ PySem.W.keepIn K (.ref f) = true ∧ Binds K fd ps []
theorem Dn.calG {x : Str} {st : Stmt} {N ps : List Str} {k : Nat} {sp : Sp} (D : Dn K mg x st) (S : FnScope N ps (defScope st)) (len : ∀ vs H Q E, sp vs H Q E → vs.length = ps.length)
    (bi : ∀ (kV doc pm : Value) (an : Option Addr) (cdv ct : Value) (us : List Value), us.length = ps.length → bindArgs (PySem.W.fnOf x x (defArgs st) (defBody st) (defScope st) .none kV doc pm an cdv ct) ⟨us, []⟩ = pure (ps.zip us))
    (hb : ∀ (f : Addr) (cdv : Value) (A : Around) (outer : List Env) (s : Shared) (H : Hp) (vs : List V) (Q : VK) (E : XK), A.guards = some [] → Room k (A.deeper (envOfC x (defScope st) s.heap.objs.size f cdv)) → sp vs H Q E →
      ∃ t, PSs (cxOf CX0 P w K mg base N x (defScope st) f cdv A outer s H E).nox (defBody st) t ∧ t { nx := fun _ H' => Q .non H', rt := Q } (start N vs) H) : CalG P w K mg base (k + 1) x sp := by
  obtain ⟨f, fd, F, hm⟩ := D.ex
  exact ⟨f, fd, ps, Fn.okG F S len (hb f), hm, F.kp, F.bindsN bi⟩
end
section
variable {X : Cx} {k j : Nat} {x : Str} {sp : Sp} {p pos : Pos} {e : Expr} {es : List Expr} {t : TA}
theorem pe_cG (c : CalG X.prog X.w X.K X.mg X.base k x sp) (hgd : X.A.guards = some []) (hr : Room j X.A) (hk : k ≤ j) (hg : Gl X x) (ha : PA X (e :: es) t)
    (hdb : (x == ("__debug__" : Str)) = false := by decide) (he : starEach (e :: es) X.env = (false, eval e X.env) :: starEach es X.env := by rfl) (hpl : (backTo pos (starEach es X.env)).any (·.1) = false := by rfl) :
    PE X (.Call (.Name x p) (e :: es) [] pos) (tCall sp [] E0 t) := by
  obtain ⟨f, fd, ps, F, hm, kp, b⟩ := c.ex
  exact pe_callG F hgd (hr.mono hk) hg hm kp b pass0 ha hdb he hpl
end
section
variable {P : Program} {w : World} {K : PySem.W.Frag} {mg : Str → Option Value} {base : Heap} {C B fI : Addr}
def spSame (K : PySem.W.Frag) : Sp := fun vs H Q _ => ∃ (x z : V) (d : PyData), vs = [x, z] ∧ Dp K H x d ∧ Dp K H z d ∧ ShOk d ∧ Q (.bl true) H
theorem sc_same : FnScope ["_law_actual", "_law_due"] ["_law_actual", "_law_due"] (defScope s_law_same) := ⟨rfl, rfl, rfl, by decide +kernel, rfl, by decide +kernel, by decide +kernel⟩
theorem boot_rep : bootBuiltins "repr" = some (.builtin "repr") := by decide +kernel
theorem c_same (D : Dn K mg "_law_same" s_law_same) (mr : mg "repr" = none) : CalG P w K mg base 1 "_law_same" (spSame K) := by
  refine D.calG sc_same (fun vs H Q E h => ?_) (fun _ _ _ _ _ _ us hl => match us, hl with | [_, _], _ => rfl) (fun f cdv A outer s H vs Q E hg hr h => ?_)
  · obtain ⟨x, z, d, rfl, _⟩ := h
    rfl
  · obtain ⟨x, z, d, rfl, hx, hz, so, q⟩ := h
    refine ⟨_, pss_one (ps_ret (pe_cmpR op_eq (pe_callB (call_reprD hg hr.units) (by rfl) mr boot_rep (pa_cons (pv 0) pa_nil)) (pe_callB (call_reprD hg hr.units) (by rfl) mr boot_rep (pa_cons (pv 1) pa_nil)) (nomark _))), ?_⟩
    refine ⟨_, rfl, x, d, rfl, hx, so.show_, so.nodict, so.depth, so.size, _, rfl, z, d, rfl, hz, so.show_, so.nodict, so.depth, so.size, rfl, ?_⟩
    have e : decide (V.str d.shown = V.str d.shown) = true := decide_eq_true rfl
    rw [e]
    exact q
/-- a refusal, told -/
def RefQ (r : Str) (H : Hp) (Q : VK) : Prop := ∀ H' t, Same H H' → H t = none → H' t = some (.lst [.str "refused", .str r]) → Q (.ref t) H'
structure ToldOk (C : Addr) (F : Flr) (y : Lay) (past : List Lay) (zs : Lay) (H : Hp) (Q : VK) (R : Hp → Prop) : Prop where
  many : 24 < (y ++ zs).length → RefQ "too many pieces" H Q
  over : ¬ 24 < (y ++ zs).length → ¬ (poses (y ++ zs)).Nodup → RefQ "ends overlap" H Q
  fine : ¬ 24 < (y ++ zs).length → (poses (y ++ zs)).Nodup → ∀ H', SmS F.S H H' → FlH C F H' (y ++ zs) (past ++ [y]) → R H'
def spTold (C B : Addr) : Sp := fun vs H Q _ => ∃ (F : Flr) (y : Lay) (past : List Lay), FlH C F H y past ∧ y.length ≤ 900 ∧ past.length ≤ 1000 ∧
  ((∃ (k : Kd) (a : Addr) (p : Po), vs = [.ref F.fl, .int 0, .str k.str, .ref a] ∧ H a = some (.tup p.vs) ∧ ToldOk C F y past [some (k, p)] H Q (Q (.int (y.length : Nat)))) ∨
   (∃ (ls : List Lt) (a : Addr) (p : Po), vs = [.ref F.fl, .int 1, .str (rowS ls), .ref a] ∧ H a = some (.tup p.vs) ∧ ls.length ≤ 100 ∧ ToldOk C F y past ((plc p ls).map some) H Q fun H' => ∀ t, H' t = none → Q (.ref t) (upd H' t (.tup (((List.range' y.length ls.length).map Int.ofNat).map V.int)))) ∨
   (∃ (n : Nat), vs = [.ref F.fl, .int 2, .int (n : Nat), .non] ∧ (There y n → ∀ H', SmS F.S H H' → FlH C F H' (y.set n none) (past ++ [y]) → Q .non H') ∧ (¬ There y n → RefQ "no such piece" H Q)))
abbrev nTold : List Str := ["_law_floor", "_law_kind", "_law_first", "_law_second", "e"]
theorem sc_told : FnScope nTold ["_law_floor", "_law_kind", "_law_first", "_law_second"] (defScope s_law_told) := ⟨rfl, rfl, rfl, by decide +kernel, rfl, by decide +kernel, by decide +kernel⟩
def tsTold (B : Addr) : Addr → Value → Option Addr → TS := fun a cls d => tRet (tLst (tCons (tC (.str "refused")) (tCons (tReason B a cls d (tVar 4)) tNil)))
theorem told_ref (te : PySem.W.exmOne K (.ref B) (.ref B) = some true) {r : Str} {H : Hp} {D : Ends} {v0 v1 v2 v3 : V} {o4 : Option V} (h : RefQ r H D.rt) : Ref B r H (WE (wAs K (.ref B) 4 (tsTold B) (fun _ _ _ _ => False) D) [some v0, some v1, some v2, some v3, o4]) := fun H' d s e =>
  ⟨true, te, fun _ a na => ⟨_, rfl, rfl, rfl, d, _, rfl, e, (by show 2 ≤ sizeLine; decide), fun p np => h _ p (sm_updN s np) (s.free np) upd_same⟩, fun z => by cases z⟩
theorem c_told (D : Dn K mg "_law_told" s_law_told) (T : BadTxt P K mg B fI) (cl : FlCls K C) (cp : MCal (L2.CX P w) P w K mg base 8 C "place" (spPlace C B)) (cy : MCal (L2.CX P w) P w K mg base 8 C "lay" (spLay C B)) (cr : MCal (L2.CX P w) P w K mg base 3 C "remove" (spRemove C B)) : Cal P w K mg base 9 "_law_told" (spTold C B) := by
  refine D.cal sc_told (fun vs H Q E h => ?_) (fun _ _ _ _ _ _ us hl => match us, hl with | [_, _, _, _], _ => rfl) (fun f cdv A outer s H vs Q E hr h => ?_)
  · obtain ⟨F, y, past, _, _, _, h⟩ := h
    rcases h with ⟨_, _, _, rfl, _⟩ | ⟨_, _, _, rfl, _⟩ | ⟨_, rfl, _⟩ <;> rfl
  · obtain ⟨F, y, past, hF, hy, hp, h⟩ := h
    have nd := sc_told.nd
    refine ⟨_, pss_one (ps_try_as (i := 4) (tb := fun W => tSeq (tIfS (tTest (tOp rEq (tVar 1) (tC (.int 0)))) (tRet (tMethS C "place" (spPlace C B) (WE W) (tVar 0) (tCons (tVar 2) (tCons (tVar 3) tNil)))) tNext)
        (tSeq (tIfS (tTest (tOp rEq (tVar 1) (tC (.int 1)))) (tRet (tMethS C "lay" (spLay C B) (WE W) (tVar 0) (tCons (tVar 3) (tCons (tVar 2) tNil)))) tNext) (tRet (tMethS C "remove" (spRemove C B) (WE W) (tVar 0) (tCons (tVar 2) tNil)))))
      (ts := tsTold B) (Wout := fun _ _ _ _ => False) rfl rfl nd rfl rfl ⟨rfl, by decide, Or.inl T.gC⟩ takes0
      (fun W pn xe tk _ => pss_cons (ps_if (pt_cmpR op_eq (pv 1) pe_int (nomark _)) (pss_one (ps_ret (by exact pe_mS cp hr (by decide) cl.cls (fun σ => passAt tk σ) (pv 0) (pa_cons (pv 2) (pa_cons (pv 3) pa_nil))))) pss_nil)
        (pss_cons (ps_if (pt_cmpR op_eq (pv 1) pe_int (nomark _)) (pss_one (ps_ret (by exact pe_mS cy hr (by decide) cl.cls (fun σ => passAt tk σ) (pv 0) (pa_cons (pv 3) (pa_cons (pv 2) pa_nil))))) pss_nil)
        (pss_one (ps_ret (by exact pe_mS cr hr (by decide) cl.cls (fun σ => passAt tk σ) (pv 0) (pa_cons (pv 2) pa_nil))))))
      (fun a oe cls d pn hz hf => pss_one (ps_ret (pe_lst (pa_cons pe_str (pa_cons (by exact pe_reason T hz hf (pv 4)) pa_nil)))))), ?_⟩
    obtain ⟨pa, pr, hf, _⟩ := id hF
    rcases h with ⟨k, a, p, rfl, ha, q⟩ | ⟨ls, a, p, rfl, ha, hls, q⟩ | ⟨n, rfl, q1, q2⟩
    · refine ⟨_, rfl, rfl, _, rfl, if_t (by decide +kernel) ?_⟩
      exact ⟨_, rfl, F.fl, F.dx, _, rfl, hf, rfl, _, rfl, _, rfl, F, k, a, p, y, past, rfl, hF, ha, hy, hp, fun c => told_ref T.te (q.many c), fun c1 c2 => told_ref T.te (q.over c1 c2), q.fine⟩
    · refine ⟨_, rfl, rfl, _, rfl, if_f (by decide +kernel) ⟨_, rfl, rfl, _, rfl, if_t (by decide +kernel) ?_⟩⟩
      exact ⟨_, rfl, F.fl, F.dx, _, rfl, hf, rfl, _, rfl, _, rfl, F, a, p, ls, y, past, rfl, hF, ha, hy, hp, hls, fun c => told_ref T.te (q.many c), fun c1 c2 => told_ref T.te (q.over c1 c2), q.fine⟩
    · refine ⟨_, rfl, rfl, _, rfl, if_f (by decide +kernel) ⟨_, rfl, rfl, _, rfl, if_f (by decide +kernel) ?_⟩⟩
      exact ⟨_, rfl, F.fl, F.dx, _, rfl, hf, rfl, _, rfl, F, n, y, past, rfl, hF, by omega, hp, q1, fun c => told_ref T.te (q2 c)⟩
end
end Rk
end
section
set_option Elab.async false
set_option linter.all false
set_option maxRecDepth 100000
set_option maxHeartbeats 4000000
/-! Data that repr shows: small ints, few items. Bounds of poses. -/
namespace Rk
open PySem PySem.Spec PyProof.Rows L2
structure Fit (k w : Nat) (d : PyData) : Prop where
  sh : d.showable = true
  nd : d.hasDict = false
  dp : d.depth ≤ k
  wt : d.weight ≤ w
  lv : d.leavesShort 13 = true
theorem Fit.ok {k w : Nat} {d : PyData} (h : Fit k w d) (hk : k ≤ 20) (hw : w ≤ 2 ^ 20) : ShOk d := ⟨h.sh, h.nd, Nat.le_trans h.dp hk, PyData.shown_fits (by decide) (by decide) h.lv (Nat.le_trans h.wt hw)⟩
theorem Fit.mono {k w k' w' : Nat} {d : PyData} (h : Fit k w d) (hk : k ≤ k') (hw : w ≤ w') : Fit k' w' d := ⟨h.sh, h.nd, Nat.le_trans h.dp hk, Nat.le_trans h.wt hw, h.lv⟩
theorem fit_non : Fit 0 0 .none := ⟨rfl, rfl, Nat.le_refl _, Nat.le_refl _, by decide +kernel⟩
theorem fit_bl (b : Bool) : Fit 0 0 (.bool b) := ⟨rfl, rfl, Nat.le_refl _, Nat.le_refl _, by cases b <;> decide +kernel⟩
theorem fit_int {i : Int} (h : i.natAbs ≤ 1000000) : Fit 0 20 (.int i) := by
  have hl : i.natAbs.log2 < 20 := by
    by_cases e : i.natAbs = 0
    · rw [e]
      decide
    · rw [Nat.log2_lt e]
      exact Nat.lt_of_le_of_lt h (by decide)
  refine ⟨decide_eq_true (by omega), rfl, Nat.le_refl _, ?_, ?_⟩
  · show (if (i == 0) = true then 0 else i.natAbs.log2 + 1) ≤ 20
    split <;> omega
  · show decide (_ ≤ 13) = true
    exact decide_eq_true (PyData.shown_int_le (Nat.lt_of_le_of_lt h (by decide)))
theorem fit_all {k w : Nat} : ∀ {ds : List PyData}, (∀ d ∈ ds, Fit k w d) → PyData.showableAll ds = true ∧ PyData.hasDictAll ds = false ∧ PyData.depthAll ds ≤ k ∧ PyData.weightAll ds ≤ ds.length * (w + 1) ∧ PyData.leavesShortAll 13 ds = true
  | [], _ => ⟨rfl, rfl, Nat.zero_le _, Nat.zero_le _, rfl⟩
  | d :: r, h => by
    obtain ⟨a, b, c, e, f⟩ := fit_all (ds := r) fun x hx => h x (List.mem_cons_of_mem _ hx)
    have g := h d List.mem_cons_self
    refine ⟨?_, ?_, ?_, ?_, ?_⟩
    · show (PyData.showable d && PyData.showableAll r) = true
      rw [g.sh, a]
      rfl
    · show (PyData.hasDict d || PyData.hasDictAll r) = false
      rw [g.nd, b]
      rfl
    · show max (PyData.depth d) (PyData.depthAll r) ≤ k
      have := g.dp
      omega
    · show PyData.weight d + 1 + PyData.weightAll r ≤ (r.length + 1) * (w + 1)
      have := g.wt
      rw [Nat.succ_mul]
      omega
    · show (PyData.leavesShort 13 d && PyData.leavesShortAll 13 r) = true
      rw [g.lv, f]
      rfl
theorem fit_tup {k w n : Nat} {ds : List PyData} (h : ∀ d ∈ ds, Fit k w d) (hn : ds.length ≤ n) : Fit (k + 1) (n * (w + 1)) (.tuple ds) := by
  obtain ⟨a, b, c, e, f⟩ := fit_all h
  refine ⟨a, b, ?_, Nat.le_trans e (Nat.mul_le_mul_right _ hn), f⟩
  show PyData.depthAll ds + 1 ≤ k + 1
  omega
theorem fit_lst {k w n : Nat} {ds : List PyData} (h : ∀ d ∈ ds, Fit k w d) (hn : ds.length ≤ n) : Fit (k + 1) (n * (w + 1)) (.list ds) := by
  obtain ⟨a, b, c, e, f⟩ := fit_all h
  refine ⟨a, b, ?_, Nat.le_trans e (Nat.mul_le_mul_right _ hn), f⟩
  show PyData.depthAll ds + 1 ≤ k + 1
  omega
end Rk
end
section
set_option Elab.async false
set_option linter.all false
set_option maxRecDepth 100000
set_option maxHeartbeats 4000000
/-! The law's seems: what the data are. -/
namespace Rk
open PySem PySem.Spec PyProof.Rows L2
open GxR (TabG)

/-! ### bounds -/
structure Bd (m : Nat) (p : Po) : Prop where
  a : p.a.natAbs ≤ m
  b : p.b.natAbs ≤ m
  c : p.c.natAbs ≤ m
  d : p.d.natAbs ≤ m
  h : p.h.natAbs ≤ 8
theorem Bd.mono {m m' : Nat} {p : Po} (h : Bd m p) (l : m ≤ m') : Bd m' p := ⟨Nat.le_trans h.a l, Nat.le_trans h.b l, Nat.le_trans h.c l, Nat.le_trans h.d l, h.h⟩
def B4 (m : Nat) (p : P4) : Prop := p.a.natAbs ≤ m ∧ p.b.natAbs ≤ m ∧ p.c.natAbs ≤ m ∧ p.d.natAbs ≤ m
theorem mv_bd {m : Nat} {p : P4} (h : B4 m p) (d n : Int) : B4 (m + n.natAbs) (mv p d n) := by
  obtain ⟨a, b, c, e⟩ := p
  obtain ⟨h1, h2, h3, h4⟩ := h
  simp only at h1 h2 h3 h4
  unfold mv
  rcases eight d with z | z | z | z | z | z | z | z <;> rw [z] <;> simp only [B4] <;> refine ⟨?_, ?_, ?_, ?_⟩ <;> simp <;> omega
theorem rot_bd (q : P4) (e : Int) : B4 (q.a.natAbs + q.b.natAbs + q.c.natAbs + q.d.natAbs) (rot q e) := by
  have h0 : B4 0 ⟨0, 0, 0, 0⟩ := ⟨Nat.le_refl _, Nat.le_refl _, Nat.le_refl _, Nat.le_refl _⟩
  have h := mv_bd (mv_bd (mv_bd (mv_bd h0 (0 + e) q.a) (1 + e) q.b) (2 + e) q.c) (3 + e) q.d
  rw [Nat.zero_add] at h
  exact h
theorem laid_bd {m : Nat} {p q : Po} (h : Bd m p) (hq : q.a.natAbs + q.b.natAbs + q.c.natAbs + q.d.natAbs ≤ 4) : Bd (m + 4) (laid p q) := by
  obtain ⟨h1, h2, h3, h4⟩ := rot_bd q.pos p.h
  have e : q.pos.a.natAbs + q.pos.b.natAbs + q.pos.c.natAbs + q.pos.d.natAbs ≤ 4 := hq
  have := h.a
  have := h.b
  have := h.c
  have := h.d
  refine ⟨?_, ?_, ?_, ?_, ?_⟩
  · show (p.a + (rot q.pos p.h).a).natAbs ≤ m + 4
    omega
  · show (p.b + (rot q.pos p.h).b).natAbs ≤ m + 4
    omega
  · show (p.c + (rot q.pos p.h).c).natAbs ≤ m + 4
    omega
  · show (p.d + (rot q.pos p.h).d).natAbs ≤ m + 4
    omega
  · show ((p.h + q.h) % 8).natAbs ≤ 8
    omega
theorem back_bd {m : Nat} {p : Po} (h : Bd m p) : Bd m (back p) := ⟨h.a, h.b, h.c, h.d, by show ((p.h + 4) % 8).natAbs ≤ 8; omega⟩
theorem stp_bd {m : Nat} {p : Po} (h : Bd m p) (l : Lt) : Bd (m + 4) (stp p l) := laid_bd h (by cases l <;> decide)
theorem ends_bd {m : Nat} {p : Po} (h : Bd m p) (k : Kd) : ∀ q ∈ endsOf k p, Bd (m + 4) q := by
  intro q hq
  rcases List.mem_cons.mp hq with e | hq
  · rw [e]
    exact (back_bd h).mono (by omega)
  · obtain ⟨o, ho, rfl⟩ := List.mem_map.mp hq
    refine laid_bd h ?_
    clear hq
    have key : ∀ k : Kd, ∀ o ∈ others k, o.a.natAbs + o.b.natAbs + o.c.natAbs + o.d.natAbs ≤ 4 := fun k => by cases k <;> decide
    exact key k o ho
theorem plc_bd : ∀ (ls : List Lt) {m : Nat} {p : Po}, Bd m p → ∀ pc ∈ plc p ls, Bd (m + 4 * ls.length) pc.2
  | [], _, _, _, _, h => nomatch h
  | l :: r, m, p, hp, pc, h => by
    have hs := stp_bd hp l
    rcases List.mem_cons.mp h with e | h
    · rw [e]
      have h2 : Bd (m + 4) (pcOf p l).2 := by
        cases l with
        | R => exact back_bd hs
        | S => exact hp.mono (by omega)
        | H => exact hp.mono (by omega)
        | L => exact hp.mono (by omega)
      exact h2.mono (by rw [List.length_cons]; omega)
    · exact (plc_bd r hs pc h).mono (by rw [List.length_cons]; omega)
def LayBd (m : Nat) (y : Lay) : Prop := ∀ pc, some pc ∈ y → Bd m pc.2
theorem all_bd {m : Nat} {y : Lay} (h : LayBd m y) : ∀ z ∈ allEnds y, Bd (m + 4) z.2.2 := fun z hz => by
  obtain ⟨pc, h1, h2⟩ := mem_all.mp hz
  exact ends_bd (h pc (List.mem_of_getElem? h1)) pc.1 _ (List.mem_of_getElem? h2)

/-! ### data -/
theorem fit_po {p : Po} (h : Bd 900000 p) : Fit 1 105 (poD p) := by
  have e : ∀ d ∈ p.l.map PyData.int, Fit 0 20 d := by
    intro d hd
    obtain ⟨i, hi, rfl⟩ := List.mem_map.mp hd
    refine fit_int ?_
    have := h.a
    have := h.b
    have := h.c
    have := h.d
    have := h.h
    simp only [Po.l, List.mem_cons, List.not_mem_nil, or_false] at hi
    rcases hi with rfl | rfl | rfl | rfl | rfl <;> omega
  exact fit_tup (n := 5) e (Nat.le_refl _)
theorem fit_kd (k : Kd) : Fit 1 105 (.str k.str) := ⟨rfl, rfl, Nat.zero_le _, (by show 1 ≤ 105; decide), by cases k <;> decide +kernel⟩
theorem fit_pc {o : Option Pc} (h : ∀ pc, o = some pc → Bd 900000 pc.2) : Fit 2 212 (pcD o) := by
  cases o with
  | none => exact fit_non.mono (by decide) (by decide)
  | some pc =>
    refine fit_tup (n := 2) (k := 1) (w := 105) (fun d hd => ?_) (Nat.le_refl _)
    simp only [List.mem_cons, List.not_mem_nil, or_false] at hd
    rcases hd with rfl | rfl
    · exact fit_kd pc.1
    · exact fit_po (h pc rfl)
theorem fit_nat {n : Nat} (h : n ≤ 1000000) : Fit 0 20 (.int (n : Nat)) := fit_int (by omega)
theorem fit_tr {z : Nat × Nat × Po} (h1 : z.1 ≤ 1000) (h2 : z.2.1 ≤ 1000) (h : Bd 900000 z.2.2) : Fit 2 318 (trD z) := by
  refine fit_tup (n := 3) (k := 1) (w := 105) (fun d hd => ?_) (Nat.le_refl _)
  simp only [List.mem_cons, List.not_mem_nil, or_false] at hd
  rcases hd with rfl | rfl | rfl
  · exact (fit_nat (by omega)).mono (by decide) (by decide)
  · exact (fit_nat (by omega)).mono (by decide) (by decide)
  · exact fit_po h
theorem fit_pr {z : Nat × Nat} (h1 : z.1 ≤ 1000) (h2 : z.2 ≤ 1000) : Fit 1 42 (prD z) := by
  refine fit_tup (n := 2) (k := 0) (w := 20) (fun d hd => ?_) (Nat.le_refl _)
  simp only [List.mem_cons, List.not_mem_nil, or_false] at hd
  rcases hd with rfl | rfl
  · exact fit_nat (by omega)
  · exact fit_nat (by omega)
def nsD (ns : List Nat) : PyData := .tuple ((ns.map Int.ofNat).map PyData.int)
theorem fit_ns {ns : List Nat} (hl : ns.length ≤ 60) (h : ∀ n ∈ ns, n ≤ 1000) : Fit 1 1260 (nsD ns) := by
  refine fit_tup (n := 60) (k := 0) (w := 20) (fun d hd => ?_) (by rw [List.length_map, List.length_map]; exact hl)
  obtain ⟨i, hi, rfl⟩ := List.mem_map.mp hd
  obtain ⟨n, hn, rfl⟩ := List.mem_map.mp hi
  have := h n hn
  exact fit_nat (by omega)
theorem fit_map {α : Type} {k w n : Nat} {f : α → PyData} {l : List α} (h : ∀ x ∈ l, Fit k w (f x)) (hl : l.length ≤ n) : Fit (k + 1) (n * (w + 1)) (.tuple (l.map f)) :=
  fit_tup (fun d hd => by
    obtain ⟨x, hx, rfl⟩ := List.mem_map.mp hd
    exact h x hx) (by rw [List.length_map]; exact hl)
/-- a layout that is small enough to be shown -/
structure Good (m : Nat) (y : Lay) : Prop where
  len : y.length ≤ 24
  nd : (poses y).Nodup
  bd : LayBd m y
theorem Good.mono {m m' : Nat} {y : Lay} (h : Good m y) (l : m ≤ m') : Good m' y := ⟨h.len, h.nd, fun pc hp => (h.bd pc hp).mono l⟩
theorem all_small {m : Nat} {y : Lay} (g : Good m y) : ∀ z ∈ allEnds y, z.1 ≤ 1000 ∧ z.2.1 ≤ 1000 := fun z hz => by
  obtain ⟨pc, h1, h2⟩ := mem_all.mp hz
  have a := (List.getElem?_eq_some_iff.mp h1).1
  have b := (List.getElem?_eq_some_iff.mp h2).1
  have c := (ends_len pc.1 pc.2).1
  have := g.len
  exact ⟨by omega, by omega⟩
theorem ok_lay {m : Nat} {y : Lay} (g : Good m y) (hm : m ≤ 1000) : ShOk (.tuple (y.map pcD)) :=
  (fit_map (k := 2) (w := 212) (n := 24) (fun o ho => fit_pc fun pc e => (g.bd pc (e ▸ ho)).mono (by omega)) g.len).ok (by decide) (by decide)
theorem ok_ends {m : Nat} {y : Lay} (g : Good m y) (hm : m ≤ 1000) : ShOk (.tuple ((allEnds y).map trD)) :=
  (fit_map (k := 2) (w := 318) (n := 96) (fun z hz => fit_tr (all_small g z hz).1 (all_small g z hz).2 ((all_bd g.bd z hz).mono (by omega))) (by
    have a := all_len y 0
    have b := g.len
    unfold allEnds
    omega)).ok (by decide) (by decide)
theorem ok_opens {m : Nat} {y : Lay} (g : Good m y) : ShOk (.tuple ((opens y).map prD)) := by
  refine (fit_map (k := 1) (w := 42) (n := 96) (fun w hw => ?_) ?_).ok (by decide) (by decide)
  · obtain ⟨z, hz, rfl⟩ := List.mem_map.mp hw
    have := all_small g z ((List.mem_filter.mp hz).1)
    exact fit_pr this.1 this.2
  · unfold opens
    rw [List.length_map]
    refine Nat.le_trans (List.length_filter_le _ _) ?_
    have a := all_len y 0
    have b := g.len
    unfold allEnds
    omega
def joD : Option (Nat × Nat) → PyData
  | none => .none
  | some z => prD z
theorem dp_jo {K : PySem.W.Frag} {H : Hp} {v : V} {o : Option (Nat × Nat)} (h : JoH H v o) : Dp K H v (joD o) := by
  cases o with
  | none =>
    obtain rfl : v = .non := h
    exact .non
  | some z => exact dp_pr h
theorem ok_jo {m : Nat} {y : Lay} (g : Good m y) (p : Po) : ShOk (joD (jt y p)) := by
  cases e : jt y p with
  | none => exact fit_non.ok (by decide) (by decide)
  | some w =>
    have := all_small g _ (jt_mem e)
    exact (fit_pr this.1 this.2).ok (by decide) (by decide)
theorem isles_mem {y : Lay} : ∀ {i : Nat} {s : List Nat}, s ∈ islesTo y i → ∃ k, s = isl y k
  | 0, s, h => nomatch h
  | i + 1, s, h => by
    by_cases c : There y i ∧ ¬ ∃ s ∈ islesTo y i, i ∈ s
    · rw [isles_new c.1 c.2] at h
      rcases List.mem_append.mp h with h | h
      · exact isles_mem h
      · exact ⟨i, List.mem_singleton.mp h⟩
    · rw [isles_same (Nat.le_succ i) fun j h1 h2 tj => Classical.byContradiction fun q => c (by
        have : j = i := by omega
        subst this
        exact ⟨tj, q⟩)] at h
      exact isles_mem h
open Classical in
theorem isl_lt {y : Lay} {k a : Nat} (h : a ∈ isl y k) : a < y.length := by
  unfold isl at h
  exact List.mem_range.mp ((List.mem_filter.mp h).1)
theorem ok_isles {m : Nat} {y : Lay} (g : Good m y) : ShOk (.tuple ((isles y).map nsD)) := by
  have gl := g.len
  refine (fit_map (k := 1) (w := 1260) (n := 24) (fun s hs => ?_) (Nat.le_trans (isles_len y _) gl)).ok (by decide) (by decide)
  obtain ⟨k, rfl⟩ := isles_mem hs
  refine fit_ns ?_ fun n hn => ?_
  · exact Nat.le_trans (nd_len (isl_nd y k) fun a ha => isl_lt ha) (by omega)
  · have := isl_lt hn
    omega
theorem dp_isl {K : PySem.W.Frag} {H : Hp} {v : V} {ns : List Nat} (h : NsH H v ns) : Dp K H v (nsD ns) := by
  obtain ⟨t, rfl, h1⟩ := h
  exact .tup (sqt_of h1) (dp_ints _)
theorem pr_pairwise {α β : Type} {F : α → β → Prop} {R : β → β → Prop} {S : α → α → Prop} (h : ∀ x x' z z', F x z → F x' z' → R z z' → S x x') : ∀ {xs : List α} {zs : List β}, Paired F xs zs → zs.Pairwise R → xs.Pairwise S
  | _, _, .nil, _ => .nil
  | _, _, .cons (a := x) (b := z) hx t, hp => by
    obtain ⟨h1, h2⟩ := List.pairwise_cons.mp hp
    refine List.pairwise_cons.mpr ⟨fun x' hx' => ?_, pr_pairwise h t h2⟩
    obtain ⟨i, hi, e⟩ := List.getElem_of_mem hx'
    obtain ⟨z', gz, hz⟩ := pr_get t (show _[i]? = some x' by rw [List.getElem?_eq_getElem hi, e])
    exact h _ _ _ _ hx hz (h1 z' (List.mem_of_getElem? gz))
/-- the two ints of a pair -/
def kOf (H : Hp) : V → Int × Int
  | .ref t => match H t with
    | some (.tup [.int a, .int b]) => (a, b)
    | _ => (0, 0)
  | _ => (0, 0)
theorem kOf_at {H : Hp} {t : Addr} {a b : Int} (h : H t = some (.tup [.int a, .int b])) : kOf H (.ref t) = (a, b) := by
  show (match H t with
    | some (.tup [.int a, .int b]) => (a, b)
    | _ => (0, 0)) = (a, b)
  rw [h]
end Rk
end
section
set_option Elab.async false
set_option linter.all false
set_option maxRecDepth 100000
set_option maxHeartbeats 4000000
/-! The law's seems. -/
namespace Rk
open PySem PySem.Spec PyProof.Rows L2
open GxR (TabG)
section
variable {P : Program} {w : World} {K : PySem.W.Frag} {mg : Str → Option Value} {base : Heap} {C B fI : Addr}
theorem FlH.sx {F : Flr} {H H' : Hp} {y : Lay} {past : List Lay} {p : Addr} (h : FlH C F H y past) (s : SameX p H H') (t : TabG H p) : FlH C F H' y past := by
  obtain ⟨ps, e, _⟩ := t
  obtain ⟨pa, pr, h1, h2, h3, h4⟩ := id h
  refine h.sms (SmS.x s) (fun a ha xs z => ?_) (fun z => ?_) (fun z => ?_)
  · rw [List.mem_singleton.mp ha, e] at z
    cases z
  · rw [List.mem_singleton.mp z, e] at h1
    cases h1
  · rw [List.mem_singleton.mp z, e] at h3
    cases h3
theorem LayL.sx {H H' : Hp} {a : Addr} {y : Lay} {p : Addr} (h : LayL H a y) (s : SameX p H H') (t : TabG H p) : LayL H' a y := by
  obtain ⟨ps, e, _⟩ := id t
  obtain ⟨xs, h1, h2⟩ := h
  exact ⟨xs, s _ _ (fun z => by rw [z, e] at h1; cases h1) h1, h2.tk (sx_tk s t)⟩
theorem JnH.sm {H H' : Hp} {d : Addr} {y : Lay} (h : JnH H d y) (s : Same H H') : JnH H' d y := by
  obtain ⟨kvs, h1, h2⟩ := h
  exact ⟨kvs, s _ _ h1, Paired.mapP h2 fun _ _ z => z.tk (sm_tk s)⟩
theorem JnH.sx {H H' : Hp} {d : Addr} {y : Lay} {p : Addr} (h : JnH H d y) (s : SameX p H H') (t : TabG H p) : JnH H' d y := by
  obtain ⟨ps, e, _⟩ := id t
  obtain ⟨kvs, h1, h2⟩ := h
  exact ⟨kvs, s _ _ (fun z => by rw [z, e] at h1; cases h1) h1, Paired.mapP h2 fun _ _ z => z.tk (sx_tk s t)⟩
theorem jn_get2 {H : Hp} {d : Addr} {y : Lay} (h : JnH H d y) {b : Addr} {z : Nat × Nat × Po} (hz : z ∈ allEnds y) (eb : H b = some (.tup [.int (z.1 : Nat), .int (z.2.1 : Nat)])) : ∃ v, DGet H d (.ref b) (some v) ∧ JoH H v (jt y z.2.2) := by
  obtain ⟨kvs, ed, hkv⟩ := h
  obtain ⟨v, e1, e2⟩ := jn_get hkv hz
  refine ⟨v, ?_, e2⟩
  have g := DGet.t (k := [.inl (z.1 : Int), .inl (z.2.1 : Int)]) ed eb
  rw [e1] at g
  exact g
/-- list(joins): the keys, in order -/
theorem keysP {H : Hp} {y : Lay} : ∀ {kvs : List (List Key × V)} {zs : List (Nat × Nat × Po)} {bs : List Addr}, Paired (JnF H y) kvs zs → IsKeys H kvs bs → Paired (fun (b : Addr) (z : Nat × Nat × Po) => H b = some (.tup [.int (z.1 : Nat), .int (z.2.1 : Nat)])) bs zs := by
  intro kvs zs bs h1
  induction h1 generalizing bs with
  | nil =>
    intro h2
    cases h2
    exact .nil
  | cons h t ih =>
    intro h2
    cases h2 with
    | cons h' t' =>
      refine .cons ?_ (ih t')
      rw [h', h.1]
      rfl
theorem keysS {H H' : Hp} {bs : List Addr} {zs : List (Nat × Nat × Po)} (s : Same H H') (h : Paired (fun (b : Addr) (z : Nat × Nat × Po) => H b = some (.tup [.int (z.1 : Nat), .int (z.2.1 : Nat)])) bs zs) : Paired (fun (b : Addr) (z : Nat × Nat × Po) => H' b = some (.tup [.int (z.1 : Nat), .int (z.2.1 : Nat)])) bs zs :=
  Paired.mapP h fun b z e => s _ _ e
theorem pr_refs {F : Addr → (Nat × Nat × Po) → Prop} : ∀ {bs : List Addr} {zs : List (Nat × Nat × Po)}, Paired F bs zs → Paired (fun v z => ∃ b, v = V.ref b ∧ F b z) (bs.map V.ref) zs
  | _, _, .nil => .nil
  | _, _, .cons h t => .cons ⟨_, rfl, h⟩ (pr_refs t)
def spSeems (C p : Addr) : Sp := fun vs H Q _ => ∃ (F : Flr) (a : Addr) (y : Lay) (past : List Lay), vs = [.ref F.fl, .ref a] ∧ FlH C F H y past ∧ LayL H a y ∧ Good 1000 y ∧ TabG H p ∧ ∀ H', SameX p H H' → TabG H' p → Q (.bl true) H'
abbrev nSeems : List Str := ["_law_floor", "_law_layout", "_law_joins_here", "_law_rows", "_law_opened", "_law_pair", "_law_row"]
theorem sc_seems : FnScope nSeems ["_law_floor", "_law_layout"] (defScope s_law_seems) := ⟨rfl, rfl, rfl, by decide +kernel, rfl, by decide +kernel, by decide +kernel⟩
theorem passLS {X : Cx} : ∀ σ : L2.St, PassesAt (L2.CX X.prog X.w) X σ E0 := fun σ pins H s e s' I h => passL pins σ H s e s' I h
theorem c_seems {p : Addr} (D : Dn K mg "_law_seems" s_law_seems) (cl : FlCls K C) (mt : mg "tuple" = none) (ml : mg "len" = none) (mli : mg "list" = none) (ms : mg "sorted" = none)
    (cs : CalG P w K mg base 1 "_law_same" (spSame K)) (cj : Cal P w K mg base 6 "_law_joins" spJoins) (ca : Cal P w K mg base 5 "_law_all_ends" spAllL) (ci : Cal P w K mg base 1 "_law_islands" spIslL)
    (m1 : MCal CX0 P w K mg base 1 C "layout" (spLayout C)) (m2 : MCal CX0 P w K mg base 6 C "ends" (spEndsM C)) (m3 : MCal CX0 P w K mg base 7 C "open_ends" (spOpen C)) (m4 : MCal CX0 P w K mg base 8 C "is_shut" (spShut C))
    (m5 : MCal (L2.CX P w) P w K mg base 7 C "joined" (spJoined C)) (m6 : MCal CX0 P w K mg base 10 C "islands" (spIslM C p)) : CalG P w K mg base 11 "_law_seems" (spSeems C p) := by
  refine D.calG sc_seems (fun vs H Q E h => ?_) (fun _ _ _ _ _ _ us hl => match us, hl with | [_, _], _ => rfl) (fun f cdv A outer s H vs Q E hg hr h => ?_)
  · obtain ⟨F, a, y, past, rfl, _⟩ := h
    rfl
  · obtain ⟨F, a, y, past, rfl, hF, hy, hG, hT, q⟩ := h
    have nd := sc_seems.nd
    have hl1 : y.length ≤ 1000 := Nat.le_trans hG.len (by decide)
    refine ⟨_, pss_cons (ps_set (i := 2) nd rfl (.inr rfl) (pe_c cj hr (by decide) rfl (pa_cons (pv 1) pa_nil)))
      (pss_cons (ps_set (i := 3) nd rfl (.inl rfl) (pe_c ca hr (by decide) rfl (pa_cons (pv 1) pa_nil)))
      (pss_cons (ps_if (PW.pt (pw_or (pt_not (pt_truth (pe_cG cs hg hr (by decide) rfl (pa_cons (pe_mS0 (E := fun _ => E0) m1 hr (by decide) cl.cls pass0S (pv 0)) (pa_cons (pe_callTy call_tuple_of (by rfl) mt boot_tuple (pa_cons (pv 1) pa_nil)) pa_nil))) (fun _ => rfl)))
          (pw_or1 (pt_not (pt_truth (pe_cG cs hg hr (by decide) rfl (pa_cons (pe_mS0 (E := fun _ => E0) m2 hr (by decide) cl.cls pass0S (pv 0)) (pa_cons (pe_callTy call_tuple_of (by rfl) mt boot_tuple (pa_cons
            (pe_lc (own := [("_law_row", 6)]) (g := gName 6) (tt := tYes) (by rfl) nd (pi_list (pv 3)) (blkOk_by (N := nSeems) (sc := defScope s_law_seems) (by decide +kernel)) (fun _ _ _ _ _ => pg_name (i := 6) nd rfl (.inl rfl)) (fun _ _ _ _ _ => pts_nil)
              (te := tCB (fun xs H Q => ∃ p ys, xs = [.ref p] ∧ ((SqL K H p ys ∧ ∀ l, H l = none → Q (.ref l) (upd H l (.tup ys))) ∨ (SqT K H p ys ∧ Q (.ref p) H))) (tCons (tVar 6) tNil))
              (fun _ _ _ _ _ => pe_callTy call_tuple_of (by rfl) mt boot_tuple (pa_cons (pv 6) pa_nil))) pa_nil)) pa_nil))) (fun _ => rfl))))))
        (pss_one (ps_ret pe_bl)) pss_nil)
      (pss_cons (ps_set (i := 4) nd rfl (.inl rfl) (pe_callTy call_tuple_of (by rfl) mt boot_tuple (pa_cons
        (pe_lc (own := [("_law_pair", 5)]) (g := gName 5) (te := tVar 5) (by rfl) nd (pi_list (pe_callB cr_sortedPO (by rfl) ms boot_srt (pa_cons (pe_callTy (call_list_dT rfl) (by rfl) mli boot_list (pa_cons (pv 2) pa_nil)) pa_nil)))
          (blkOk_by (N := nSeems) (sc := defScope s_law_seems) (by decide +kernel)) (fun _ _ _ _ _ => pg_name (i := 5) nd rfl (.inl rfl))
          (fun _ _ _ _ _ => pts_one (t := tTest (tOp rIsN (tDGet (tVar 2) (tVar 5)) (tC .non))) (pt_cmpR op_isN1 (pe_dget (Rm.u1 hr) (pv 2) (pv 5) (fun _ _ => rfl)) pe_non (nomark _))) (fun _ _ _ _ _ => pv 5)) pa_nil)))
      (pss_cons (ps_if (PW.pt (pw_or (pt_not (pt_truth (pe_cG cs hg hr (by decide) rfl (pa_cons (pe_mS0 (E := fun _ => E0) m3 hr (by decide) cl.cls pass0S (pv 0)) (pa_cons (pv 4) pa_nil))) (fun _ => rfl)))
          (pw_or1 (pt_not (pt_truth (pe_cG cs hg hr (by decide) rfl (pa_cons (pe_mS0 (E := fun _ => E0) m4 hr (by decide) cl.cls pass0S (pv 0)) (pa_cons (pe_cmpR op_eq (pe_callB call_len_seq (by rfl) ml PySem.boot_len (pa_cons (pv 4) pa_nil)) pe_int (nomark _)) pa_nil))) (fun _ => rfl))))))
        (pss_one (ps_ret pe_bl)) pss_nil)
      (pss_cons (ps_for PassesOwn.never rfl (pi_list (pe_callTy (call_list_dT rfl) (by rfl) mli boot_list (pa_cons (pv 2) pa_nil))) (pg_name (i := 5) nd rfl (.inl rfl))
        (pss_one (ps_if (pt_not (pt_truth (pe_cG cs hg hr (by decide) rfl (pa_cons (pe_mS (E := fun _ => E0) m5 hr (by decide) cl.cls passLS (pv 0) (pa_cons (pe_ix ix_tup (pv 5) pe_int (fun _ _ => rfl)) (pa_cons (pe_ix ix_tup (pv 5) pe_int (fun _ _ => rfl)) pa_nil))) (pa_cons (pe_dget (Rm.u1 hr) (pv 2) (pv 5) (fun _ _ => rfl)) pa_nil))) (fun _ => rfl)))
          (pss_one (ps_ret pe_bl)) pss_nil)))
      (pss_one (ps_ret (pe_cG cs hg hr (by decide) rfl (pa_cons (pe_mS0 (E := fun _ => E0) m6 hr (by decide) cl.cls pass0S (pv 0)) (pa_cons (pe_c ci hr (by decide) rfl (pa_cons (pv 1) (pa_cons (pv 2) pa_nil))) pa_nil)))))))))), ?_⟩
    have hT0 := hT
    refine ⟨_, rfl, a, y, rfl, hy, hl1, hG.nd, fun H1 dj s1 n1 hJ => ?_⟩
    refine ⟨_, rfl, a, y, rfl, hy.sm s1, hl1, fun H2 tr rws s2 n2 e2 hrw => ?_⟩
    have s12 := s1.trans s2
    -- layout()
    obtain ⟨pa, pr, hf, hpa, _⟩ := id (hF.sm s12)
    obtain ⟨lxs, ha, hlx⟩ := hy.sm s12
    refine ⟨_, rfl, F.fl, F.dx, _, rfl, hf, rfl, F, y, past, rfl, hF.sm s12, fun pa2 hpa2 => ?_⟩
    refine ⟨_, rfl, a, lxs, rfl, .inl ⟨SqL.of ha, fun t3 n3 => ?_⟩⟩
    have s3 := sm_upd (o := .tup lxs) n3
    have s13 := s12.trans s3
    obtain ⟨pxs, hp1, hp2⟩ := hpa2.tk (sm_tk s3)
    refine ⟨_, _, _, rfl, .tup (sqt_of hp1) (dp_all (fun _ _ z => dp_pc z) hp2), .tup (sqt_of upd_same) (dp_all (fun _ _ z => dp_pc z) (hlx.tk (sm_tk s3))), ok_lay hG (Nat.le_refl _), _, rfl, ?_⟩
    refine if_f rfl ?_
    -- ends()
    have hF3 := hF.sm s13
    obtain ⟨_, _, hf3, _⟩ := id hF3
    refine ⟨_, rfl, F.fl, F.dx, _, rfl, hf3, rfl, F, y, past, rfl, hF3, hl1, fun H4 te exs s4 n4 e4 hex => ?_⟩
    have s34 := s3.trans s4
    refine ⟨_, rfl, tr, rfl, ⟨_, SqL.of (s34 _ _ e2)⟩, fun D0 hD => ?_⟩
    have h4 := all_len y 0
    refine lc_it (walk_list (K := K) (a := tr) (xs := rws)) (fun i H' => Same H4 H' ∧ ∃ acc, H' D0 = some (.lst acc) ∧ TrsH H' acc ((allEnds y).take i)) ⟨sm_upd hD, [], upd_same, .nil⟩ (fun i H' _ z => SqL.of (z.1 _ _ (s34 _ _ e2))) ?_ ?_
    · rintro i v H5 H6 hi ⟨s5, acc, eD, hacc⟩ ⟨rfl, gx⟩
      obtain ⟨z, gz, g, qp, rfl, _, hg', hqp⟩ := pr_get hrw gx
      have s25 := s34.trans s5
      refine ⟨rfl, ?_⟩
      refine ⟨_, rfl, g, _, rfl, .inl ⟨SqL.of (s25 _ _ hg'), fun u nu => ?_⟩⟩
      have s6 := sm_upd (o := .tup [.int (z.1 : Nat), .int (z.2.1 : Nat), .ref qp]) nu
      have eD6 := s6 _ _ eD
      have tk7 : Tk _ (upd _ D0 (.lst (acc ++ [.ref u]))) := tk_lst eD6
      refine ⟨acc, eD6, lt24 ?_, sm_upd' (s5.trans s6) hD, acc ++ [.ref u], upd_same, ?_⟩
      · rw [pr_len hacc, List.length_take]
        unfold allEnds
        omega
      · rw [take_at gz]
        exact pr_snoc (hacc.tk ((sm_tk s6).trans tk7)) ⟨u, qp, rfl, tk7 _ _ upd_same, tk7 _ _ (s6 _ _ (s25 _ _ hqp))⟩
    rintro H5 ⟨s5, acc, eD, hacc⟩
    rw [pr_len hrw, List.take_length] at hacc
    refine ⟨D0, acc, rfl, .inl ⟨SqL.of eD, fun t6 n6 => ?_⟩⟩
    have s6 := sm_upd (o := .tup acc) n6
    have s46 := s5.trans s6
    refine ⟨_, _, _, rfl, .tup (sqt_of (s46 _ _ e4)) (dp_all (fun _ _ z => dp_tr z) (hex.tk (sm_tk s46))), .tup (sqt_of upd_same) (dp_all (fun _ _ z => dp_tr z) (hacc.tk (sm_tk s6))), ok_ends hG (Nat.le_refl _), _, rfl, ?_⟩
    refine if_f rfl ?_
    have sA : Same H _ := s13.trans (s4.trans s46)
    have sJ : Same H1 _ := s2.trans (s3.trans (s4.trans s46))
    have hJA := hJ.sm sJ
    generalize upd H5 t6 (HO.tup acc) = HA at sA sJ hJA
    -- opened
    obtain ⟨kvA, edA, hkA⟩ := id hJA
    refine ⟨_, rfl, dj, kvA, rfl, .inl edA, fun p7 bs n7 hk7 => ?_⟩
    have s7 := sm_upd (o := .lst (bs.map V.ref)) n7
    have hbs := keysS s7 (keysP hkA hk7)
    have e7 : (upd HA p7 (.lst (bs.map V.ref))) p7 = some (.lst (bs.map V.ref)) := upd_same
    have sA7 := sA.trans s7
    have hJA7 := hJA.sm s7
    generalize upd HA p7 (.lst (bs.map V.ref)) = H7 at s7 hbs e7 sA7 hJA7
    have hrefs := pr_refs hbs
    refine ⟨p7, bs.map V.ref, kOf H7, rfl, SqL.of e7, fun x hx => ?_, fun ys p8 hsrt hstb n8 => ?_⟩
    · obtain ⟨i, hi, e⟩ := List.getElem_of_mem hx
      obtain ⟨z, _, b, eb, hb⟩ := pr_get hrefs (show (bs.map V.ref)[i]? = some x by rw [List.getElem?_eq_getElem hi, e])
      refine ⟨b, eb, ?_⟩
      rw [eb, kOf_at hb]
      exact hb
    have hsrt2 : SrtO.Srtd (ltP (kOf H7)) (bs.map V.ref) := by
      have pa := prs_asc y
      unfold prs at pa
      rw [List.pairwise_map] at pa
      refine pr_pairwise (fun x x' z z' h1 h2 hR => ?_) hrefs pa
      obtain ⟨b, rfl, hb⟩ := h1
      obtain ⟨b', rfl, hb'⟩ := h2
      show SrtO.lexB (kOf H7 (.ref b')) (kOf H7 (.ref b)) = false
      rw [kOf_at hb, kOf_at hb']
      refine SrtO.lexB_no.mpr ?_
      rcases hR with h | ⟨h1, h2⟩
      · simp only at h ⊢
        omega
      · simp only at h1 h2 ⊢
        omega
    have eys := SrtO.stb_uniq (ltP_swo (kOf H7)) hsrt hsrt2 hstb
    subst eys
    have s8 := sm_upd (o := .lst (bs.map V.ref)) n8
    refine ⟨p8, rfl, ⟨_, SqL.of upd_same⟩, fun D9 hD9 => ?_⟩
    have sB := sA.trans (s7.trans s8)
    have hJB := hJA.sm (s7.trans s8)
    have e8 : (upd H7 p8 (.lst (bs.map V.ref))) p8 = some (.lst (bs.map V.ref)) := upd_same
    have hrefs8 : Paired (fun v (z : Nat × Nat × Po) => ∃ b, v = V.ref b ∧ (upd H7 p8 (.lst (bs.map V.ref))) b = some (.tup [.int (z.1 : Nat), .int (z.2.1 : Nat)])) (bs.map V.ref) (allEnds y) := Paired.mapP hrefs fun v z h => by
      obtain ⟨b, e, h⟩ := h
      exact ⟨b, e, s8 _ _ h⟩
    generalize upd H7 p8 (.lst (bs.map V.ref)) = H8 at s8 sB hJB e8 hrefs8 hD9
    refine lc_it (walk_list (K := K) (a := p8) (xs := bs.map V.ref)) (fun i H' => Same H8 H' ∧ ∃ acc, H' D9 = some (.lst acc) ∧ PrsH H' acc ((((allEnds y).take i).filter fun z => (jt y z.2.2).isNone).map fun z => (z.1, z.2.1)))
      ⟨sm_upd hD9, [], upd_same, .nil⟩ (fun i H' _ z => SqL.of (z.1 _ _ e8)) ?_ ?_
    · rintro i v H10 H11 hi ⟨s10, acc, eD, hacc⟩ ⟨rfl, gx⟩
      obtain ⟨z, gz, b, rfl, hb⟩ := pr_get hrefs8 gx
      have hb10 := s10 _ _ hb
      obtain ⟨v, gv, jo⟩ := jn_get2 (hJB.sm s10) (List.mem_of_getElem? gz) hb10
      refine ⟨rfl, ?_⟩
      refine ⟨_, rfl, _, rfl, dj, v, rfl, gv, rfl, _, rfl, ?_⟩
      rw [filter_take gz, List.map_append]
      have hal : acc.length ≤ 4000 := by
        have e2 := pr_len hacc
        have e3 := List.length_filter_le (fun z : Nat × Nat × Po => (jt y z.2.2).isNone) ((allEnds y).take i)
        rw [List.length_map] at e2
        rw [List.length_take] at e3
        unfold allEnds at e2 e3
        omega
      cases hj : jt y z.2.2 with
      | none =>
        rw [hj] at jo
        obtain rfl : v = .non := jo
        have tk11 : Tk _ (upd _ D9 (.lst (acc ++ [.ref b]))) := tk_lst eD
        refine if_t rfl ⟨_, rfl, acc, eD, lt24 (by omega), sm_upd' s10 hD9, acc ++ [.ref b], upd_same, ?_⟩
        exact pr_app (hacc.tk tk11) (.cons ⟨b, rfl, tk11 _ _ hb10⟩ .nil)
      | some w6 =>
        rw [hj] at jo
        obtain ⟨t6, rfl, _⟩ := jo
        refine if_f rfl ⟨s10, acc, eD, ?_⟩
        simp only [Option.isNone_some, Bool.false_eq_true, if_false, List.map_nil, List.append_nil]
        exact hacc
    rintro H10 ⟨s10, oacc, eO, hoacc⟩
    rw [pr_len hrefs8, List.take_length] at hoacc
    refine ⟨D9, oacc, rfl, .inl ⟨SqL.of eO, fun t11 n11 => ?_⟩⟩
    have s11 := sm_upd (o := .tup oacc) n11
    have eT11 : (upd H10 t11 (.tup oacc)) t11 = some (.tup oacc) := upd_same
    have sC := sB.trans (s10.trans s11)
    have hJC := hJB.sm (s10.trans s11)
    have ho11 : PrsH (upd H10 t11 (.tup oacc)) oacc (opens y) := hoacc.tk (sm_tk s11)
    generalize upd H10 t11 (.tup oacc) = H11 at s11 eT11 sC hJC ho11
    -- open_ends()
    have hFC := hF.sm sC
    obtain ⟨_, _, hfC, _⟩ := id hFC
    refine ⟨_, rfl, F.fl, F.dx, _, rfl, hfC, rfl, F, y, past, rfl, hFC, hl1, fun H12 t12 xs12 s12' n12 e12 hx12 => ?_⟩
    refine ⟨_, rfl, _, _, _, rfl, .tup (sqt_of e12) (dp_all (fun _ _ z => dp_pr z) hx12), .tup (sqt_of (s12' _ _ eT11)) (dp_all (fun _ _ z => dp_pr z) (ho11.tk (sm_tk s12'))), ok_opens hG, _, rfl, ?_⟩
    refine if_f rfl ?_
    have sD := sC.trans s12'
    have hFD := hF.sm sD
    obtain ⟨_, _, hfD, _⟩ := id hFD
    -- is_shut()
    refine ⟨_, rfl, F.fl, F.dx, _, rfl, hfD, rfl, F, y, past, rfl, hFD, hl1, fun H13 s13' => ?_⟩
    have sE := sD.trans s13'
    refine ⟨_, rfl, t11, oacc, rfl, .inr (sqt_of ((s12'.trans s13') _ _ eT11)), rfl, ?_⟩
    have eb : decide (V.int (oacc.length : Nat) = V.int 0) = (opens y).isEmpty := by
      rw [dec_int, show oacc.length = (opens y).length from pr_len ho11]
      cases opens y with
      | nil => rfl
      | cons z r =>
        rw [List.length_cons]
        exact beq_eq_false_iff_ne.mpr (by omega)
    rw [eb]
    refine ⟨_, _, .bool (opens y).isEmpty, rfl, .bl _, .bl _, (fit_bl _).ok (by decide) (by decide), _, rfl, ?_⟩
    refine if_f rfl ?_
    have hJE := hJC.sm (s12'.trans s13')
    -- joined()
    obtain ⟨kvE, edE, hkE⟩ := id hJE
    refine ⟨_, rfl, dj, kvE, rfl, .inl edE, fun p14 bs2 n14 hk14 => ?_⟩
    have s14' := sm_upd (o := .lst (bs2.map V.ref)) n14
    have hbs2 := keysS s14' (keysP hkE hk14)
    have e14 : (upd H13 p14 (.lst (bs2.map V.ref))) p14 = some (.lst (bs2.map V.ref)) := upd_same
    have sF0 := sE.trans s14'
    generalize upd H13 p14 (.lst (bs2.map V.ref)) = H14 at s14' hbs2 e14 sF0
    have sF := sE.trans s14'
    have hJF := hJE.sm s14'
    have hrefs14 := pr_refs hbs2
    refine ⟨p14, rfl, ⟨_, SqL.of e14⟩, ?_⟩
    refine for_it (walk_list (K := K) (a := p14) (xs := bs2.map V.ref)) (fun i σ H' => Same H14 H' ∧ ∃ (c5 c6 : Option V), σ = [some (.ref F.fl), some (.ref a), some (.ref dj), some (.ref tr), some (.ref t11), c5, c6]) ⟨Same.refl _, _, _, rfl⟩ (fun i σ H' _ z => SqL.of (z.1 _ _ e14)) ?_ ?_
    · rintro i v σ H15 H16 hi ⟨s15, c5, c6, rfl⟩ ⟨rfl, gx⟩
      obtain ⟨z, gz, b, rfl, hb⟩ := pr_get hrefs14 gx
      have hzm := List.mem_of_getElem? gz
      obtain ⟨pc, gpc, gp⟩ := mem_all.mp hzm
      have hb15 := s15 _ _ hb
      have sG := sF.trans s15
      have hFG := hF.sm sG
      obtain ⟨_, _, hfG, _⟩ := id hFG
      refine ⟨_, rfl, F.fl, F.dx, _, rfl, hfG, rfl, _, rfl, b, _, 0, .int (z.1 : Nat), rfl, rfl, sqt_of hb15, rfl, _, rfl, b, _, 1, .int (z.2.1 : Nat), rfl, rfl, sqt_of hb15, rfl, F, z.1, z.2.1, y, past, pc, z.2.2, rfl, hFG, hl1, gpc, gp, jtQ fun v17 H17 s17 hv17 => ?_⟩
      obtain ⟨v, gv, jo⟩ := jn_get2 (hJF.sm (s15.trans s17)) hzm (s17 _ _ hb15)
      refine ⟨_, rfl, _, rfl, dj, v, rfl, gv, _, _, _, rfl, dp_jo hv17, dp_jo jo, ok_jo hG _, _, rfl, ?_⟩
      exact ⟨s15.trans s17, _, _, rfl⟩
    · rintro σ H15 ⟨s15, c5, c6, rfl⟩
      have sG := sF.trans s15
      have hFG := hF.sm sG
      obtain ⟨_, _, hfG, _⟩ := id hFG
      have hTG := tabG_sm sG hT0
      refine ⟨_, rfl, F.fl, F.dx, _, rfl, hfG, rfl, F, y, past, rfl, hFG, Nat.le_trans hG.len (by decide), hTG, fun H16 t16 xs16 x16 T16 n16 e16 hx16 => ?_⟩
      have hyG := hy.sm sG
      have hJG := hJF.sm s15
      refine ⟨_, rfl, _, rfl, a, dj, y, rfl, hyG.sx x16 hTG, hJG.sx x16 hTG, Nat.le_trans hG.len (by decide), fun H17 t17 xs17 s17 n17 e17 hx17 => ?_⟩
      refine ⟨_, _, _, rfl, .tup (sqt_of (s17 _ _ e16)) (dp_all (fun _ _ z => dp_isl z) (Paired.mapP hx16 fun _ _ z => z.tk (sm_tk s17))), .tup (sqt_of e17) (dp_all (fun _ _ z => dp_isl z) hx17), ok_isles hG, ?_⟩
      exact q H17 ((sx_of sG).trans (x16.trans (sx_of s17))) (tabG_sm s17 T16)
end
end Rk
end
section
set_option Elab.async false
set_option linter.all false
set_option maxRecDepth 100000
set_option maxHeartbeats 4000000
/-! The law's own heap; place. -/
namespace Rk
open PySem PySem.Spec PyProof.Rows L2
open GxR (TabG)
/-- where the law's things lie: the box, its digits, the floor, the list of layouts, the table -/
structure Wl where
  b : Addr
  d : Addr
  F : Flr
  L : Addr
  p : Addr
def RowH (W : Wl) (H : Hp) (v : V) (z : Lay) : Prop := ∃ a, v = .ref a ∧ LayL H a z ∧ a ≠ W.b ∧ a ≠ W.L ∧ a ≠ W.F.pl
structure WH (C : Addr) (W : Wl) (H : Hp) (y : Lay) (ys ls : List Lay) : Prop where
  box : BoxH H W.b W.d
  fl : FlH C W.F H y ys
  rows : ∃ rs, H W.L = some (.lst rs) ∧ Paired (RowH W H) rs ls
  tab : TabG H W.p
  nLb : W.L ≠ W.b
  nLp : W.L ≠ W.F.pl
  nbp : W.b ≠ W.F.pl
  ndL : W.d ≠ W.L
  ndp : W.d ≠ W.F.pl
theorem RowH.sm {W : Wl} {H H' : Hp} {v : V} {z : Lay} (h : RowH W H v z) (s : Same H H') : RowH W H' v z := by
  obtain ⟨a, e, h1, h2⟩ := h
  exact ⟨a, e, h1.sm s, h2⟩
theorem LayL.sms {S : List Addr} {H H' : Hp} {a : Addr} {y : Lay} (h : LayL H a y) (s : SmS S H H') (nt : NoTup H S) (n : a ∉ S) : LayL H' a y := by
  obtain ⟨xs, h1, h2⟩ := h
  exact ⟨xs, s _ _ n h1, h2.tk (s.tk nt)⟩
section
variable {C : Addr} {W : Wl} {H H' : Hp} {y : Lay} {ys ls : List Lay}
theorem WH.sm (h : WH C W H y ys ls) (s : Same H H') : WH C W H' y ys ls := by
  obtain ⟨rs, h1, h2⟩ := h.rows
  exact ⟨h.box.same s, h.fl.sm s, ⟨rs, s _ _ h1, Paired.mapP h2 fun _ _ z => z.sm s⟩, tabG_sm s h.tab, h.nLb, h.nLp, h.nbp, h.ndL, h.ndp⟩
theorem WH.flb (h : WH C W H y ys ls) : W.F.fl ≠ W.b := fun z => by
  obtain ⟨n, ds, e, _⟩ := h.box
  obtain ⟨pa, pr, e2, _⟩ := h.fl
  rw [z, e] at e2
  cases e2
theorem WH.flL (h : WH C W H y ys ls) : W.F.fl ≠ W.L := fun z => by
  obtain ⟨n, e, _⟩ := h.rows
  obtain ⟨pa, pr, e2, _⟩ := h.fl
  rw [z, e] at e2
  cases e2
theorem WH.fld (h : WH C W H y ys ls) : W.F.fl ≠ W.d := fun z => by
  obtain ⟨n, ds, _, e⟩ := h.box
  obtain ⟨pa, pr, e2, _⟩ := h.fl
  rw [z, e] at e2
  cases e2
theorem WH.pb (h : WH C W H y ys ls) : W.p ≠ W.b := fun z => by
  obtain ⟨n, ds, e, _⟩ := h.box
  obtain ⟨ps, e2, _⟩ := h.tab
  rw [z, e] at e2
  cases e2
theorem WH.pd (h : WH C W H y ys ls) : W.p ≠ W.d := fun z => by
  obtain ⟨n, ds, _, e⟩ := h.box
  obtain ⟨ps, e2, _⟩ := h.tab
  rw [z, e] at e2
  cases e2
theorem WH.pL (h : WH C W H y ys ls) : W.p ≠ W.L := fun z => by
  obtain ⟨n, e, _⟩ := h.rows
  obtain ⟨ps, e2, _⟩ := h.tab
  rw [z, e] at e2
  cases e2
theorem WH.pf (h : WH C W H y ys ls) : W.p ≠ W.F.fl := fun z => by
  obtain ⟨pa, pr, e, _⟩ := h.fl
  obtain ⟨ps, e2, _⟩ := h.tab
  rw [z, e] at e2
  cases e2
theorem WH.pp (h : WH C W H y ys ls) : W.p ≠ W.F.pl := fun z => by
  obtain ⟨pa, pr, _, _, e, _⟩ := h.fl
  obtain ⟨ps, e2, _⟩ := h.tab
  rw [z, e] at e2
  cases e2
theorem WH.ntb (h : WH C W H y ys ls) : NoTup H [W.b] := fun a ha xs e => by
  obtain ⟨n, ds, e2, _⟩ := h.box
  rw [List.mem_singleton.mp ha, e2] at e
  cases e
theorem WH.ntL (h : WH C W H y ys ls) : NoTup H [W.L] := fun a ha xs e => by
  obtain ⟨n, e2, _⟩ := h.rows
  rw [List.mem_singleton.mp ha, e2] at e
  cases e
theorem rows_sms {S : List Addr} {rs : List V} (h : Paired (RowH W H) rs ls) (s : SmS S H H') (nt : NoTup H S) (hn : ∀ a z, LayL H a z → a ≠ W.b → a ≠ W.L → a ≠ W.F.pl → a ∉ S) : Paired (RowH W H') rs ls := Paired.mapP h fun v z g => by
  obtain ⟨a, e, h1, n1, n2, n3⟩ := g
  exact ⟨a, e, h1.sms s nt (hn a z h1 n1 n2 n3), n1, n2, n3⟩
/-- behind a draw -/
theorem WH.draw (h : WH C W H y ys ls) (s : SameX W.b H H') (hb : BoxH H' W.b W.d) : WH C W H' y ys ls := by
  obtain ⟨rs, h1, h2⟩ := h.rows
  have sb := SmS.x s
  obtain ⟨ps, e, t⟩ := h.tab
  refine ⟨hb, h.fl.sms sb h.ntb (fun z => h.flb (List.mem_singleton.mp z)) (fun z => h.nbp (List.mem_singleton.mp z).symm), ⟨rs, s _ _ h.nLb h1, rows_sms h2 sb h.ntb fun a z _ n1 _ _ m => n1 (List.mem_singleton.mp m)⟩, ⟨ps, s _ _ h.pb e, t⟩, h.nLb, h.nLp, h.nbp, h.ndL, h.ndp⟩
/-- behind a new table -/
theorem WH.tabbed (h : WH C W H y ys ls) (s : SameX W.p H H') (ht : TabG H' W.p) : WH C W H' y ys ls := by
  obtain ⟨rs, h1, h2⟩ := h.rows
  obtain ⟨n, ds, e1, e2⟩ := h.box
  have nt : NoTup H [W.p] := fun a ha xs e => by
    obtain ⟨ps, e3, _⟩ := h.tab
    rw [List.mem_singleton.mp ha, e3] at e
    cases e
  refine ⟨⟨n, ds, s _ _ (Ne.symm h.pb) e1, s _ _ (Ne.symm h.pd) e2⟩, h.fl.sx s h.tab, ⟨rs, s _ _ (Ne.symm h.pL) h1, rows_sms h2 (SmS.x s) nt fun a z hl _ _ _ m => ?_⟩, ht, h.nLb, h.nLp, h.nbp, h.ndL, h.ndp⟩
  obtain ⟨xs, e, _⟩ := hl
  obtain ⟨ps, e3, _⟩ := h.tab
  rw [List.mem_singleton.mp m, e3] at e
  cases e
/-- behind another list of layouts -/
theorem WH.rowsTo {rs : List V} {ls' : List Lay} (h : WH C W H y ys ls) (hr : Paired (RowH W H) rs ls') : WH C W (upd H W.L (.lst rs)) y ys ls' := by
  have s : SmS [W.L] H (upd H W.L (.lst rs)) := (SmS.of (Same.refl H)).upd (List.mem_singleton.mpr rfl)
  obtain ⟨n, ds, e1, e2⟩ := h.box
  obtain ⟨ps, e, t⟩ := h.tab
  refine ⟨⟨n, ds, (upd_ne (Ne.symm h.nLb)).trans e1, (upd_ne h.ndL).trans e2⟩, h.fl.sms s h.ntL (fun z => h.flL (List.mem_singleton.mp z)) (fun z => h.nLp (List.mem_singleton.mp z).symm), ⟨rs, upd_same, rows_sms hr s h.ntL fun a z _ _ n2 _ m => n2 (List.mem_singleton.mp m)⟩, ⟨ps, (upd_ne h.pL).trans e, t⟩, h.nLb, h.nLp, h.nbp, h.ndL, h.ndp⟩
/-- behind what is done to the floor -/
theorem WH.flo {y' : Lay} {ys' : List Lay} (h : WH C W H y ys ls) (s : SmS W.F.S H H') (hf : FlH C W.F H' y' ys') : WH C W H' y' ys' ls := by
  obtain ⟨rs, h1, h2⟩ := h.rows
  obtain ⟨n, ds, e1, e2⟩ := h.box
  obtain ⟨ps, e, t⟩ := h.tab
  have no : ∀ {a : Addr}, a ≠ W.F.fl → a ≠ W.F.pl → a ∉ W.F.S := fun n1 n2 m => by
    rcases List.mem_cons.mp m with z | z
    · exact n1 z
    · exact n2 (List.mem_singleton.mp z)
  refine ⟨⟨n, ds, s _ _ (no (Ne.symm h.flb) h.nbp) e1, s _ _ (no (Ne.symm h.fld) h.ndp) e2⟩, hf, ⟨rs, s _ _ (no (Ne.symm h.flL) h.nLp) h1, rows_sms h2 s h.fl.nt fun a z hl _ _ n3 m => ?_⟩, ⟨ps, s _ _ (no h.pf h.pp) e, t⟩, h.nLb, h.nLp, h.nbp, h.ndL, h.ndp⟩
  refine no (fun q => ?_) n3 m
  obtain ⟨xs, e3, _⟩ := hl
  obtain ⟨pa, pr, e4, _⟩ := h.fl
  rw [q, e4] at e3
  cases e3
end
section
variable {P : Program} {w : World} {K : PySem.W.Frag} {mg : Str → Option Value} {base : Heap} {C B fI : Addr}
def spPlaceL : Sp := fun vs H Q _ => ∃ (b d a : Addr) (y : Lay) (m : Nat), vs = [.ref b, .ref a] ∧ BoxH H b d ∧ LayL H a y ∧ a ≠ b ∧ y.length ≤ 1000 ∧ LayBd m y ∧ 2 ≤ m ∧ ∀ H' t p, SameX b H H' → BoxH H' b d → H' t = some (.tup p.vs) → Bd (m + 4) p → Q (.ref t) H'
theorem sc_placeL : FnScope ["_law_box", "_law_layout", "_law_rows"] ["_law_box", "_law_layout"] (defScope s_law_place) := ⟨rfl, rfl, rfl, by decide +kernel, rfl, by decide +kernel, by decide +kernel⟩
theorem c_placeL (D : Dn K mg "_law_place" s_law_place) (ml : mg "len" = none) (mi : mg "int" = none) (ca : Cal P w K mg base 5 "_law_all_ends" spAllL) (cd : Cal P w K mg base 1 "_law_draw" spDraw) : Cal P w K mg base 6 "_law_place" spPlaceL := by
  refine D.cal sc_placeL (fun vs H Q E h => ?_) (fun _ _ _ _ _ _ us hl => match us, hl with | [_, _], _ => rfl) (fun f cdv A outer s H vs Q E hr h => ?_)
  · obtain ⟨b, d, a, y, m, rfl, _⟩ := h
    rfl
  · obtain ⟨b, d, a, y, m, rfl, hb, hy, nab, hyl, hbd, hm, q⟩ := h
    have nd := sc_placeL.nd
    refine ⟨_, pss_cons (ps_set (i := 2) nd rfl (.inl rfl) (pe_c ca hr (by decide) rfl (pa_cons (pv 1) pa_nil)))
      (pss_cons (ps_if (PW.pt (pw_or (pt_cmpR op_eq (pe_callB call_len_seq (by rfl) ml PySem.boot_len (pa_cons (pv 2) pa_nil)) pe_int (nomark _)) (pw_or1 (pt_cmpR op_eq (pe_c cd hr (by decide) rfl (pa_cons (pv 0) (pa_cons pe_int pa_nil))) pe_int (nomark _)))))
        (pss_one (ps_ret (pe_tup (pa_cons (pe_op op_sub (pe_c cd hr (by decide) rfl (pa_cons (pv 0) (pa_cons pe_int pa_nil))) pe_int) (pa_cons pe_int (pa_cons (pe_op op_sub (pe_c cd hr (by decide) rfl (pa_cons (pv 0) (pa_cons pe_int pa_nil))) pe_int) (pa_cons pe_int (pa_cons (pe_c cd hr (by decide) rfl (pa_cons (pv 0) (pa_cons pe_int pa_nil))) pa_nil)))))))) pss_nil)
      (pss_one (ps_ret (pe_ix ix_list (pe_ix ix_list (pv 2) (pe_op op_mod (pe_callTy call_int1 (by rfl) mi boot_int (pa_cons (pe_c cd hr (by decide) rfl (pa_cons (pv 0) (pa_cons pe_int pa_nil))) pa_nil)) (pe_callB call_len_seq (by rfl) ml PySem.boot_len (pa_cons (pv 2) pa_nil))) (fun _ _ => rfl)) pe_int (fun _ _ => rfl))))), ?_⟩
    refine ⟨_, rfl, a, y, rfl, hy, hyl, fun H1 tr rws s1 n1 e1 hrw => ?_⟩
    have ntb : tr ≠ b := fun z => by
      obtain ⟨_, _, e, _⟩ := hb
      rw [z, e] at n1
      cases n1
    have hb1 := hb.same s1
    -- a pose that is drawn
    have fresh : ∀ H2, SameX b H1 H2 → BoxH H2 b d → spDraw [.ref b, .int 5] H2 (fun v H3 => ∃ i j, v = V.int i ∧ V.int 2 = V.int j ∧ spDraw [.ref b, .int 3] H3 (fun v4 H4 => ∃ i4 j4, v4 = V.int i4 ∧ V.int 1 = V.int j4 ∧ spDraw [.ref b, .int 8] H4 (fun v5 H5 => [V.int (i - j), .int 0, .int (i4 - j4), .int 0, v5].length ≤ sizeLine ∧ ∀ t, H5 t = none → Q (.ref t) (upd H5 t (.tup [V.int (i - j), .int 0, .int (i4 - j4), .int 0, v5]))) E0) E0) E0 := fun H2 x2 hb2 => by
      refine ⟨b, d, 5, rfl, by decide, hb2, fun H3 r3 x3 hb3 l3 u3 => ⟨r3, 2, rfl, rfl, b, d, 3, rfl, by decide, hb3, fun H4 r4 x4 hb4 l4 u4 => ⟨r4, 1, rfl, rfl, b, d, 8, rfl, by decide, hb4, fun H5 r5 x5 hb5 l5 u5 => ⟨small24 (by show 5 ≤ 16777216; decide), fun t nt => ?_⟩⟩⟩⟩
      have s6 := sm_upd (o := .tup [V.int (r3 - 2), .int 0, .int (r4 - 1), .int 0, .int r5]) nt
      exact q _ t ⟨r3 - 2, 0, r4 - 1, 0, r5⟩ ((sx_of s1).trans (x2.trans (x3.trans (x4.trans (x5.trans (sx_of s6)))))) (hb5.same s6) upd_same ⟨by show (r3 - 2).natAbs ≤ m + 4; omega, by show (0 : Int).natAbs ≤ m + 4; omega, by show (r4 - 1).natAbs ≤ m + 4; omega, by show (0 : Int).natAbs ≤ m + 4; omega, by show r5.natAbs ≤ 8; omega⟩
    refine ⟨_, rfl, tr, rws, rfl, .inl (SqL.of e1), rfl, _, rfl, ?_⟩
    by_cases hz : rws.length = 0
    · refine if_t (by rw [hz]; rfl) (if_t rfl ?_)
      obtain ⟨b', d', m', e, h1, h2, h3⟩ := fresh H1 (SameX.refl b H1) hb1
      exact ⟨_, rfl, b', d', m', e, h1, h2, fun H' r x1 x2 l u => by
        obtain ⟨i, j, ei, ej, g⟩ := h3 H' r x1 x2 l u
        obtain ⟨b4, d4, m4, e4, g1, g2, g3⟩ := g
        exact ⟨i, j, ei, ej, _, rfl, b4, d4, m4, e4, g1, g2, fun H' r x1 x2 l u => by
          obtain ⟨i, j, ei, ej, g⟩ := g3 H' r x1 x2 l u
          obtain ⟨b4, d4, m4, e4, g1, g2, g3⟩ := g
          exact ⟨i, j, ei, ej, _, rfl, b4, d4, m4, e4, g1, g2, g3⟩⟩⟩
    · refine if_f (decide_eq_false fun z => hz ?_) ?_
      · have e := V.int.inj z
        omega
      refine ⟨_, rfl, b, d, 4, rfl, by decide, hb1, fun H2 r2 x2 hb2 _ _ => ⟨rfl, _, rfl, ite2 (fun c => ?_) (fun c => ?_)⟩⟩
      · obtain ⟨b', d', m', e, h1, h2, h3⟩ := fresh H2 x2 hb2
        exact ⟨_, rfl, b', d', m', e, h1, h2, fun H' r x1 x2 l u => by
          obtain ⟨i, j, ei, ej, g⟩ := h3 H' r x1 x2 l u
          obtain ⟨b4, d4, m4, e4, g1, g2, g3⟩ := g
          exact ⟨i, j, ei, ej, _, rfl, b4, d4, m4, e4, g1, g2, fun H' r x1 x2 l u => by
            obtain ⟨i, j, ei, ej, g⟩ := g3 H' r x1 x2 l u
            obtain ⟨b4, d4, m4, e4, g1, g2, g3⟩ := g
            exact ⟨i, j, ei, ej, _, rfl, b4, d4, m4, e4, g1, g2, g3⟩⟩⟩
      · have e2 := x2 tr _ ntb e1
        refine ⟨_, rfl, _, rfl, b, d, 90, rfl, by decide, hb2, fun H3 r3 x3 hb3 _ _ => .inl ⟨r3, rfl, ?_⟩⟩
        have e3 := x3 tr _ ntb e2
        have pos : (0 : Int) < ((rws.length : Nat) : Int) := by omega
        have h0 := Int.emod_nonneg r3 (show ((rws.length : Nat) : Int) ≠ 0 by omega)
        have h1 := Int.emod_lt_of_pos r3 pos
        have hj : (r3 % ((rws.length : Nat) : Int)).toNat < rws.length := by omega
        obtain ⟨z, gz, g, qp, ev, ng, hg, hqp⟩ := pr_get hrw (List.getElem?_eq_getElem hj)
        have ngb : g ≠ b := fun z => by
          obtain ⟨_, _, e, _⟩ := hb
          rw [z, e] at ng
          cases ng
        have nqb : qp ≠ b := fun z => by
          obtain ⟨_, _, e, _⟩ := hb1
          rw [z, e] at hqp
          cases hqp
        have x23 := x2.trans x3
        refine ⟨_, rfl, tr, rws, rfl, .inl (SqL.of e3), r3, _, rfl, rfl, pos, tr, rws, _, .ref g, rfl, rfl, SqL.of e3, ?_, g, _, 2, .ref qp, rfl, rfl, SqL.of (x23 g _ ngb hg), rfl, ?_⟩
        · rw [show r3 % ((rws.length : Nat) : Int) = (((r3 % ((rws.length : Nat) : Int)).toNat : Nat) : Int) by omega]
          refine atI_nat ?_
          rw [List.getElem?_eq_getElem hj, ev]
        · exact q H3 qp z.2.2 ((sx_of s1).trans x23) hb3 (x23 qp _ nqb hqp) (all_bd hbd z (List.mem_of_getElem? gz))
end
end Rk
end
section
set_option Elab.async false
set_option linter.all false
set_option maxRecDepth 100000
set_option maxHeartbeats 4000000
/-! The law's deed: the term. -/
namespace Rk
open PySem PySem.Spec PyProof.Rows L2
open GxR (TabG)
/-- a test, its outcomes told by a word -/
def tCutT (t : TT) : TT := fun σ H Q => ∃ R : Bool → Hp → Prop, t σ H R ∧ ∀ b H', R b H' → Q b H'
theorem pt_cut {X : Cx} {e : Expr} {t : TT} (h : PT X e t) : PT X e (tCutT t) := ⟨fun pins s σ H Q I hh => by
  obtain ⟨R, h1, h2⟩ := hh
  exact thn (h.run pins s σ H R I h1) fun b s' z => by
    obtain ⟨H', I', r⟩ := z
    exact ⟨H', I', h2 b H' r⟩⟩
theorem set_sub : ∀ (y : Lay) (n k : Nat), (allFrom n (y.set k none)).Sublist (allFrom n y)
  | [], _, _ => List.Sublist.refl _
  | o :: r, n, 0 => by
    rw [List.set_cons_zero, allFrom_cons, allFrom_cons]
    exact List.Sublist.append (List.nil_sublist _) (List.Sublist.refl _)
  | o :: r, n, k + 1 => by
    rw [List.set_cons_succ, allFrom_cons, allFrom_cons]
    exact List.Sublist.append (List.Sublist.refl _) (set_sub r (n + 1) k)
theorem set_good {m k : Nat} {y : Lay} (g : Good m y) : Good m (y.set k none) := by
  refine ⟨by rw [List.length_set]; exact g.len, ?_, fun pc hp => ?_⟩
  · have s : (poses (y.set k none)).Sublist (poses y) := (set_sub y 0 k).map _
    exact s.nodup g.nd
  · rcases List.mem_or_eq_of_mem_set hp with h | h
    · exact g.bd pc h
    · cases h
theorem LayL.draw {H H' : Hp} {a b d : Addr} {y : Lay} (h : LayL H a y) (s : SameX b H H') (hb : BoxH H b d) (n : a ≠ b) : LayL H' a y := by
  obtain ⟨xs, h1, h2⟩ := h
  exact ⟨xs, s _ _ n h1, h2.tk (s.tk hb)⟩
def refD (r : Str) : PyData := .list [.str "refused", .str r]
theorem dp_ref {K : PySem.W.Frag} {H : Hp} {t : Addr} {r : Str} (h : H t = some (.lst [.str "refused", .str r])) : Dp K H (.ref t) (refD r) := .lst (SqL.of h) (.cons (.str _) (.cons (.str _) .nil))
theorem ok_ref {r : Str} (h : PyData.leavesShort 13 (.str r) = true) (hs : r.cps.size ≤ 100) : ShOk (refD r) := by
  have e : ∀ d ∈ [PyData.str "refused", .str r], Fit 0 100 d := fun d hd => by
    simp only [List.mem_cons, List.not_mem_nil, or_false] at hd
    rcases hd with rfl | rfl
    · exact ⟨rfl, rfl, Nat.le_refl _, (by show 7 ≤ 100; decide), by decide +kernel⟩
    · exact ⟨rfl, rfl, Nat.le_refl _, hs, h⟩
  exact (fit_lst (n := 2) e (Nat.le_refl _)).ok (by decide) (by decide)
theorem ok_many : ShOk (refD "too many pieces") := ok_ref (by decide +kernel) (by decide +kernel)
theorem ok_over : ShOk (refD "ends overlap") := ok_ref (by decide +kernel) (by decide +kernel)
theorem ok_none : ShOk (refD "no such piece") := ok_ref (by decide +kernel) (by decide +kernel)
theorem kd_of {x : V} (h : x ∈ [V.str "S", .str "H", .str "C", .str "P", .str "Q", .str "X"]) : ∃ k : Kd, x = .str k.str := by
  simp only [List.mem_cons, List.not_mem_nil, or_false] at h
  rcases h with rfl | rfl | rfl | rfl | rfl | rfl
  · exact ⟨.S, by decide +kernel⟩
  · exact ⟨.H, by decide +kernel⟩
  · exact ⟨.C, by decide +kernel⟩
  · exact ⟨.P, by decide +kernel⟩
  · exact ⟨.Q, by decide +kernel⟩
  · exact ⟨.X, by decide +kernel⟩
theorem row_of {x : V} (h : x ∈ [V.str "S", .str "LLLL", .str "RR", .str "SLS", .str "HRL", .str "LLLLLLLL", .str "LLLLLLLLS"]) : ∃ ls : List Lt, ls.length ≤ 9 ∧ x = .str (rowS ls) := by
  simp only [List.mem_cons, List.not_mem_nil, or_false] at h
  rcases h with rfl | rfl | rfl | rfl | rfl | rfl | rfl
  · exact ⟨[.S], by decide, by decide +kernel⟩
  · exact ⟨[.L, .L, .L, .L], by decide, by decide +kernel⟩
  · exact ⟨[.R, .R], by decide, by decide +kernel⟩
  · exact ⟨[.S, .L, .S], by decide, by decide +kernel⟩
  · exact ⟨[.H, .R, .L], by decide, by decide +kernel⟩
  · exact ⟨[.L, .L, .L, .L, .L, .L, .L, .L], by decide, by decide +kernel⟩
  · exact ⟨[.L, .L, .L, .L, .L, .L, .L, .L, .S], by decide, by decide +kernel⟩
theorem app_good {m : Nat} {y : Lay} {ps : List Pc} (g : Good m y) (h1 : ¬ 24 < (y ++ ps.map some).length) (h2 : (poses (y ++ ps.map some)).Nodup) (hb : ∀ pc ∈ ps, Bd (m + 40) pc.2) : Good (m + 40) (y ++ ps.map some) := by
  refine ⟨by omega, h2, fun pc hp => ?_⟩
  rcases List.mem_append.mp hp with h | h
  · exact (g.bd pc h).mono (by omega)
  · obtain ⟨pc', hp', e⟩ := List.mem_map.mp h
    cases Option.some.inj e
    exact hb _ hp'
section
variable {P : Program} {w : World} {K : PySem.W.Frag} {mg : Str → Option Value} {base : Heap} {C B fI : Addr}
def spDeed (C : Addr) : Sp := fun vs H Q _ => ∃ (W : Wl) (y : Lay) (ys : List Lay) (m : Nat), vs = [.ref W.b, .ref W.F.fl, .ref W.L] ∧ WH C W H y ys (ys ++ [y]) ∧ (∀ z ∈ ys ++ [y], Good m z) ∧ 2 ≤ m ∧ m ≤ 900 ∧ ys.length ≤ 100 ∧
  ∀ H' y' ys', WH C W H' y' ys' (ys' ++ [y']) → (∀ z ∈ ys' ++ [y'], Good (m + 40) z) → ys'.length ≤ ys.length + 1 → Q (.bl true) H'
abbrev nDeed : List Str := ["_law_box", "_law_floor", "_law_layouts", "_law_layout", "_law_kind", "_law_due", "_law_number", "_law_pose_here", "_law_pieces", "_law_row", "_law_k"]
theorem sc_deed : FnScope nDeed ["_law_box", "_law_floor", "_law_layouts"] (defScope s_law_deed) := ⟨rfl, rfl, rfl, by decide +kernel, rfl, by decide +kernel, by decide +kernel⟩
theorem c_deed (D : Dn K mg "_law_deed" s_law_deed) (cl : FlCls K C) (ml : mg "len" = none) (mt : mg "tuple" = none) (mi : mg "int" = none) (mr : mg "range" = none)
    (cs : CalG P w K mg base 1 "_law_same" (spSame K)) (cd : Cal P w K mg base 1 "_law_draw" spDraw) (cpk : Cal P w K mg base 2 "_law_pick" spPick) (ct : Cal P w K mg base 9 "_law_told" (spTold C B)) (cpl : Cal P w K mg base 6 "_law_place" spPlaceL)
    (cpd : Cal P w K mg base 3 "_law_placed" spPlaced) (cf : Cal P w K mg base 6 "_law_is_free" spFree) (mu : MCal CX0 P w K mg base 1 C "undo" (spUndo C)) : CalG P w K mg base 10 "_law_deed" (spDeed C) := by
  refine D.calG sc_deed (fun vs H Q E h => ?_) (fun _ _ _ _ _ _ us hl => match us, hl with | [_, _, _], _ => rfl) (fun f cdv A outer s H vs Q E hg hr h => ?_)
  · obtain ⟨W, y, ys, m, rfl, _⟩ := h
    rfl
  · obtain ⟨W, y, ys, m, rfl, hW, hG, hm2, hm, hys, q⟩ := h
    have nd := sc_deed.nd
    refine ⟨_, pss_cons (ps_set (i := 3) nd rfl (.inl rfl) (pe_ix ix_list (pv 2) (pe_un un_neg pe_int) (fun _ _ => rfl)))
      (pss_cons (ps_set (i := 4) nd rfl (.inl rfl) (pe_c cd hr (by decide) rfl (pa_cons (pv 0) (pa_cons pe_int pa_nil))))
      (pss_cons (ps_if (pt_cut (PW.pt (pw_or (pt_cmpR op_eq (pv 4) pe_int (nomark _)) (pw_or1 (PW.pt (pw_and (pt_cmpR op_eq (pv 4) pe_int (nomark _)) (pw_and (pt_cmpR op_gt (pe_callB call_len_seq (by rfl) ml PySem.boot_len (pa_cons (pv 2) pa_nil)) pe_int (nomark _))
            (pw_and1 (pt_cmpR op_eq (pe_c cd hr (by decide) rfl (pa_cons (pv 0) (pa_cons pe_int pa_nil))) pe_int (nomark _))))))))))
        (pss_cons (ps_set (i := 5) nd rfl (.inl rfl) (pe_cmpR op_gt (pe_callB call_len_seq (by rfl) ml PySem.boot_len (pa_cons (pv 2) pa_nil)) pe_int (nomark _)))
        (pss_cons (ps_if (pt_truth (pv 5) (fun _ => rfl)) (pss_one (ps_expr (pe_bm0 PySem.F.plainAttrs_list PySem.F.slot_list_pop PySem.F.type_list_pop mt_pop (pv 2)))) pss_nil)
        (pss_one (ps_ret (pe_cG cs hg hr (by decide) rfl (pa_cons (pe_mS0 (E := fun _ => E0) mu hr (by decide) cl.cls pass0S (pv 1)) (pa_cons (pv 5) pa_nil)))))))
        pss_nil)
      (pss_cons (ps_if (pt_cmpR op_eq (pv 4) pe_int (nomark _))
        (pss_cons (ps_set (i := 6) nd rfl (.inl rfl) (pe_c cd hr (by decide) rfl (pa_cons (pv 0) (pa_cons (pe_op op_add (pe_callB call_len_seq (by rfl) ml PySem.boot_len (pa_cons (pv 3) pa_nil)) pe_int) pa_nil))))
        (pss_cons (ps_set (i := 5) nd rfl (.inl rfl) (pe_lst (pa_cons pe_str (pa_cons pe_str pa_nil))))
        (Evl.pss_cut (ps_if (pt_cut (PW.pt (pw_and (pt_cmpR op_lt (pv 6) (pe_callB call_len_seq (by rfl) ml PySem.boot_len (pa_cons (pv 3) pa_nil)) (nomark _)) (pw_and1 (pt_cmpR op_notN1 (pe_ix ix_list (pv 3) (pv 6) (fun _ _ => rfl)) pe_non (nomark _))))))
          (pss_cons (ps_set (i := 5) nd rfl (.inl rfl) pe_non)
          (pss_one (ps_expr (pe_bm PySem.F.plainAttrs_list PySem.F.slot_list_append PySem.F.type_list_append mt_append (pv 2) (pa_cons (pe_op op_cat (pe_op op_cat (pe_slice sl_list (pv 3) po_none (po_some (pv 6))) (pe_lst (pa_cons pe_non pa_nil)))
            (pe_slice sl_list (pv 3) (po_some (pe_op op_add (pv 6) pe_int)) po_none)) pa_nil)))))
          pss_nil)
        (pss_one (ps_ret (pe_cG cs hg hr (by decide) rfl (pa_cons (pe_c ct hr (by decide) rfl (pa_cons (pv 1) (pa_cons pe_int (pa_cons (pv 6) (pa_cons pe_non pa_nil))))) (pa_cons (pv 5) pa_nil))))))))
        pss_nil)
      (pss_cons (ps_set (i := 7) nd rfl (.inl rfl) (pe_c cpl hr (by decide) rfl (pa_cons (pv 0) (pa_cons (pv 3) pa_nil))))
      (pss_cons (ps_set (i := 8) nd rfl (.inl rfl) (pe_lst (pa_cons (pe_tup (pa_cons (pe_c cpk hr (by decide) rfl (pa_cons (pv 0) (pa_cons (pe_lst (pa_cons pe_str (pa_cons pe_str (pa_cons pe_str (pa_cons pe_str (pa_cons pe_str (pa_cons pe_str pa_nil))))))) pa_nil))) (pa_cons (pv 7) pa_nil))) pa_nil)))
      (pss_cons (ps_set (i := 9) nd rfl (.inl rfl) (pe_c cpk hr (by decide) rfl (pa_cons (pv 0) (pa_cons (pe_lst (pa_cons pe_str (pa_cons pe_str (pa_cons pe_str (pa_cons pe_str (pa_cons pe_str (pa_cons pe_str (pa_cons pe_str pa_nil)))))))) pa_nil))))
      (Evl.pss_cut (ps_if (pt_cmpR op_gt (pv 4) pe_int (nomark _)) (pss_one (ps_set (i := 8) nd rfl (.inl rfl) (pe_c cpd hr (by decide) rfl (pa_cons (pv 7) (pa_cons (pv 9) pa_nil))))) pss_nil)
      (pss_cons (ps_set (i := 5) nd rfl (.inl rfl) (pe_lst (pa_cons pe_str (pa_cons pe_str pa_nil))))
      (Evl.pss_cut (ps_if (pt_cmpR op_gt (pe_op op_add (pe_callB call_len_seq (by rfl) ml PySem.boot_len (pa_cons (pv 3) pa_nil)) (pe_callB call_len_seq (by rfl) ml PySem.boot_len (pa_cons (pv 8) pa_nil))) pe_int (nomark _))
        (pss_one (ps_set (i := 5) nd rfl (.inl rfl) (pe_lst (pa_cons pe_str (pa_cons pe_str pa_nil)))))
        (pss_one (ps_if (pt_truth (pe_c cf hr (by decide) rfl (pa_cons (pv 3) (pa_cons (pv 8) pa_nil))) (fun _ => rfl))
          (pss_cons (ps_set (i := 5) nd rfl (.inl rfl) (pe_callB call_len_seq (by rfl) ml PySem.boot_len (pa_cons (pv 3) pa_nil)))
          (Evl.pss_cut (ps_if (pt_cmpR op_gt (pv 4) pe_int (nomark _)) (pss_one (ps_set (i := 5) nd rfl (.inl rfl) (pe_callTy call_tuple_of (by rfl) mt boot_tuple (pa_cons
              (pe_lc (own := [("_law_k", 10)]) (g := gName 10) (tt := tYes) (te := tCB rInt1 (tCons (tVar 10) tNil)) (by rfl) nd (pi_range2 (by rfl) mr (pa_cons (pe_callB call_len_seq (by rfl) ml PySem.boot_len (pa_cons (pv 3) pa_nil)) (pa_cons (pe_op op_add (pe_callB call_len_seq (by rfl) ml PySem.boot_len (pa_cons (pv 3) pa_nil)) (pe_callB call_len_seq (by rfl) ml PySem.boot_len (pa_cons (pv 8) pa_nil))) pa_nil)))
                (blkOk_by (N := nDeed) (sc := defScope s_law_deed) (by decide +kernel)) (fun _ _ _ _ _ => pg_name (i := 10) nd rfl (.inl rfl)) (fun _ _ _ _ _ => pts_nil) (fun _ _ _ _ _ => pe_callTy call_int2 (by rfl) mi boot_int (pa_cons (pv 10) pa_nil))) pa_nil)))) pss_nil)
          (pss_one (ps_expr (pe_bm PySem.F.plainAttrs_list PySem.F.slot_list_append PySem.F.type_list_append mt_append (pv 2) (pa_cons (pe_op op_cat (pv 3) (pv 8)) pa_nil))))))
          pss_nil)))
      (pss_cons (ps_if (pt_cmpR op_gt (pv 4) pe_int (nomark _)) (pss_one (ps_ret (pe_cG cs hg hr (by decide) rfl (pa_cons (pe_c ct hr (by decide) rfl (pa_cons (pv 1) (pa_cons pe_int (pa_cons (pv 9) (pa_cons (pv 7) pa_nil))))) (pa_cons (pv 5) pa_nil))))) pss_nil)
      (pss_one (ps_ret (pe_cG cs hg hr (by decide) rfl (pa_cons (pe_c ct hr (by decide) rfl (pa_cons (pv 1) (pa_cons pe_int (pa_cons (pe_ix ix_tup (pe_ix ix_list (pv 8) pe_int (fun _ _ => rfl)) pe_int (fun _ _ => rfl)) (pa_cons (pv 7) pa_nil))))) (pa_cons (pv 5) pa_nil))))))))))))))), ?_⟩
    obtain ⟨rs, hL, hrs⟩ := hW.rows
    obtain ⟨_, gvL, aL, rfl, hyL, n1, n2, n3⟩ := pr_last hrs
    have gy : Good m y := hG y (List.mem_append_right _ (List.mem_singleton.mpr rfl))
    have rlen : rs.length = ys.length + 1 := by
      rw [pr_len hrs, List.length_append]
      rfl
    refine ⟨_, rfl, 1, rfl, W.L, rs, -1, .ref aL, rfl, rfl, SqL.of hL, gvL, ?_⟩
    refine ⟨_, rfl, W.b, W.d, 6, rfl, by decide, hW.box, fun H1 kd x1 hb1 k0 k6 => ?_⟩
    have hW1 := hW.draw x1 hb1
    have hyL1 := hyL.draw x1 hW.box n1
    refine ⟨fun _ H' => WH C W H' y ys (ys ++ [y]) ∧ LayL H' aL y, ?_, fun b H2 hR => ?_⟩
    · obtain ⟨rs1, hL1, hrs1⟩ := hW1.rows
      refine ⟨_, rfl, rfl, _, rfl, ite2 (fun _ => ⟨hW1, hyL1⟩) (fun _ => ⟨_, rfl, rfl, _, rfl, ite2 (fun _ => ⟨_, rfl, W.L, rs1, rfl, .inl (SqL.of hL1), _, _, rfl, rfl, _, rfl, ite2 (fun _ => ?_) (fun _ => ⟨hW1, hyL1⟩)⟩) (fun _ => ⟨hW1, hyL1⟩)⟩)⟩
      exact ⟨_, rfl, W.b, W.d, 2, rfl, by decide, hW1.box, fun H2 r x2 hb2 _ _ => ⟨rfl, _, rfl, hW1.draw x2 hb2, hyL1.draw x2 hW1.box n1⟩⟩
    obtain ⟨hW2, hyL2⟩ := hR
    obtain ⟨rs2, hL2, hrs2⟩ := hW2.rows
    have rlen2 : rs2.length = ys.length + 1 := by
      rw [pr_len hrs2, List.length_append]
      rfl
    obtain ⟨pa, pr, hf2, _⟩ := id hW2.fl
    cases b with
    | true =>
      refine if_t rfl ?_
      refine ⟨_, rfl, W.L, rs2, rfl, .inl (SqL.of hL2), _, _, rfl, rfl, ?_⟩
      rcases List.eq_nil_or_concat ys with e | ⟨zs, z, e⟩
      · subst e
        have ed : decide ((1 : Int) < (rs2.length : Nat)) = false := decide_eq_false (by rw [rlen2]; decide)
        refine ⟨_, rfl, _, ed.symm, if_f rfl ?_⟩
        refine ⟨_, rfl, W.F.fl, W.F.dx, _, rfl, hf2, rfl, W.F, y, [], rfl, hW2.fl, fun _ => ?_, fun ps z e => by simp at e⟩
        refine ⟨_, rfl, _, _, .bool false, rfl, .bl _, ?_, (fit_bl _).ok (by decide) (by decide), ?_⟩
        · show Dp _ _ (V.bl (decide ((1 : Int) < (rs2.length : Nat)))) _
          rw [ed]
          exact .bl _
        · exact q H2 y [] hW2 (fun z hz => (hG z hz).mono (by omega)) (by simp)
      · rw [List.concat_eq_append] at e
        subst e
        have ed : decide ((1 : Int) < (rs2.length : Nat)) = true := decide_eq_true (by rw [rlen2, List.length_append]; show (1 : Int) < ((zs.length + 1 + 1 : Nat) : Int); omega)
        refine ⟨_, rfl, _, ed.symm, if_t rfl ?_⟩
        obtain ⟨xv, gxv, _, hdl⟩ := pr_pop hrs2
        refine ⟨_, rfl, .inl ⟨rfl, _, SqL.of hL2⟩, W.L, rs2, xv, rfl, rfl, hL2, gxv, ?_⟩
        have hW3 := hW2.rowsTo hdl
        obtain ⟨_, _, hf3, _⟩ := id hW3.fl
        refine ⟨_, rfl, W.F.fl, W.F.dx, _, rfl, hf3, rfl, W.F, y, zs ++ [z], rfl, hW3.fl, (fun e => by simp at e), fun ps z' e H4 s4 hF4 => ?_⟩
        obtain ⟨rfl, e2⟩ := List.append_inj' e rfl
        obtain rfl : z = z' := (List.cons.inj e2).1
        refine ⟨_, rfl, _, _, .bool true, rfl, .bl _, ?_, (fit_bl _).ok (by decide) (by decide), ?_⟩
        · show Dp _ _ (V.bl (decide ((1 : Int) < (rs2.length : Nat)))) _
          rw [ed]
          exact .bl _
        · exact q H4 z zs (hW3.flo s4 hF4) (fun w hw => (hG w (List.mem_append_left _ hw)).mono (by omega)) (by rw [List.length_append]; omega)
    | false =>
      refine if_f rfl ?_
      obtain ⟨lxs, hl2, hlx2⟩ := id hyL2
      have llen : lxs.length = y.length := pr_len hlx2
      have ylen := gy.len
      refine ⟨_, rfl, rfl, _, rfl, ite2 (fun _ => ?_) (fun _ => ?_)⟩
      · -- a piece is removed
        refine ⟨_, rfl, _, rfl, aL, lxs, rfl, .inl (SqL.of hl2), _, _, rfl, rfl, W.b, W.d, (lxs.length : Nat) + 1, rfl, by omega, hW2.box, fun H3 nn x3 hb3 n0 nu => ?_⟩
        obtain ⟨k, rfl⟩ : ∃ k : Nat, nn = (k : Int) := ⟨nn.toNat, by omega⟩
        have hW3 := hW2.draw x3 hb3
        obtain ⟨lxs3, hl3, hlx3⟩ := hyL2.draw x3 hW2.box n1
        have llen3 : lxs3.length = y.length := pr_len hlx3
        refine ⟨(by show 2 ≤ sizeLine; decide), fun ld nld => ?_⟩
        have s4 := sm_upd (o := .lst [.str "refused", .str "no such piece"]) nld
        have hW4 := hW3.sm s4
        have el4 : (upd H3 ld (.lst [.str "refused", .str "no such piece"])) aL = some (.lst lxs3) := s4 _ _ hl3
        have hlx4 := hlx3.tk (sm_tk s4)
        have ed4 : (upd H3 ld (.lst [.str "refused", .str "no such piece"])) ld = some (.lst [.str "refused", .str "no such piece"]) := upd_same
        refine ⟨fun σ' H' => ∃ (dv : V) (lst : List Lay), σ' = [some (.ref W.b), some (.ref W.F.fl), some (.ref W.L), some (.ref aL), some (.int kd), some dv, some (.int (k : Nat)), none, none, none, none] ∧ WH C W H' y ys lst ∧
          ((There y k ∧ dv = .non ∧ lst = (ys ++ [y]) ++ [y.set k none]) ∨ (¬ There y k ∧ lst = ys ++ [y] ∧ ∃ ld, dv = .ref ld ∧ H' ld = some (.lst [.str "refused", .str "no such piece"]))), ?_, ?_⟩
        · refine ⟨fun b H' => H' = upd H3 ld (.lst [.str "refused", .str "no such piece"]) ∧ (b = true ↔ There y k), ?_, fun b H' hR => ?_⟩
          · refine ⟨_, rfl, _, rfl, aL, lxs3, rfl, .inl (SqL.of el4), _, _, rfl, rfl, _, rfl, ite2 (fun c => ?_) (fun c => ?_)⟩
            · have hk : k < lxs3.length := by
                have z := of_decide_eq_true c
                omega
              obtain ⟨o, go, hpc⟩ := pr_get hlx4 (List.getElem?_eq_getElem hk)
              refine ⟨_, rfl, _, rfl, aL, lxs3, (k : Int), lxs3[k], rfl, rfl, SqL.of el4, atI_nat (List.getElem?_eq_getElem hk), rfl, _, rfl, rfl, ?_⟩
              cases o with
              | none =>
                have e : lxs3[k] = .non := hpc
                rw [e]
                exact ⟨(fun z => by cases z), fun ⟨pc, z⟩ => by rw [go] at z; cases z⟩
              | some pc =>
                obtain ⟨t, qa, e, _⟩ := hpc
                rw [e]
                exact ⟨fun _ => ⟨pc, go⟩, fun _ => rfl⟩
            · refine ⟨rfl, (fun z => by cases z), fun z => absurd (decide_eq_true ?_) c⟩
              have := z.lt
              omega
          · obtain ⟨rfl, hb⟩ := hR
            cases b with
            | true =>
              have ht := hb.mp rfl
              have hk : k < lxs3.length := by
                rw [llen3]
                exact ht.lt
              obtain ⟨rs4, hL4, hrs4⟩ := hW4.rows
              have rlen4 : rs4.length = ys.length + 1 := by
                rw [pr_len hrs4, List.length_append]
                rfl
              refine if_t rfl ?_
              refine ⟨_, rfl, .inl ⟨rfl, _, SqL.of hL4⟩, _, rfl, _, rfl, _, rfl, aL, lxs3, rfl, SqL.of el4, fun p5 np5 => ?_⟩
              have s5 := sm_upd (o := .lst (cutV lxs3 none (some (k : Int)))) np5
              refine ⟨(by show 1 ≤ sizeLine; decide), fun p6 np6 => ?_⟩
              have s6 := sm_upd (o := .lst [.non]) np6
              have hc1 := cutV_length lxs3 none (some (k : Int))
              refine ⟨p5, p6, _, _, rfl, rfl, s6 _ _ upd_same, upd_same, small24 (by show _ + 1 ≤ 16777216; omega), fun p7 np7 => ?_⟩
              have s7 := sm_upd (o := .lst (cutV lxs3 none (some (k : Int)) ++ [.non])) np7
              have s57 := s5.trans (s6.trans s7)
              refine ⟨_, rfl, _, rfl, _, _, rfl, rfl, _, rfl, aL, lxs3, rfl, SqL.of (s57 _ _ el4), fun p8 np8 => ?_⟩
              have s8 := sm_upd (o := .lst (cutV lxs3 (some ((k : Int) + 1)) none)) np8
              have hc2 := cutV_length lxs3 (some ((k : Int) + 1)) none
              refine ⟨p7, p8, _, _, rfl, rfl, s8 _ _ upd_same, upd_same, small24 (by rw [List.length_append]; show _ + 1 + _ ≤ 16777216; omega), fun p9 np9 => ?_⟩
              have s9 := sm_upd (o := .lst ((cutV lxs3 none (some (k : Int)) ++ [.non]) ++ cutV lxs3 (some ((k : Int) + 1)) none)) np9
              have s59 := s57.trans (s8.trans s9)
              have hW9 := hW4.sm s59
              have hL9 := s59 _ _ hL4
              refine ⟨W.L, rs4, .ref p9, rfl, rfl, hL9, lt24 (by omega), ?_⟩
              have e9 : ∀ G : Hp, (upd G p9 (.lst ((cutV lxs3 none (some (k : Int)) ++ [.non]) ++ cutV lxs3 (some ((k : Int) + 1)) none))) p9 = some (.lst (lxs3.set k .non)) := fun G => by
                rw [upd_same, cut_set hk]
              have nf : ∀ {x : Addr} {o : HO}, (upd H3 ld (.lst [.str "refused", .str "no such piece"])) x = some o → p9 ≠ x := fun {x o} e z => by
                rw [z, (s57.trans s8) _ _ e] at np9
                cases np9
              obtain ⟨nb, dsb, ebx, _⟩ := hW4.box
              obtain ⟨_, _, _, _, eplx, _⟩ := hW4.fl
              have hrow : RowH W _ (.ref p9) (y.set k none) := ⟨p9, rfl, ⟨_, e9 _, pr_set (hlx4.tk (sm_tk s59)) rfl⟩, nf ebx, nf hL4, nf eplx⟩
              obtain ⟨rs9, hL9', hrs9⟩ := hW9.rows
              rw [hL9] at hL9'
              cases Option.some.inj hL9'
              exact ⟨_, _, rfl, hW9.rowsTo (pr_snoc hrs9 hrow), .inl ⟨ht, rfl, rfl⟩⟩
            | false =>
              have ht : ¬ There y k := fun z => by
                have := hb.mpr z
                cases this
              exact if_f rfl ⟨_, _, rfl, hW4, .inr ⟨ht, rfl, ld, rfl, ed4⟩⟩
        · rintro σ' H5 ⟨dv, lst, rfl, hW5, hcase⟩
          refine ⟨_, rfl, _, rfl, W.F, y, ys, hW5.fl, by omega, by omega, .inr (.inr ⟨k, rfl, fun ht H6 s6 hF6 => ?_, fun ht => fun H6 t6 s6 n6 e6 => ?_⟩)⟩
          · rcases hcase with ⟨_, rfl, rfl⟩ | ⟨h, _⟩
            · refine ⟨_, rfl, _, _, .none, rfl, .non, .non, fit_non.ok (by decide) (by decide), ?_⟩
              refine q H6 (y.set k none) (ys ++ [y]) (hW5.flo s6 hF6) (fun z hz => ?_) (by simp)
              rcases List.mem_append.mp hz with h | h
              · exact (hG z h).mono (by omega)
              · rw [List.mem_singleton.mp h]
                exact (set_good gy).mono (by omega)
            · exact absurd ht h
          · rcases hcase with ⟨h, _⟩ | ⟨_, rfl, ld', rfl, eld⟩
            · exact absurd h ht
            · refine ⟨_, rfl, _, _, _, rfl, dp_ref e6, dp_ref (s6 _ _ eld), ok_none, ?_⟩
              exact q H6 y ys (hW5.sm s6) (fun z hz => (hG z hz).mono (by omega)) (by omega)
      · -- pieces are put
        obtain ⟨rsB, hLB, _⟩ := hW2.rows
        refine ⟨_, rfl, _, rfl, W.b, W.d, aL, y, m, rfl, hW2.box, hyL2, n1, by omega, gy.bd, hm2, fun H3 qa p x3 hb3 hqa hbd => ?_⟩
        have hW3 := hW2.draw x3 hb3
        have hyL3 := hyL2.draw x3 hW2.box n1
        -- [(pick(..), pose)]
        refine ⟨_, rfl, (by show 6 ≤ sizeLine; decide), fun lk nlk => ?_⟩
        have s4 := sm_upd (o := .lst [.str "S", .str "H", .str "C", .str "P", .str "Q", .str "X"]) nlk
        have hW4 := hW3.sm s4
        have nlkb : lk ≠ W.b := fun z => by
          obtain ⟨_, _, e, _⟩ := hW3.box
          rw [z, e] at nlk
          cases nlk
        refine ⟨W.b, W.d, lk, _, rfl, hW4.box, nlkb, upd_same, (by simp), fun H5 xk x5 hb5 hxk => ?_⟩
        obtain ⟨kk, rfl⟩ := kd_of hxk
        have hW5 := hW4.draw x5 hb5
        have tk45 : Tk H3 H5 := (sm_tk s4).trans (x5.tk hW4.box)
        have hyL5 := (hyL3.sm s4).draw x5 hW4.box n1
        have hqa5 := tk45 _ _ hqa
        refine ⟨_, rfl, (by show 2 ≤ sizeLine; decide), fun tp ntp => ⟨(by show 1 ≤ sizeLine; decide), fun P8 nP8 => ?_⟩⟩
        have s6 := sm_upd (o := .tup [.str kk.str, .ref qa]) ntp
        have s7 := sm_upd (o := .lst [.ref tp]) nP8
        have s67 := s6.trans s7
        have hW7 := hW5.sm s67
        have hyL7 := hyL5.sm s67
        have hqa7 := s67 _ _ hqa5
        have htp7 : (upd (upd H5 tp (.tup [.str kk.str, .ref qa])) P8 (.lst [.ref tp])) tp = some (.tup [.str kk.str, .ref qa]) := s7 _ _ upd_same
        have hP7 : (upd (upd H5 tp (.tup [.str kk.str, .ref qa])) P8 (.lst [.ref tp])) P8 = some (.lst [.ref tp]) := upd_same
        have nPb : P8 ≠ W.b := fun z => by
          obtain ⟨_, _, e, _⟩ := hW5.box
          rw [z, s6 _ _ e] at nP8
          cases nP8
        have nP8L : P8 ≠ W.L := fun z => by
          obtain ⟨_, e, _⟩ := hW5.rows
          rw [z, s6 _ _ e] at nP8
          cases nP8
        -- the row
        refine ⟨_, rfl, (by show 7 ≤ sizeLine; decide), fun lr nlr => ?_⟩
        have s8 := sm_upd (o := .lst [.str "S", .str "LLLL", .str "RR", .str "SLS", .str "HRL", .str "LLLLLLLL", .str "LLLLLLLLS"]) nlr
        have hW8 := hW7.sm s8
        have nlrb : lr ≠ W.b := fun z => by
          obtain ⟨_, _, e, _⟩ := hW7.box
          rw [z, e] at nlr
          cases nlr
        refine ⟨W.b, W.d, lr, _, rfl, hW8.box, nlrb, upd_same, (by simp), fun H9 xr x9 hb9 hxr => ?_⟩
        obtain ⟨ls, hls, rfl⟩ := row_of hxr
        have hW9 := hW8.draw x9 hb9
        have tk79 := (sm_tk s8).trans (x9.tk hW8.box)
        have hyL9 := (hyL7.sm s8).draw x9 hW8.box n1
        have hqa9 := tk79 _ _ hqa7
        have htp9 := tk79 _ _ htp7
        have hP9 := x9 _ _ nPb (s8 _ _ hP7)
        have bd1 : ∀ pc ∈ [((kk, p) : Pc)], Bd (m + 40) pc.2 := fun pc hpc => by
          rw [List.mem_singleton.mp hpc]
          exact hbd.mono (by omega)
        have bd2 : ∀ pc ∈ plc p ls, Bd (m + 40) pc.2 := fun pc hpc => (plc_bd ls hbd pc hpc).mono (by omega)
        -- which pieces
        refine ⟨fun σ' H' => ∃ (P8 : Addr) (bs : List V) (ps : List Pc) (c5 c6 c10 : Option V), P8 ≠ W.L ∧ σ' = [some (.ref W.b), some (.ref W.F.fl), some (.ref W.L), some (.ref aL), some (.int kd), c5, c6, some (.ref qa), some (.ref P8), some (.str (rowS ls)), c10] ∧ WH C W H' y ys (ys ++ [y]) ∧ LayL H' aL y ∧ H' qa = some (.tup p.vs) ∧
          H' P8 = some (.lst bs) ∧ PcsH H' bs (ps.map some) ∧ ps.length ≤ 100 ∧ (∀ pc ∈ ps, Bd (m + 40) pc.2) ∧ ((0 < kd - 1 ∧ ps = plc p ls) ∨ (¬ 0 < kd - 1 ∧ ps = [(kk, p)] ∧ bs = [.ref tp] ∧ H' tp = some (.tup [.str kk.str, .ref qa]))), ?_, ?_⟩
        · refine ⟨_, rfl, _, _, rfl, rfl, _, rfl, ite2 (fun c => ?_) (fun c => ?_)⟩
          · have c' : (1 : Int) < kd := of_decide_eq_true c
            refine ⟨_, rfl, _, rfl, qa, p, ls, rfl, hqa9, by omega, fun H10 t10 bs10 s10 n10 e10 hb10 => ?_⟩
            exact ⟨t10, bs10, plc p ls, _, _, _, (fun z => by obtain ⟨_, e, _⟩ := hW9.rows; rw [z, e] at n10; cases n10), rfl, hW9.sm s10, hyL9.sm s10, s10 _ _ hqa9, e10, hb10, by rw [plc_len]; omega, bd2, .inl ⟨by omega, rfl⟩⟩
          · have c' : ¬ (1 : Int) < kd := fun z => c (decide_eq_true z)
            exact ⟨P8, [.ref tp], [(kk, p)], _, _, _, nP8L, rfl, hW9, hyL9, hqa9, hP9, .cons ⟨tp, qa, rfl, htp9, hqa9⟩ .nil, (by show 1 ≤ 100; decide), bd1, .inr ⟨by omega, rfl, rfl, htp9⟩⟩
        rintro σ' H10 ⟨P8, bs, ps, c5, c6, c10, nPL, rfl, hW10, hyL10, hqa10, hP10, hbs10, hpl, hpb, hkind⟩
        obtain ⟨lx, hlx, hlxp⟩ := id hyL10
        have llx : lx.length = y.length := pr_len hlxp
        have lbs : bs.length = ps.length := by
          rw [pr_len hbs10, List.length_map]
        have ltot : (y ++ ps.map some).length = y.length + ps.length := by rw [List.length_append, List.length_map]
        refine ⟨(by show 2 ≤ sizeLine; decide), fun ld nld => ?_⟩
        have s11 := sm_upd (o := .lst [.str "refused", .str "ends overlap"]) nld
        have ed11 : (upd H10 ld (.lst [.str "refused", .str "ends overlap"])) ld = some (.lst [.str "refused", .str "ends overlap"]) := upd_same
        have hW11 := hW10.sm s11
        have hyL11 := hyL10.sm s11
        have hlx11 := s11 _ _ hlx
        have hP11 := s11 _ _ hP10
        have hbs11 := hbs10.tk (sm_tk s11)
        have hqa11 := s11 _ _ hqa10
        have hkind11 : (0 < kd - 1 ∧ ps = plc p ls) ∨ (¬ 0 < kd - 1 ∧ ps = [(kk, p)] ∧ bs = [.ref tp] ∧ (upd H10 ld (.lst [.str "refused", .str "ends overlap"])) tp = some (.tup [.str kk.str, .ref qa])) := by
          rcases hkind with h | ⟨h1, h2, h3, h4⟩
          · exact .inl h
          · exact .inr ⟨h1, h2, h3, s11 _ _ h4⟩
        generalize upd H10 ld (.lst [.str "refused", .str "ends overlap"]) = H11 at s11 ed11 hW11 hyL11 hlx11 hP11 hbs11 hqa11 hkind11
        -- what is due
        refine ⟨fun σ' H' => ∃ (dv : V) (lst : List Lay) (c6 c10 : Option V), σ' = [some (.ref W.b), some (.ref W.F.fl), some (.ref W.L), some (.ref aL), some (.int kd), some dv, c6, some (.ref qa), some (.ref P8), some (.str (rowS ls)), c10] ∧ WH C W H' y ys lst ∧ Tk H11 H' ∧ H' P8 = some (.lst bs) ∧
          ((24 < (y ++ ps.map some).length ∧ lst = ys ++ [y] ∧ ∃ ld, dv = .ref ld ∧ H' ld = some (.lst [.str "refused", .str "too many pieces"])) ∨
           (¬ 24 < (y ++ ps.map some).length ∧ ¬ (poses (y ++ ps.map some)).Nodup ∧ lst = ys ++ [y] ∧ ∃ ld, dv = .ref ld ∧ H' ld = some (.lst [.str "refused", .str "ends overlap"])) ∨
           (¬ 24 < (y ++ ps.map some).length ∧ (poses (y ++ ps.map some)).Nodup ∧ lst = (ys ++ [y]) ++ [y ++ ps.map some] ∧ ((0 < kd - 1 ∧ ∃ t, dv = .ref t ∧ H' t = some (.tup (((List.range' y.length ps.length).map Int.ofNat).map V.int))) ∨ (¬ 0 < kd - 1 ∧ dv = .int (y.length : Nat))))), ?_, ?_⟩
        · refine ⟨_, rfl, aL, lx, rfl, .inl (SqL.of hlx11), _, rfl, P8, bs, rfl, .inl (SqL.of hP11), _, _, rfl, rfl, _, _, rfl, rfl, _, rfl, ite2 (fun c => ?_) (fun c => ?_)⟩
          · have c' : 24 < (y ++ ps.map some).length := by
              have z : (24 : Int) < (lx.length : Nat) + (bs.length : Nat) := of_decide_eq_true c
              omega
            refine ⟨(by show 2 ≤ sizeLine; decide), fun l2 nl2 => ?_⟩
            have s12 := sm_upd (o := .lst [.str "refused", .str "too many pieces"]) nl2
            exact ⟨_, _, _, _, rfl, hW11.sm s12, sm_tk s12, s12 _ _ hP11, .inl ⟨c', rfl, l2, rfl, upd_same⟩⟩
          · have c' : ¬ 24 < (y ++ ps.map some).length := fun z => c (decide_eq_true (by show (24 : Int) < (lx.length : Nat) + (bs.length : Nat); omega))
            refine ⟨_, rfl, _, rfl, aL, P8, y, bs, ps, rfl, hyL11, by omega, hP11, hbs11, hpl, gy.nd, fun H12 s12 => ⟨_, rfl, ite2 (fun cn => ?_) (fun cn => ?_)⟩⟩
            · have hnd := of_decide_eq_true cn
              have hW12 := hW11.sm s12
              have hlx12 := s12 _ _ hlx11
              have hP12 := s12 _ _ hP11
              refine ⟨_, rfl, aL, lx, rfl, .inl (SqL.of hlx12), ?_⟩
              refine ⟨fun σ' H' => ∃ (dv : V) (c6 c10 : Option V), σ' = [some (.ref W.b), some (.ref W.F.fl), some (.ref W.L), some (.ref aL), some (.int kd), some dv, c6, some (.ref qa), some (.ref P8), some (.str (rowS ls)), c10] ∧ Same H12 H' ∧
                ((0 < kd - 1 ∧ ∃ t, dv = .ref t ∧ H' t = some (.tup (((List.range' y.length ps.length).map Int.ofNat).map V.int))) ∨ (¬ 0 < kd - 1 ∧ dv = .int (y.length : Nat))), ?_, ?_⟩
              · refine ⟨_, rfl, _, _, rfl, rfl, _, rfl, ite2 (fun ck => ?_) (fun ck => ?_)⟩
                · have ck' : (1 : Int) < kd := of_decide_eq_true ck
                  refine ⟨_, rfl, aL, lx, rfl, .inl (SqL.of hlx12), _, rfl, aL, lx, rfl, .inl (SqL.of hlx12), _, rfl, P8, bs, rfl, .inl (SqL.of hP12), _, _, rfl, rfl, _, _, rfl, ⟨by omega, by omega, by omega, by omega⟩, fun D0 hD => ?_⟩
                  refine lc_range (lo := ((lx.length : Nat) : Int)) (n := (((lx.length : Nat) : Int) + ((bs.length : Nat) : Int) - ((lx.length : Nat) : Int)).toNat) (fun i H' => Same H12 H' ∧ H' D0 = some (.lst (((List.range' y.length i).map Int.ofNat).map V.int))) ⟨sm_upd hD, upd_same⟩ ?_ ?_
                  · rintro i H13 hi ⟨s13, e13⟩
                    refine ⟨rfl, ?_⟩
                    refine ⟨_, rfl, .inl ⟨_, rfl, _, e13, lt24 (by rw [List.length_map, List.length_map, List.length_range']; omega), sm_upd' s13 hD, ?_⟩⟩
                    rw [upd_same, llx, List.range'_concat, List.map_append, List.map_append, show y.length + 1 * i = y.length + i by omega]
                    rfl
                  · rintro H13 ⟨s13, e13⟩
                    rw [show (((lx.length : Nat) : Int) + ((bs.length : Nat) : Int) - ((lx.length : Nat) : Int)).toNat = ps.length by omega] at e13
                    refine ⟨D0, _, rfl, .inl ⟨SqL.of e13, fun t14 n14 => ?_⟩⟩
                    exact ⟨_, _, _, rfl, sm_updN s13 n14, .inl ⟨by omega, t14, rfl, upd_same⟩⟩
                · have ck' : ¬ (1 : Int) < kd := fun z => ck (decide_eq_true z)
                  refine ⟨_, _, _, rfl, Same.refl _, .inr ⟨by omega, ?_⟩⟩
                  rw [llx]
              · rintro σ' H13 ⟨dv, c6, c10, rfl, s13, hdv⟩
                have hW13 := hW12.sm s13
                obtain ⟨rs13, hL13, hrs13⟩ := hW13.rows
                have rlen13 : rs13.length = ys.length + 1 := by
                  rw [pr_len hrs13, List.length_append]
                  rfl
                refine ⟨_, rfl, .inl ⟨rfl, _, SqL.of hL13⟩, _, rfl, _, rfl, aL, P8, lx, bs, rfl, rfl, s13 _ _ hlx12, s13 _ _ hP12, small24 (by omega), fun p9 np9 => ?_⟩
                have s14 := sm_upd (o := .lst (lx ++ bs)) np9
                have hW14 := hW13.sm s14
                have hL14 := s14 _ _ hL13
                have s114 := s12.trans (s13.trans s14)
                refine ⟨W.L, rs13, .ref p9, rfl, rfl, hL14, lt24 (by omega), ?_⟩
                have nf : ∀ {x : Addr} {o : HO}, H13 x = some o → p9 ≠ x := fun {x o} e z => by
                  rw [z, e] at np9
                  cases np9
                obtain ⟨nb, dsb, ebx, _⟩ := hW13.box
                obtain ⟨_, _, _, _, eplx, _⟩ := hW13.fl
                have hrow : RowH W (upd H13 p9 (.lst (lx ++ bs))) (.ref p9) (y ++ ps.map some) := ⟨p9, rfl, ⟨_, upd_same, pr_app (hlxp.tk ((sm_tk s11).trans (sm_tk s114))) (hbs11.tk (sm_tk s114))⟩, nf ebx, nf hL13, nf eplx⟩
                obtain ⟨rs14, hL14', hrs14⟩ := hW14.rows
                rw [hL14] at hL14'
                cases Option.some.inj hL14'
                have tkL : Tk (upd H13 p9 (.lst (lx ++ bs))) (upd (upd H13 p9 (.lst (lx ++ bs))) W.L (.lst (rs13 ++ [.ref p9]))) := tk_lst hL14
                refine ⟨dv, _, _, _, rfl, hW14.rowsTo (pr_snoc hrs14 hrow), (sm_tk s114).trans tkL, (upd_ne nPL).trans (s114 _ _ hP11), .inr (.inr ⟨c', hnd, rfl, ?_⟩)⟩
                rcases hdv with ⟨h, t, rfl, et⟩ | h
                · exact .inl ⟨h, t, rfl, tkL _ _ (s14 _ _ et)⟩
                · exact .inr h
            · have hnd : ¬ (poses (y ++ ps.map some)).Nodup := fun z => cn (decide_eq_true z)
              exact ⟨_, _, _, _, rfl, hW11.sm s12, sm_tk s12, s12 _ _ hP11, .inr (.inl ⟨c', hnd, rfl, ld, rfl, s12 _ _ ed11⟩)⟩
        rintro σ' H12 ⟨dv, lst, c6, c10, rfl, hW12, tk12, hP12, hdv⟩
        have hqa12 := tk12 _ _ hqa11
        have mk : ∀ (Qr : VK) (R : Hp → Prop), (∀ v H', WH C W H' y ys (ys ++ [y]) → Dp K H' v (refD "too many pieces") → Same H12 H' → 24 < (y ++ ps.map some).length → Qr v H') → (∀ v H', WH C W H' y ys (ys ++ [y]) → Dp K H' v (refD "ends overlap") → Same H12 H' → ¬ 24 < (y ++ ps.map some).length → ¬ (poses (y ++ ps.map some)).Nodup → Qr v H') →
            (∀ H', WH C W H' (y ++ ps.map some) (ys ++ [y]) ((ys ++ [y]) ++ [y ++ ps.map some]) → SmS W.F.S H12 H' → ¬ 24 < (y ++ ps.map some).length → (poses (y ++ ps.map some)).Nodup → R H') → ToldOk C W.F y ys (ps.map some) H12 Qr R := fun Qr R h1 h2 h3 => by
          refine ⟨fun c H' t s n e => ?_, fun c1 c2 H' t s n e => ?_, fun c1 c2 H' s hF => ?_⟩
          · rcases hdv with ⟨_, rfl, _⟩ | ⟨h, _⟩ | ⟨h, _⟩
            · exact h1 _ _ (hW12.sm s) (dp_ref e) s c
            · exact absurd c h
            · exact absurd c h
          · rcases hdv with ⟨h, _⟩ | ⟨_, _, rfl, _⟩ | ⟨_, h, _⟩
            · exact absurd h c1
            · exact h2 _ _ (hW12.sm s) (dp_ref e) s c1 c2
            · exact absurd h c2
          · rcases hdv with ⟨h, _⟩ | ⟨_, h, _⟩ | ⟨_, _, rfl, _⟩
            · exact absurd h c1
            · exact absurd c2 h
            · exact h3 _ (hW12.flo s hF) s c1 c2
        have fin1 : ∀ H', WH C W H' y ys (ys ++ [y]) → Q (.bl true) H' := fun H' h => q H' y ys h (fun z hz => (hG z hz).mono (by omega)) (by omega)
        have fin2 : ∀ H', WH C W H' (y ++ ps.map some) (ys ++ [y]) ((ys ++ [y]) ++ [y ++ ps.map some]) → ¬ 24 < (y ++ ps.map some).length → (poses (y ++ ps.map some)).Nodup → Q (.bl true) H' := fun H' h c1 c2 => q H' (y ++ ps.map some) (ys ++ [y]) h (fun z hz => by
          rcases List.mem_append.mp hz with hz | hz
          · exact (hG z hz).mono (by omega)
          · rw [List.mem_singleton.mp hz]
            exact app_good gy c1 c2 hpb) (by simp)
        have dmany : 24 < (y ++ ps.map some).length → ∀ H', Same H12 H' → Dp K H' dv (refD "too many pieces") := fun c H' s => by
          rcases hdv with ⟨_, _, ld, rfl, e⟩ | ⟨h, _⟩ | ⟨h, _⟩
          · exact dp_ref (s _ _ e)
          · exact absurd c h
          · exact absurd c h
        have dover : ¬ 24 < (y ++ ps.map some).length → ¬ (poses (y ++ ps.map some)).Nodup → ∀ H', Same H12 H' → Dp K H' dv (refD "ends overlap") := fun c1 c2 H' s => by
          rcases hdv with ⟨h, _⟩ | ⟨_, _, _, ld, rfl, e⟩ | ⟨_, h, _⟩
          · exact absurd h c1
          · exact dp_ref (s _ _ e)
          · exact absurd h c2
        refine ⟨_, rfl, _, _, rfl, rfl, _, rfl, ite2 (fun ck => ?_) (fun ck => ?_)⟩
        · -- a row
          have ck' : (1 : Int) < kd := of_decide_eq_true ck
          have eps : ps = plc p ls := by
            rcases hkind with ⟨_, h⟩ | ⟨h, _⟩
            · exact h
            · exact absurd (by omega) h
          have elen : ps.length = ls.length := by rw [eps, plc_len]
          refine ⟨_, rfl, _, rfl, _, rfl, W.F, y, ys, hW12.fl, by omega, by omega, .inr (.inl ⟨ls, qa, p, rfl, hqa12, by omega, ?_⟩)⟩
          rw [← eps]
          refine mk _ _ (fun v H' h hd s c => ?_) (fun v H' h hd s c1 c2 => ?_) (fun H' h s c1 c2 => fun t nt => ?_)
          · exact ⟨_, rfl, _, _, _, rfl, hd, dmany c H' s, ok_many, fin1 H' h⟩
          · exact ⟨_, rfl, _, _, _, rfl, hd, dover c1 c2 H' s, ok_over, fin1 H' h⟩
          · rcases hdv with ⟨h', _⟩ | ⟨_, h', _⟩ | ⟨_, _, _, hd⟩
            · exact absurd h' c1
            · exact absurd c2 h'
            · rcases hd with ⟨_, t', rfl, et⟩ | ⟨h', _⟩
              · have s14 := sm_upd (o := .tup (((List.range' y.length ls.length).map Int.ofNat).map V.int)) nt
                rw [elen] at et
                have et2 := s14 _ _ (s.tk hW12.fl.nt _ _ et)
                refine ⟨_, rfl, _, _, .tuple (((List.range' y.length ls.length).map Int.ofNat).map PyData.int), rfl, .tup (sqt_of upd_same) (dp_ints _), .tup (sqt_of et2) (dp_ints _), ?_, fin2 _ (h.sm s14) c1 c2⟩
                refine (fit_tup (n := 100) (k := 0) (w := 20) (fun d hd => ?_) (by rw [List.length_map, List.length_map, List.length_range']; omega)).ok (by decide) (by decide)
                obtain ⟨i, hi, rfl⟩ := List.mem_map.mp hd
                obtain ⟨j, hj, rfl⟩ := List.mem_map.mp hi
                have := List.mem_range'_1.mp hj
                exact fit_nat (by omega)
              · exact absurd (by omega) h'
        · -- one piece
          have ck' : ¬ (1 : Int) < kd := fun z => ck (decide_eq_true z)
          obtain ⟨eps, ebs, htp12⟩ : ps = [(kk, p)] ∧ bs = [.ref tp] ∧ H12 tp = some (.tup [.str kk.str, .ref qa]) := by
            rcases hkind11 with ⟨h, _⟩ | ⟨_, h1, h2, h3⟩
            · exact absurd (by omega) ck'
            · exact ⟨h1, h2, tk12 _ _ h3⟩
          rw [ebs] at hP12
          refine ⟨_, rfl, _, rfl, P8, _, 0, .ref tp, rfl, rfl, SqL.of hP12, rfl, tp, _, 0, .str kk.str, rfl, rfl, sqt_of htp12, rfl, _, rfl, W.F, y, ys, hW12.fl, by omega, by omega, .inl ⟨kk, qa, p, rfl, hqa12, ?_⟩⟩
          rw [show [some (kk, p)] = ps.map some by rw [eps]; rfl]
          refine mk _ _ (fun v H' h hd s c => ?_) (fun v H' h hd s c1 c2 => ?_) (fun H' h s c1 c2 => ?_)
          · exact ⟨_, rfl, _, _, _, rfl, hd, dmany c H' s, ok_many, fin1 H' h⟩
          · exact ⟨_, rfl, _, _, _, rfl, hd, dover c1 c2 H' s, ok_over, fin1 H' h⟩
          · rcases hdv with ⟨h', _⟩ | ⟨_, h', _⟩ | ⟨_, _, _, hd⟩
            · exact absurd h' c1
            · exact absurd c2 h'
            · rcases hd with ⟨h', _⟩ | ⟨_, rfl⟩
              · exact absurd (by omega) ck'
              · exact ⟨_, rfl, _, _, .int (y.length : Nat), rfl, .int _, .int _, (fit_nat (by omega)).ok (by decide) (by decide), fin2 _ h c1 c2⟩
end
end Rk
end
section
set_option Elab.async false
set_option linter.all false
set_option maxRecDepth 100000
set_option maxHeartbeats 4000000
/-! The law itself. -/
namespace Rk
open PySem PySem.Spec PyProof.Rows L2
open GxR (TabG)
section
variable {P : Program} {w : World} {K : PySem.W.Frag} {mg : Str → Option Value} {base : Heap} {C B fI : Addr}
def spLaw (K : PySem.W.Frag) (p : Addr) : Sp := fun vs H Q _ => ∃ (a : Addr) (ns : List Int), vs = [.ref a] ∧ SqL K H a (ns.map V.int) ∧ TabG H p ∧ ∀ H', Q (.bl true) H'
abbrev nLaw : List Str := ["_law_script", "_law_box", "_law_floor", "_law_layouts", "_law_turn"]
theorem sc_law : FnScope nLaw ["_law_script"] (defScope s_law) := ⟨rfl, rfl, rfl, by decide +kernel, rfl, by decide +kernel, by decide +kernel⟩
theorem good_nil (m : Nat) : Good m [] := ⟨Nat.zero_le _, List.nodup_nil, fun pc h => nomatch h⟩
theorem c_law {p fl : Addr} {fd : FuncData} (D : Fn K "law" "law" s_law fl fd) (mr : mg "range" = none) (gC : mg "Layout" = some (.ref C)) (mkC : PySem.W.makesIn K C = true) (kpC : PySem.W.keepIn K (.ref C) = true)
    (cdg : Cal P w K mg base 2 "_law_digits" (spDigits K)) (ci : MCal CX0 P w K mg base 1 C "__init__" (spInit C)) (cde : CalG P w K mg base 10 "_law_deed" (spDeed C)) (cse : CalG P w K mg base 11 "_law_seems" (spSeems C p)) : FnG P w K mg base CX0 12 fl fd ["_law_script"] (spLaw K p) := by
  refine Fn.okG D sc_law (fun vs H Q E h => ?_) (fun cdv A outer s H vs Q E hg hr h => ?_)
  · obtain ⟨a, ns, rfl, _⟩ := h
    rfl
  · obtain ⟨a, ns, rfl, ha, hT, q⟩ := h
    have nd := sc_law.nd
    obtain ⟨fi, fdi, psi, Fi, hmi, bi⟩ := ci.ex
    have M : Mk K C fi := ⟨mkC, hmi.at_, hmi.fn, kpC⟩
    refine ⟨_, pss_cons (ps_set (i := 1) nd rfl (.inl rfl) (pe_lst (pa_cons (pe_c cdg hr (by decide) rfl (pa_cons (pv 0) (pa_cons pe_int (pa_cons pe_int pa_nil)))) (pa_cons pe_int pa_nil))))
      (pss_cons (ps_set (i := 2) nd rfl (.inl rfl) (pe_make0 (sp := spInit C) (E := E0) (dvs := []) (ds := []) M Fi (hr.mono (by decide)) (by rfl) gC bi .nil pass0))
      (pss_cons (ps_set (i := 3) nd rfl (.inl rfl) (pe_lst (pa_cons (pe_lst pa_nil) pa_nil)))
      (pss_cons (ps_for PassesOwn.never rfl (pi_range1 (by rfl) mr (pa_cons pe_int pa_nil)) (pg_name (i := 4) nd rfl (.inl rfl))
        (pss_one (ps_if (PW.pt (pw_or (pt_not (pt_truth (pe_cG cde hg hr (by decide) rfl (pa_cons (pv 1) (pa_cons (pv 2) (pa_cons (pv 3) pa_nil)))) (fun _ => rfl)))
            (pw_or1 (pt_not (pt_truth (pe_cG cse hg hr (by decide) rfl (pa_cons (pv 2) (pa_cons (pe_ix ix_list (pv 3) (pe_un un_neg pe_int) (fun _ _ => rfl)) pa_nil))) (fun _ => rfl))))))
          (pss_one (ps_ret pe_bl)) pss_nil)))
      (pss_one (ps_ret pe_bl))))), ?_⟩
    refine ⟨_, rfl, a, ns, rfl, ha, fun ds H1 d s1 n1 e1 => ⟨(by show 2 ≤ sizeLine; decide), fun b nb => ?_⟩⟩
    have s2 := sm_upd (o := .lst [.ref d, .int 0]) nb
    have s12 := s1.trans s2
    have eb : (upd H1 b (.lst [.ref d, .int 0])) b = some (.lst [.ref d, .int 0]) := upd_same
    have ed := s2 _ _ e1
    generalize upd H1 b (.lst [.ref d, .int 0]) = H2 at s2 s12 eb ed
    refine fun x dx nx ndx nxx => ?_
    have nx' : (upd H2 dx (.own x)) x = none := (upd_ne (Ne.symm nxx)).trans nx
    have s3 : Same H2 (upd (upd H2 dx (.own x)) x (.ins C dx [])) := (sm_upd ndx).trans (sm_upd nx')
    refine ⟨x, dx, rfl, upd_same, (upd_ne nxx).trans upd_same, fun H4 F hfl npx npl x4 hF => ⟨rfl, ?_⟩⟩
    have s4 : Same H2 H4 := fun u o e => x4 u o (fun z => by rw [List.mem_singleton.mp z, nx] at e; cases e) (s3 u o e)
    have npl2 : H2 F.pl = none := s3.free npl
    have eb4 := s4 _ _ eb
    have ed4 := s4 _ _ ed
    obtain ⟨pa, pr, hf, hpa, hpl, hpr⟩ := id hF
    refine ⟨Nat.zero_le _, fun r0 nr0 => ⟨(by show 1 ≤ sizeLine; decide), fun L nL => ?_⟩⟩
    have s5 := sm_upd (o := .lst []) nr0
    have s6 := sm_upd (o := .lst [.ref r0]) nL
    have s46 := s5.trans s6
    have s26 := s4.trans s46
    have er6 : (upd (upd H4 r0 (.lst [])) L (.lst [.ref r0])) r0 = some (.lst []) := s6 _ _ upd_same
    have eL6 : (upd (upd H4 r0 (.lst [])) L (.lst [.ref r0])) L = some (.lst [.ref r0]) := upd_same
    have fr : ∀ {u : Addr} {o : HO}, H4 u = some o → r0 ≠ u ∧ L ≠ u := fun {u o} e => ⟨(fun z => by rw [z, e] at nr0; cases nr0), (fun z => by rw [z, s5 _ _ e] at nL; cases nL)⟩
    have nrL : r0 ≠ L := fun z => by
      rw [← z, upd_same] at nL
      cases nL
    have hT6 : TabG (upd (upd H4 r0 (.lst [])) L (.lst [.ref r0])) p := tabG_sm (s12.trans s26) hT
    have hW : WH C ⟨b, d, F, L, p⟩ (upd (upd H4 r0 (.lst [])) L (.lst [.ref r0])) [] [] ([] ++ [[]]) := by
      refine ⟨⟨0, ds, s46 _ _ eb4, s46 _ _ ed4⟩, hF.sm s46, ⟨[.ref r0], eL6, .cons ⟨r0, rfl, ⟨[], er6, .nil⟩, (fr eb4).1, nrL, (fr hpl).1⟩ .nil⟩, hT6, (fr eb4).2, (fr hpl).2, fun z => ?_, fun z => (fr ed4).2 z.symm, fun z => ?_⟩
      · have z' : b = F.pl := z
        rw [← z', eb] at npl2
        cases npl2
      · have z' : d = F.pl := z
        rw [← z', ed] at npl2
        cases npl2
    generalize upd (upd H4 r0 (.lst [])) L (.lst [.ref r0]) = H6 at hW
    refine ⟨9, rfl, by decide, by decide, for_range (lo := 0) (n := 9) (fun t σ H' => ∃ (c4 : Option V) (y : Lay) (ys : List Lay), σ = [some (.ref a), some (.ref b), some (.ref x), some (.ref L), c4] ∧ WH C ⟨b, d, F, L, p⟩ H' y ys (ys ++ [y]) ∧ (∀ z ∈ ys ++ [y], Good (2 + 40 * t) z) ∧ ys.length ≤ t)
      ⟨none, [], [], rfl, hW, (fun z hz => by rw [List.mem_singleton.mp hz]; exact good_nil _), Nat.le_refl _⟩ ?_ ?_⟩
    · rintro t σ H7 ht ⟨c4, y, ys, rfl, hW7, hG, hys⟩
      refine ⟨_, rfl, _, rfl, _, rfl, ⟨b, d, F, L, p⟩, y, ys, 2 + 40 * t, (by rw [← hfl]; rfl), hW7, hG, by omega, by omega, by omega, fun H8 y' ys' hW8 hG8 hl8 => ⟨true, rfl, if_f rfl ?_⟩⟩
      obtain ⟨rs8, hL8, hrs8⟩ := hW8.rows
      obtain ⟨_, gv, aL, rfl, hyL, _, _, _⟩ := pr_last hrs8
      have g8 : Good 1000 y' := (hG8 y' (List.mem_append_right _ (List.mem_singleton.mpr rfl))).mono (by omega)
      refine ⟨_, rfl, _, rfl, 1, rfl, L, rs8, -1, .ref aL, rfl, rfl, SqL.of hL8, gv, F, aL, y', ys', (by rw [← hfl]; rfl), hW8.fl, hyL, g8, hW8.tab, fun H9 x9 T9 => ⟨true, rfl, if_f rfl ?_⟩⟩
      exact ⟨_, y', ys', rfl, hW8.tabbed x9 T9, fun z hz => (hG8 z hz).mono (by omega), by omega⟩
    · rintro σ H7 ⟨c4, y, ys, rfl, _⟩
      exact q H7
end
end Rk
end
section
set_option Elab.async false
set_option linter.all false
set_option maxRecDepth 100000
set_option maxHeartbeats 4000000
/-! The end: the law's def is called with the script, no guard around, one table of code objects empty. -/
namespace Rk
open PySem PySem.Spec PyProof.Rows L2
open GxR (TabB TabG)
theorem endG {P : Program} {w : World} {K : PySem.W.Frag} {mg mb : Str → Option Value} {k : Nat} {fl scr co tb : Addr} {fd : FuncData} {x : Str} {sp : Sp} {st : Shared} {us : List Value} {ns : List Int}
    (inK : K.In st.heap) (gl : st.heap.Ns mainGlobals mg) (bl : st.heap.Ns builtinsNs mb) (bo : ∀ x : Str, x ≠ "__name__" → mb x = bootBuiltins x) (nl : st.heap.NoLimit) (ng : st.gens = #[])
    (et : st.heap.get? tb = some { cls := .none, data := .fields #[] }) (nk : K.lookup tb = none) (hd : PySem.W.CodeHd st.heap co tb)
    (mod : ∃ (m : Addr) (o : Obj), mg "__builtins__" = some (.ref m) ∧ m ≠ builtinsNs ∧ st.heap.get? m = some o ∧ o.cls = .type "module" ∧ o.dict = some builtinsNs ∧ o.data = .plain)
    (es : st.heap.get? scr = some { cls := .type "list", data := .seq us.toArray }) (isI : IntsAre us ns) (short : ns.length ≤ sizeLine) (room : Room k callerA)
    (F : ∀ base : Heap, K.In base → base.Ns mainGlobals mg → TabB base mg co tb → FnG P w K mg base CX0 k fl fd [x] sp) (bind : ∀ (s : Shared) (u : Value), BindsTo s fd ⟨[u], []⟩ [(x, u)])
    (keep : ∀ H : Hp, H tb = some (.tbl #[]) → SqL K H scr (ns.map V.int) → sp [.ref scr] H (fun v _ => v = .bl true) E0) :
    codeAny (model P w) callerA (.call (.ref fl) ⟨[.ref scr], []⟩) (fun r s' => r = .ok (.ret (.bool true)) ∧ OldK st.heap s'.heap ∧ s'.os = st.os ∧ AllBare s'.gens) st := by
  have rel := vals_ints isI
  have ulen := isI.length
  have nst : scr ≠ tb := fun z => by
    rw [z, et] at es
    have q := congrArg Obj.data (Option.some.inj es)
    cases q
  have main : ∀ H : Hp, H tb = some (.tbl #[]) → (∀ b, H b = none ∨ b = tb ∨ ∃ o xs, H b = some (.frz o (.lst xs))) → SqL K H scr (ns.map V.int) → HOk P w H st.heap → (∀ b, H b ≠ none → b = scr ∨ b = tb) → (H scr ≠ none → K.lookup scr = none) →
      codeAny (model P w) callerA (.call (.ref fl) ⟨[.ref scr], []⟩) (fun r s' => r = .ok (.ret (.bool true)) ∧ OldK st.heap s'.heap ∧ s'.os = st.os ∧ AllBare s'.gens) st := by
    intro H ht frz sq ok who out
    have up : ∀ {b : Addr} {o : Obj}, st.heap.get? b = some o → H b = none → (hidT st.heap H).get? b = some o := fun e n => hidT_get e n
    -- what is neither the script nor the table is not tracked
    have off : ∀ {b : Addr} {o : Obj}, st.heap.get? b = some o → (∀ vs n, o.data ≠ .seq vs n) → o.data ≠ .fields #[] → H b = none := fun {b o} e d1 d2 => by
      cases h : H b with
      | none => rfl
      | some u =>
        rcases who b (by rw [h]; simp) with z | z
        · rw [z, es] at e
          cases e
          exact absurd rfl (d1 _ _)
        · rw [z, et] at e
          cases e
          exact absurd rfl d2
    have offD : ∀ {b : Addr} {o : Obj} {ds : Array DictEntry} {n : Nat}, st.heap.get? b = some o → o.data = .dict ds n → H b = none := fun {b o ds n} e d => off e (fun vs m z => by rw [d] at z; cases z) (fun z => by rw [d] at z; cases z)
    have nsUp : ∀ {b : Addr} {m : Str → Option Value}, st.heap.Ns b m → (hidT st.heap H).Ns b m := fun {b m} ⟨o, ds, n, e, d, r⟩ => ⟨o, ds, n, up e (offD e d), d, r⟩
    have kUp : K.In (hidT st.heap H) := fun b o e => up (inK b o e) (by
      cases h : H b with
      | none => rfl
      | some u =>
        rcases who b (by rw [h]; simp) with z | z
        · rw [z] at e h
          rw [out (by rw [h]; simp)] at e
          cases e
        · rw [z, nk] at e
          cases e)
    have tabs : TabB (hidT st.heap H) mg co tb := by
      refine ⟨?_, ?_, fun z => ?_⟩
      · obtain ⟨o, fs, file, tf, flags, tg, inF, text, tt, e1, r1, r2, r3, rest⟩ := hd
        refine ⟨o, fs, file, tf, flags, tg, inF, text, tt, up e1 (off e1 (fun vs n z => ?_) fun z => ?_), r1, r2, r3, rest⟩
        · rw [r2] at z
          cases z
        · rw [r2] at z
          cases z
          simp at r3
      · obtain ⟨m, o, m1, m2, m3, m4, m5, m6⟩ := mod
        have q1 : m ≠ mainGlobals := fun z => by
          obtain ⟨o', ds, n, e, d, _⟩ := gl
          rw [z, e] at m3
          cases m3
          rw [d] at m6
          cases m6
        have q2 : m ≠ tb := fun z => by
          rw [z, et] at m3
          cases m3
          cases m6
        refine ⟨m, o, m1, m2, q1, q2, up m3 (off m3 (fun vs n z => ?_) fun z => ?_), m4, m5, m6⟩
        · rw [m6] at z
          cases z
        · rw [m6] at z
          cases z
      · obtain ⟨o', ds, n, e, d, _⟩ := gl
        rw [z, et] at e
        cases e
        cases d
    have mo : L2.Mod K mg (hidT st.heap H) := ⟨kUp, nsUp gl, ⟨mb, nsUp bl, bo⟩, by obtain ⟨m, h1, h2⟩ := nl; exact ⟨m, nsUp h1, h2⟩⟩
    have env : Env0 P w K mg (hidT st.heap H) callerA [] st H := ⟨rfl, mo, fun b o e => of_hidT e, Nat.le_of_eq (hidT_size _ _), trivial, fun b hb => absurd (show b ∈ ([] : List Addr) from hb) (by simp), ok, .of_eq ng⟩
    refine codeAny_mono ((F _ kUp (nsUp gl) tabs).run callerA [] st H ⟨[.ref scr], []⟩ [.ref scr] [.ref scr] _ _ rfl room env (bind st (.ref scr)) (.cons rfl .nil) (keep H ht sq)) fun r s' done => ?_
    cases r with
    | error e => exact absurd done id
    | ok f =>
      cases f with
      | ret u =>
        obtain ⟨v, H', os, bare, un, ok', rv, q⟩ := done
        have ev : v = .bl true := q
        subst ev
        obtain rfl : u = Value.bool true := rv
        have old : ∀ b o, b ≠ tb → st.heap.get? b = some o → s'.heap.get? b = some o := fun b o nb e => by
          cases h : H b with
          | none => exact un.keep b o e h (by intro z; exact absurd (show b ∈ ([] : List Addr) from z) (by simp)) (by simp)
          | some u =>
            rcases frz b with z | z | ⟨ob, xs, z⟩
            · rw [h] at z
              cases z
            · exact absurd z nb
            · have z2 := un.frzs b ob _ z
              obtain ⟨e1, _⟩ := ok b _ z
              obtain ⟨e2, _⟩ := ok' b _ z2
              rw [e] at e1
              cases e1
              exact e2
        obtain ⟨more, zt⟩ := un.tbls tb #[] ht
        have grown : ∃ more : Array Value, s'.heap.get? tb = some { cls := .none, data := .fields more } := ⟨_, ok' tb _ zt⟩
        obtain ⟨more2, hm⟩ := grown
        refine ⟨rfl, ⟨fun b o e => ?_, fun b o e => ?_⟩, os, bare⟩
        · by_cases z : b = tb
          · rw [z] at e ⊢
            rw [et] at e
            cases e
            exact .inr (.inl ⟨(hd.tab et).isCodeTable, rfl, #[], more2, rfl, by rw [Array.empty_append]; exact hm⟩)
          · exact .inl (old b o z e)
        · by_cases z : b = tb
          · rw [z]
            exact ⟨_, hm⟩
          · exact ⟨o, old b o z e⟩
      | next => exact absurd done id
      | brk => exact absurd done id
      | cont => exact absurd done id
  cases kl : K.lookup scr with
  | some o =>
    have e := inK scr o kl
    rw [es] at e
    cases e
    refine main (fun b => if b = tb then some (.tbl #[]) else none) (if_pos rfl) (fun b => ?_) (.inr ⟨_, us.toArray, _, kl, rfl, rfl, rfl, by rw [List.size_toArray, ulen]; exact short, by simpa using rel⟩) (fun b u z => ?_) (fun b z => ?_) fun z => absurd (if_neg nst) z
    · by_cases q : b = tb
      · exact .inr (.inl q)
      · exact .inl (if_neg q)
    · by_cases q : b = tb
      · have z2 := (if_pos q).symm.trans z
        cases z2
        rw [q]
        exact et
      · have z2 := (if_neg q).symm.trans z
        cases z2
    · by_cases q : b = tb
      · exact .inr q
      · exact absurd (if_neg q) z
  | none =>
    refine main (fun b => if b = scr then some (.frz { cls := .type "list", data := .seq us.toArray } (.lst (ns.map V.int))) else if b = tb then some (.tbl #[]) else none) ((if_neg (Ne.symm nst)).trans (if_pos rfl)) (fun b => ?_)
      (.inl (.inr ⟨{ cls := .type "list", data := .seq us.toArray }, if_pos rfl⟩)) (fun b u z => ?_) (fun b z => ?_) fun _ => kl
    · by_cases q : b = scr
      · exact .inr (.inr ⟨_, _, if_pos q⟩)
      · by_cases q2 : b = tb
        · exact .inr (.inl q2)
        · exact .inl ((if_neg q).trans (if_neg q2))
    · by_cases q : b = scr
      · have z2 := (if_pos q).symm.trans z
        cases z2
        rw [q]
        exact ⟨es, by rw [List.length_map]; exact short, us, _, rel, es⟩
      · have z1 := (if_neg q).symm.trans z
        by_cases q2 : b = tb
        · have z2 := (if_pos q2).symm.trans z1
          cases z2
          rw [q2]
          exact et
        · have z2 := (if_neg q2).symm.trans z1
          cases z2
    · by_cases q : b = scr
      · exact .inl q
      · by_cases q2 : b = tb
        · exact .inr q2
        · exact absurd ((if_neg q).trans (if_neg q2)) z
/-- the law's def by the head's word: its promise wants no guard around -/
theorem walkG {l : PySem.W.OpenLaw} {n k : Nat} {q : Program} {loose : List Str} {XP : (Str → Option Value) → Heap → Prop} {YP : World → Heap → Prop} {d : DefRec} {x : Str}
    (hn : l.most = some n) (hn2 : n ≤ sizeLine) (hdf : d.params.defaults = []) (room : Room k callerA)
    (F : ∀ (w : World) (mg : Str → Option Value) (fl : Addr) (h : Heap), YP w h → h.Ns mainGlobals mg → mg d.name = some (.ref fl) →
      ∃ (K : PySem.W.Frag) (fd : FuncData) (sp : Sp) (co tb : Addr), K.In h ∧ h.get? tb = some { cls := .none, data := .fields #[] } ∧ K.lookup tb = none ∧ PySem.W.CodeHd h co tb ∧ (∀ (s : Shared) (u : Value), BindsTo s fd ⟨[u], []⟩ [(x, u)]) ∧
        (∀ (H : Hp) (a : Addr) (ns : List Int), H tb = some (.tbl #[]) → SqL K H a (ns.map V.int) → sp [.ref a] H (fun v _ => v = .bl true) E0) ∧
        ∀ base : Heap, K.In base → base.Ns mainGlobals mg → TabB base mg co tb → FnG l.prog w K mg base CX0 k fl fd [x] sp) :
    PySem.W.WalkO q loose XP YP l.row.toRowW d [] (fun f vs => PySem.call f vs) := by
  refine Att.attach_callB hn hdf fun w s₀ s₁ mg mb fl o pm cd doc a us ns G Y ho hd hcd hmg hobj hints hlen _ hg => ?_
  obtain ⟨K, fd, sp, co, tb, kin, et, nk, ch, hb, hsp, hF⟩ := F w mg fl _ Y G.T.g hmg
  exact endG kin G.T.g G.T.b G.T.builtins G.T.nolimit hg et nk ch G.T.bmain hobj hints (Nat.le_trans hlen hn2) room hF hb (fun H h1 h2 => hsp H a ns h1 h2)
end Rk
end
section
set_option Elab.async false
set_option linter.all false
set_option maxRecDepth 100000
set_option maxHeartbeats 4000000
/-! What the head is asked about the top's heap. -/
namespace Rk
open PySem PySem.Spec PyProof.Rows L2
open PySem.W (Frag nsIn findIn keepIn codeIn typeIn subIn mroIn hasDictIn exmOne isClsIn)

/-! ### the defs, by places -/

def d_step : He.DefD := ⟨("step", none), "step", "step", defArgs s_step, defBody s_step, defScope s_step, [], []⟩
def d_moved : He.DefD := ⟨("moved", none), "moved", "moved", defArgs s_moved, defBody s_moved, defScope s_moved, [], []⟩
def d_turned : He.DefD := ⟨("turned", none), "turned", "turned", defArgs s_turned, defBody s_turned, defScope s_turned, [], []⟩
def d_laid : He.DefD := ⟨("laid", none), "laid", "laid", defArgs s_laid, defBody s_laid, defScope s_laid, [], []⟩
def d_back : He.DefD := ⟨("back", none), "back", "back", defArgs s_back, defBody s_back, defScope s_back, [], []⟩
def d_ends_of : He.DefD := ⟨("ends_of", none), "ends_of", "ends_of", defArgs s_ends_of, defBody s_ends_of, defScope s_ends_of, [], []⟩
def d_lead : He.DefD := ⟨("lead", none), "lead", "lead", defArgs s_lead, defBody s_lead, defScope s_lead, [], []⟩
def d_check : He.DefD := ⟨("check", none), "check", "check", defArgs s_check, defBody s_check, defScope s_check, [], []⟩
def d_all_ends : He.DefD := ⟨("all_ends", none), "all_ends", "all_ends", defArgs s_all_ends, defBody s_all_ends, defScope s_all_ends, [], []⟩
def d_has_overlap : He.DefD := ⟨("has_overlap", none), "has_overlap", "has_overlap", defArgs s_has_overlap, defBody s_has_overlap, defScope s_has_overlap, [], []⟩
def d_laid_piece : He.DefD := ⟨("laid_piece", none), "laid_piece", "laid_piece", defArgs s_laid_piece, defBody s_laid_piece, defScope s_laid_piece, [], []⟩
def d_joined_to : He.DefD := ⟨("joined_to", none), "joined_to", "joined_to", defArgs s_joined_to, defBody s_joined_to, defScope s_joined_to, [], []⟩
def d_neighbours : He.DefD := ⟨("neighbours", none), "neighbours", "neighbours", defArgs s_neighbours, defBody s_neighbours, defScope s_neighbours, [], []⟩
def d_island_of : He.DefD := ⟨("island_of", none), "island_of", "island_of", defArgs s_island_of, defBody s_island_of, defScope s_island_of, [], []⟩
def d_islands_of : He.DefD := ⟨("islands_of", none), "islands_of", "islands_of", defArgs s_islands_of, defBody s_islands_of, defScope s_islands_of, [], []⟩
def d_law_cell : He.DefD := ⟨("_law_cell", none), "_law_cell", "_law_cell", defArgs s_law_cell, defBody s_law_cell, defScope s_law_cell, [], []⟩
def d_law_same : He.DefD := ⟨("_law_same", none), "_law_same", "_law_same", defArgs s_law_same, defBody s_law_same, defScope s_law_same, [], []⟩
def d_law_digits : He.DefD := ⟨("_law_digits", none), "_law_digits", "_law_digits", defArgs s_law_digits, defBody s_law_digits, defScope s_law_digits, [], []⟩
def d_law_draw : He.DefD := ⟨("_law_draw", none), "_law_draw", "_law_draw", defArgs s_law_draw, defBody s_law_draw, defScope s_law_draw, [], []⟩
def d_law_pick : He.DefD := ⟨("_law_pick", none), "_law_pick", "_law_pick", defArgs s_law_pick, defBody s_law_pick, defScope s_law_pick, [], []⟩
def d_law_move : He.DefD := ⟨("_law_move", none), "_law_move", "_law_move", defArgs s_law_move, defBody s_law_move, defScope s_law_move, [], []⟩
def d_law_turned : He.DefD := ⟨("_law_turned", none), "_law_turned", "_law_turned", defArgs s_law_turned, defBody s_law_turned, defScope s_law_turned, [], []⟩
def d_law_laid : He.DefD := ⟨("_law_laid", none), "_law_laid", "_law_laid", defArgs s_law_laid, defBody s_law_laid, defScope s_law_laid, [], []⟩
def d_law_back : He.DefD := ⟨("_law_back", none), "_law_back", "_law_back", defArgs s_law_back, defBody s_law_back, defScope s_law_back, [], []⟩
def d_law_led : He.DefD := ⟨("_law_led", none), "_law_led", "_law_led", defArgs s_law_led, defBody s_law_led, defScope s_law_led, [], []⟩
def d_law_ends_of : He.DefD := ⟨("_law_ends_of", none), "_law_ends_of", "_law_ends_of", defArgs s_law_ends_of, defBody s_law_ends_of, defScope s_law_ends_of, [], []⟩
def d_law_all_ends : He.DefD := ⟨("_law_all_ends", none), "_law_all_ends", "_law_all_ends", defArgs s_law_all_ends, defBody s_law_all_ends, defScope s_law_all_ends, [], []⟩
def d_law_is_free : He.DefD := ⟨("_law_is_free", none), "_law_is_free", "_law_is_free", defArgs s_law_is_free, defBody s_law_is_free, defScope s_law_is_free, [], []⟩
def d_law_placed : He.DefD := ⟨("_law_placed", none), "_law_placed", "_law_placed", defArgs s_law_placed, defBody s_law_placed, defScope s_law_placed, [], []⟩
def d_law_told : He.DefD := ⟨("_law_told", none), "_law_told", "_law_told", defArgs s_law_told, defBody s_law_told, defScope s_law_told, [], []⟩
def d_law_joins : He.DefD := ⟨("_law_joins", none), "_law_joins", "_law_joins", defArgs s_law_joins, defBody s_law_joins, defScope s_law_joins, [], []⟩
def d_law_islands : He.DefD := ⟨("_law_islands", none), "_law_islands", "_law_islands", defArgs s_law_islands, defBody s_law_islands, defScope s_law_islands, [], []⟩
def d_law_seems : He.DefD := ⟨("_law_seems", none), "_law_seems", "_law_seems", defArgs s_law_seems, defBody s_law_seems, defScope s_law_seems, [], []⟩
def d_law_place : He.DefD := ⟨("_law_place", none), "_law_place", "_law_place", defArgs s_law_place, defBody s_law_place, defScope s_law_place, [], []⟩
def d_law_deed : He.DefD := ⟨("_law_deed", none), "_law_deed", "_law_deed", defArgs s_law_deed, defBody s_law_deed, defScope s_law_deed, [], []⟩
def d_law : He.DefD := ⟨("law", none), "law", "law", defArgs s_law, defBody s_law, defScope s_law, [], []⟩
def e_init : He.DefD := ⟨("Layout", some "__init__"), "__init__", "Layout.__init__", defArgs m_init, defBody m_init, defScope m_init, [], []⟩
def e_put : He.DefD := ⟨("Layout", some "put"), "put", "Layout.put", defArgs m_put, defBody m_put, defScope m_put, [], []⟩
def e_place : He.DefD := ⟨("Layout", some "place"), "place", "Layout.place", defArgs m_place, defBody m_place, defScope m_place, [], []⟩
def e_lay : He.DefD := ⟨("Layout", some "lay"), "lay", "Layout.lay", defArgs m_lay, defBody m_lay, defScope m_lay, [], []⟩
def e_check_piece : He.DefD := ⟨("Layout", some "check_piece"), "check_piece", "Layout.check_piece", defArgs m_check_piece, defBody m_check_piece, defScope m_check_piece, [], []⟩
def e_remove : He.DefD := ⟨("Layout", some "remove"), "remove", "Layout.remove", defArgs m_remove, defBody m_remove, defScope m_remove, [], []⟩
def e_undo : He.DefD := ⟨("Layout", some "undo"), "undo", "Layout.undo", defArgs m_undo, defBody m_undo, defScope m_undo, [], []⟩
def e_layout : He.DefD := ⟨("Layout", some "layout"), "layout", "Layout.layout", defArgs m_layout, defBody m_layout, defScope m_layout, [], []⟩
def e_ends : He.DefD := ⟨("Layout", some "ends"), "ends", "Layout.ends", defArgs m_ends, defBody m_ends, defScope m_ends, [], []⟩
def e_joined : He.DefD := ⟨("Layout", some "joined"), "joined", "Layout.joined", defArgs m_joined, defBody m_joined, defScope m_joined, [], []⟩
def e_open_ends : He.DefD := ⟨("Layout", some "open_ends"), "open_ends", "Layout.open_ends", defArgs m_open_ends, defBody m_open_ends, defScope m_open_ends, [], []⟩
def e_islands : He.DefD := ⟨("Layout", some "islands"), "islands", "Layout.islands", defArgs m_islands, defBody m_islands, defScope m_islands, [], []⟩
def e_is_shut : He.DefD := ⟨("Layout", some "is_shut"), "is_shut", "Layout.is_shut", defArgs m_is_shut, defBody m_is_shut, defScope m_is_shut, [], []⟩
def fnL : List He.DefD := [d_step, d_moved, d_turned, d_laid, d_back, d_ends_of, d_lead, d_check, d_all_ends, d_has_overlap, d_laid_piece, d_joined_to, d_neighbours, d_island_of, d_islands_of, d_law_cell, d_law_same, d_law_digits, d_law_draw, d_law_pick, d_law_move, d_law_turned, d_law_laid, d_law_back, d_law_led, d_law_ends_of, d_law_all_ends, d_law_is_free, d_law_placed, d_law_told, d_law_joins, d_law_islands, d_law_seems, d_law_place, d_law_deed, d_law, e_init, e_put, e_place, e_lay, e_check_piece, e_remove, e_undo, e_layout, e_ends, e_joined, e_open_ends, e_islands, e_is_shut]
def faL : List He.Fa := [.glo "step", .glo "moved", .glo "turned", .glo "laid", .glo "back", .glo "ends_of", .glo "lead", .glo "check", .glo "all_ends", .glo "has_overlap", .glo "laid_piece", .glo "joined_to", .glo "neighbours", .glo "island_of", .glo "islands_of", .glo "_law_cell", .glo "_law_same", .glo "_law_digits", .glo "_law_draw", .glo "_law_pick", .glo "_law_move", .glo "_law_turned", .glo "_law_laid", .glo "_law_back", .glo "_law_led", .glo "_law_ends_of", .glo "_law_all_ends", .glo "_law_is_free", .glo "_law_placed", .glo "_law_told", .glo "_law_joins", .glo "_law_islands", .glo "_law_seems", .glo "_law_place", .glo "_law_deed", .glo "law", .glo "Layout", .glo "BadPiece", .glo "OTHER_ENDS", .glo "LEADS"] ++ [.glo "HOME", .glo "NOWHERE", .free "tuple", .free "zip", .free "enumerate", .free "len", .free "range", .free "int", .free "list", .free "sorted", .free "any", .free "repr", .free "super", .int "EIGHTHS" 8, .int "HALF" 4, .int "NUMBERS_MOST" 24, .cls "Layout", .noat "Layout" "pieces", .noat "Layout" "past", .mkr "Layout", .meth "Layout" "__init__", .meth "Layout" "put", .meth "Layout" "place", .meth "Layout" "lay", .meth "Layout" "check_piece", .meth "Layout" "remove", .meth "Layout" "undo", .meth "Layout" "layout", .meth "Layout" "ends", .meth "Layout" "joined", .meth "Layout" "open_ends", .meth "Layout" "islands", .meth "Layout" "is_shut"]

/-! ### tables of tuples -/
def tupI (K : Frag) (a : Addr) (ns : List Int) : Bool := match K.lookup a with
  | some ⟨.type c, _, .seq its _, _⟩ => decide (c = "tuple") && (decide (its.size ≤ sizeLine) && He.relAll (ns.map V.int) its.toList)
  | _ => false
theorem tupI_ok {K : Frag} {a : Addr} {ns : List Int} (h : tupI K a ns = true) (H : Hp) : SqT K H a (ns.map V.int) := by
  unfold tupI at h
  split at h
  · rename_i c d its n sl q
    obtain ⟨h1, h2⟩ := He.ba h
    obtain ⟨h3, h4⟩ := He.ba h2
    exact .inr ⟨_, its, n, q, congrArg Value.type (of_decide_eq_true h1), rfl, of_decide_eq_true h3, He.relAll_ok h4⟩
  · cases h
def allR (K : Frag) : List Value → List Po → Bool
  | [], [] => true
  | .ref b :: r, p :: ps => tupI K b p.l && allR K r ps
  | _, _ => false
theorem allR_ok {K : Frag} : ∀ {us : List Value} {ps : List Po}, allR K us ps = true → ∃ rs : List V, Vals rs us ∧ Paired (fun (v : V) (o : Po) => ∃ a, v = V.ref a ∧ ∀ H, SqT K H a o.vs) rs ps
  | [], [], _ => ⟨[], .nil, .nil⟩
  | .ref b :: r, p :: ps, h => by
    obtain ⟨h1, h2⟩ := He.ba (show (tupI K b p.l && allR K r ps) = true from h)
    obtain ⟨rs, a, c⟩ := allR_ok h2
    exact ⟨.ref b :: rs, .cons rfl a, .cons ⟨b, rfl, fun H => tupI_ok h1 H⟩ c⟩
  | [], _ :: _, h => by cases h
  | .none :: _, _, h => by cases h
  | .ref _ :: _, [], h => by cases h
  | .bool _ :: _, _, h => by cases h
  | .int _ _ :: _, _, h => by cases h
  | .str _ _ :: _, _, h => by cases h
  | .bytes _ _ :: _, _, h => by cases h
  | .float _ _ :: _, _, h => by cases h
  | .type _ :: _, _, h => by cases h
  | .builtin _ :: _, _, h => by cases h
def tupR (K : Frag) (a : Addr) (ps : List Po) : Bool := match K.lookup a with
  | some ⟨.type c, _, .seq its _, _⟩ => decide (c = "tuple") && (decide (its.size ≤ sizeLine) && allR K its.toList ps)
  | _ => false
theorem tupR_ok {K : Frag} {a : Addr} {ps : List Po} (h : tupR K a ps = true) : ∃ rs : List V, (∀ H, SqT K H a rs) ∧ Paired (fun (v : V) (o : Po) => ∃ a, v = V.ref a ∧ ∀ H, SqT K H a o.vs) rs ps := by
  unfold tupR at h
  split at h
  · rename_i c d its n sl q
    obtain ⟨h1, h2⟩ := He.ba h
    obtain ⟨h3, h4⟩ := He.ba h2
    obtain ⟨rs, r1, r2⟩ := allR_ok h4
    exact ⟨rs, fun H => .inr ⟨_, its, n, q, congrArg Value.type (of_decide_eq_true h1), rfl, of_decide_eq_true h3, r1⟩, r2⟩
  · cases h
def oeAt (K : Frag) (k : Kd) : Bool := match nsIn K (He.ga K "OTHER_ENDS") k.str with
  | some (some (.ref t)) => tupR K t (others k)
  | _ => false
def ldAt (K : Frag) (l : Lt) : Bool := match nsIn K (He.ga K "LEADS") l.str with
  | some (some (.ref t)) => tupI K t (leadP l).l
  | _ => false
theorem oe_ok {K : Frag} {w : World} {mg : Str → Option Value} (g : mg "OTHER_ENDS" = some (.ref (He.ga K "OTHER_ENDS"))) {es : Array DictEntry} {n : Nat} (kd : KDict K w (He.ga K "OTHER_ENDS") es n) (h : ∀ k : Kd, oeAt K k = true) : OEnds K w mg := by
  refine ⟨_, g, fun k => ?_⟩
  have hk := h k
  unfold oeAt at hk
  split at hk
  · rename_i t e
    obtain ⟨rs, h1, h2⟩ := tupR_ok hk
    exact ⟨t, rs, ⟨es, n, _, kd.at_, kd.lit, e, rfl⟩, h1, h2⟩
  · cases hk
theorem ld_ok {K : Frag} {w : World} {mg : Str → Option Value} (g : mg "LEADS" = some (.ref (He.ga K "LEADS"))) {es : Array DictEntry} {n : Nat} (kd : KDict K w (He.ga K "LEADS") es n) (h : ∀ l : Lt, ldAt K l = true) : Leads K w mg := by
  refine ⟨_, g, fun l => ?_⟩
  have hk := h l
  unfold ldAt at hk
  split at hk
  · rename_i t e
    exact ⟨t, ⟨es, n, _, kd.at_, kd.lit, e, rfl⟩, fun H => tupI_ok hk H⟩
  · cases hk

/-! ### the own error -/
def bC (K : Frag) : Addr := He.ga K "BadPiece"
def bI (K : Frag) : Addr := He.ma K (bC K) "__init__"
abbrev FnB : Type := Option (Str × Str × Arguments × FuncBody × Scope × Addr × List Str × Addr)
def fnB (K : Frag) : FnB := match K.lookup (bI K) with
  | some ⟨_, _, .func fd, _⟩ => some (fd.name, fd.qualname, fd.params, fd.body, fd.scope, fd.globals, fd.closure.map (·.1), fd.builtins)
  | _ => none
def fnBV : FnB := some ("__init__", "BadPiece.__init__", defArgs m_bad, .stmts (defBody m_bad), defScope m_bad, mainGlobals, ["__class__"], builtinsNs)
/-- the class object -/
def clB (K : Frag) : Bool := match K.lookup (bC K) with
  | some ⟨.type "type", _, .cls cd, sl⟩ => (match cd.mro, sl.toList with
    | .ref C' :: bm, [_, _, _, _, some (.builtin n), _] => C' == bC K && (n == "ValueError.__new__" && (!cd.hasDel && (cd.hasDict && HandSPX.refsVE bm)))
    | _, _ => false)
  | _ => false
/-- its __init__: no defaults, its code object's file, its cell -/
def inB (P : Program) (K : Frag) : Bool := match K.lookup (bI K) with
  | some ⟨_, _, .func fd, _⟩ => (match fd.defaults, fd.kwdefaults, fd.code, fd.closure with
    | .none, .none, .ref cda, [(_, cc)] => codeIn K (.ref cda) "BadPiece.__init__" && ((match K.lookup cda with
        | some ⟨_, _, .fields vs, _⟩ => (match (vs[2]? : Option Value) with
          | some (.str file _) => (P.main.file : Str) == file
          | _ => false)
        | _ => false) && (match K.lookup cc with
        | some ⟨_, _, .cell (some (.ref D)), _⟩ => D == bC K
        | _ => false))
    | _, _, _, _ => false)
  | _ => false
def oO (a b : Option Bool) : Bool := decide (a = b)
def badB (P : Program) (K : Frag) : Bool :=
  clB K && (inB P K && (He.eqO (findIn K (.ref (bC K)) "__setattr__") (some (some (.builtin "object.__setattr__"))) && (He.eqO (findIn K (.ref (bC K)) "__getattribute__") (some (some (.builtin "BaseException.__getattribute__"))) &&
  (He.eqO (findIn K (.ref (bC K)) "__getattr__") (some none) && (He.eqO (findIn K (.ref (bC K)) "reason") (some none) && (He.eqO (findIn K (.ref (bC K)) "__init__") (some (some (.ref (bI K)))) &&
  (decide (typeIn K (.ref (bI K)) = some (.type "function")) && (keepIn K (.ref (bC K)) && (oO (subIn K (.ref (bC K)) (.type "BaseException")) (some true) && (decide (typeIn K (.ref (bC K)) = some (.type "type")) && (hasDictIn K (bC K) &&
  (oO (exmOne K (.ref (bC K)) (.ref (bC K))) (some true) && (oO (mroIn K (bC K) (.ref (bC K))) (some true) && (oO (subIn K (.ref (bC K)) (.type "ValueError")) (some true) && (He.eqO (PySem.W.ks_superIn K (bC K) (bC K) "__init__") (some (some (.builtin "ValueError.__init__"))) &&
  (He.eqO (nsIn K cStatics "thirdparty.any") (some none) && !(P.main.scope.names.lookup ("super" : Str)).isSome))))))))))))))))
theorem clB_ok {K : Frag} (h : clB K = true) : ∃ nm q N bs bm sn sub ab col dd k0 k1 k2 k3 k5, K.lookup (bC K) = some (excClassObj nm q (bC K) N bs bm true sn sub ab col dd k0 k1 k2 k3 k5 "ValueError.__new__") ∧ HandSPX.refsVE bm = true := by
  unfold clB at h
  split at h
  · rename_i dd cd sl ho
    split at h
    · rename_i C' bm k0 k1 k2 k3 n k5 hm hs
      obtain ⟨h1, h⟩ := He.ba h
      obtain ⟨h2, h⟩ := He.ba h
      obtain ⟨h3, h⟩ := He.ba h
      obtain ⟨h4, h5⟩ := He.ba h
      have e1 : C' = bC K := beq_iff_eq.mp h1
      have e2 : n = "ValueError.__new__" := beq_iff_eq.mp h2
      obtain ⟨nm, bs, mro, ns, qn, hd, sn, sub, ab, col, del⟩ := cd
      have e3 : del = false := by
        cases del
        · rfl
        · cases h3
      have e4 : hd = true := h4
      have e5 : mro = .ref C' :: bm := hm
      have e6 : sl = #[k0, k1, k2, k3, some (.builtin n), k5] := by
        obtain ⟨l⟩ := sl
        have e : l = [k0, k1, k2, k3, some (.builtin n), k5] := hs
        rw [e]
      subst e3 e4 e5 e6 e2
      rw [e1] at ho
      exact ⟨nm, qn, ns, bs, bm, sn, sub, ab, col, dd, k0, k1, k2, k3, k5, ho, h5⟩
    · cases h
  · cases h
theorem fn_bad {P : Program} {K : Frag} (h : inB P K = true) (e : fnB K = fnBV) :
    ∃ (oc : Value) (od : Option Addr) (doc pm : Value) (an : Option Addr) (ct : Value) (osl : Array (Option Value)) (cda cc : Addr) (ccl cl : Value) (cdd cld : Option Addr) (vs : Array Value) (ccs csl : Array (Option Value)) (file : Str) (tf : Tok),
    K.lookup (bI K) = some ⟨oc, od, .func (PySem.W.ksFn "__init__" "BadPiece.__init__" (defArgs m_bad) (defBody m_bad) (defScope m_bad) .none .none doc pm an (.ref cda) ct cc), osl⟩ ∧ codeIn K (.ref cda) "BadPiece.__init__" = true ∧
    K.lookup cda = some ⟨ccl, cdd, .fields vs, ccs⟩ ∧ vs[2]? = some (.str file tf) ∧ ((P.main.file : Str) == file) = true ∧ K.lookup cc = some ⟨cl, cld, .cell (some (.ref (bC K))), csl⟩ := by
  unfold inB at h
  unfold fnB at e
  split at h
  · rename_i oc od fd osl ho
    rw [ho] at e
    obtain ⟨n1, n2, n3, n4, n5, n6, n7, n8, n9, n10, n11, n12, n13, n14, n15⟩ := fd
    have e2 : (some (n1, n2, n3, n4, n5, n6, n7.map (·.1), n15) : FnB) = fnBV := e
    unfold fnBV at e2
    simp only [Option.some.injEq, Prod.mk.injEq] at e2
    obtain ⟨h1, h2, h3, h4, h5, h6, h7, h8⟩ := e2
    subst h1 h2 h3 h4 h5 h6 h8
    split at h
    · rename_i x1 x2 x3 x4 cda nm cc q1 q2 q3 q4
      have q1' : n8 = .none := q1
      have q2' : n9 = .none := q2
      have q3' : n13 = .ref cda := q3
      have q4' : n7 = [(nm, cc)] := q4
      subst q1' q2' q3' q4'
      have en : nm = "__class__" := by
        have z : [nm] = [("__class__" : Str)] := h7
        exact (List.cons.inj z).1
      subst en
      obtain ⟨g1, g⟩ := He.ba h
      obtain ⟨g2, g3⟩ := He.ba g
      split at g2
      · rename_i ccl cdd vs ccs hc
        split at g2
        · rename_i file tf hv
          split at g3
          · rename_i cl cld Dd csl hcc
            have eD : Dd = bC K := beq_iff_eq.mp g3
            subst eD
            exact ⟨oc, od, _, _, _, _, osl, cda, cc, ccl, cl, cdd, cld, vs, ccs, csl, file, tf, ho, g1, hc, hv, g2, hcc⟩
          · cases g3
        · cases g2
      · cases g2
    · cases h
  · cases h
theorem bad_ok {P : Program} {K : Frag} {h : Heap} {mg : Str → Option Value} (h0 : badB P K = true) (e : fnB K = fnBV) (g : mg "BadPiece" = some (.ref (bC K))) (gs : mg "super" = none) : BadTxt P K mg (bC K) (bI K) := by
  obtain ⟨a1, h0⟩ := He.ba h0
  obtain ⟨a2, h0⟩ := He.ba h0
  obtain ⟨a3, h0⟩ := He.ba h0
  obtain ⟨a4, h0⟩ := He.ba h0
  obtain ⟨a5, h0⟩ := He.ba h0
  obtain ⟨a6, h0⟩ := He.ba h0
  obtain ⟨a7, h0⟩ := He.ba h0
  obtain ⟨a8, h0⟩ := He.ba h0
  obtain ⟨a9, h0⟩ := He.ba h0
  obtain ⟨b1, h0⟩ := He.ba h0
  obtain ⟨b2, h0⟩ := He.ba h0
  obtain ⟨b3, h0⟩ := He.ba h0
  obtain ⟨b4, h0⟩ := He.ba h0
  obtain ⟨b5, h0⟩ := He.ba h0
  obtain ⟨b6, h0⟩ := He.ba h0
  obtain ⟨b7, h0⟩ := He.ba h0
  obtain ⟨b8, b9⟩ := He.ba h0
  exact { gC := g, cls := clB_ok a1, sa := He.eqO_ok a3, ga := He.eqO_ok a4, gg := He.eqO_ok a5, noN := He.eqO_ok a6, iC := He.eqO_ok a7, tC := of_decide_eq_true a8, kC := a9, exC := of_decide_eq_true b1, tyC := of_decide_eq_true b2, hdC := b3,
          te := of_decide_eq_true b4, sC := of_decide_eq_true b5, sV := of_decide_eq_true b6, sm := He.eqO_ok b7, op := He.eqO_ok b8, gs := gs, fn := fn_bad a2 e, top_ := by
            cases z : (P.main.scope.names.lookup ("super" : Str)).isSome with
            | false => rfl
            | true =>
              rw [z] at b9
              cases b9 }
end Rk
end
section
set_option Elab.async false
set_option linter.all false
set_option maxRecDepth 100000
set_option maxHeartbeats 4000000
/-! The hook: what is looked at behind the top; what follows for every def. -/
namespace Rk
open PySem PySem.Spec PyProof.Rows L2
open GxR (TabB TabG)
def kR (g : Addr → Option Obj) : PySem.W.Frag := He.frT g (cStatics :: He.asD g 4)
def tsL : List He.Tab := [((fun K => He.ga K "OTHER_ENDS"), ["S", "H", "C", "P", "Q", "X"]), ((fun K => He.ga K "LEADS"), ["H", "L", "R", "S"])]
def iO : He.Defn := ("islands_of", none)
def exL (P : Program) (K : PySem.W.Frag) : Bool := badB P K && ([Kd.S, .H, .C, .P, .Q, .X].all (oeAt K) && ([Lt.S, .H, .L, .R].all (ldAt K) && (tupI K (He.ga K "HOME") [0, 0, 0, 0, 0] && tupI K (He.ga K "NOWHERE") [0, 0, 0, 0])))
abbrev ObR : Type := He.AlT × (Bool × FnB)
def obR (P : Program) (g : Addr → Option Obj) : ObR := (He.obsT faL fnL tsL (kR g), (exL P (kR g) && He.tabsB g [iO] (kR g), fnB (kR g)))
def vaR (w : World) : ObR := (He.valT fnL tsL w, (true, fnBV))
structure SaysR (P : Program) (w : World) (h : Heap) (K : PySem.W.Frag) : Prop where
  t : He.SaysT faL fnL tsL w K
  more : exL P K = true
  bad : fnB K = fnBV
  hd : PySem.W.codeHdIn K (He.cT K iO).1 (He.cT K iO).2 = true
  out : K.lookup (He.cT K iO).2 = none
  empty : h.get? (He.cT K iO).2 = some { cls := .none, data := .fields #[] }
theorem saysR {P : Program} {w : World} {h : Heap} (e : obR P h.get? = vaR w) : SaysR P w h (kR h.get?) := by
  have e1 : He.obsT faL fnL tsL (kR h.get?) = He.valT fnL tsL w := congrArg (fun z : ObR => z.1) e
  have e2 : (exL P (kR h.get?) && He.tabsB h.get? [iO] (kR h.get?)) = true := congrArg (fun z : ObR => z.2.1) e
  have e3 : fnB (kR h.get?) = fnBV := congrArg (fun z : ObR => z.2.2) e
  obtain ⟨m1, m2⟩ := He.ba e2
  obtain ⟨m3, m4⟩ := He.ba (List.all_eq_true.mp m2 iO (List.mem_singleton.mpr rfl))
  cases q : h.get? (He.cT (kR h.get?) iO).2 with
  | none =>
    rw [q] at m4
    cases m4
  | some o =>
    rw [q] at m4
    exact ⟨e1, m1, e3, m3, He.frT_none q m4, by rw [q, He.emptyTab_eq m4]⟩
def hkR (P : Program) : PySem.W.Hook where
  α := ObR
  obs := fun s => obR P s.heap.get?
  val := fun w => vaR w
  says := fun w h => ∃ K : PySem.W.Frag, K.In h ∧ SaysR P w h K
  of := fun _ _ e => ⟨_, He.frT_in, saysR e⟩
  keeps := fun _ _ _ ⟨K, inK, c⟩ k => ⟨K, PySem.W.Frag.In.keeps inK k, ⟨c.t, c.more, c.bad, c.hd, c.out, k _ _ c.empty⟩⟩
theorem obR_eq {P : Program} {g : Addr → Option Obj} {s : Shared} (h : ∀ a, g a = s.heap.get? a) : obR P g = (hkR P).obs s := by
  have e : g = s.heap.get? := funext h
  rw [e]
  rfl
theorem facts {P : Program} {w : World} {K : PySem.W.Frag} {h : Heap} {mg : Str → Option Value} {fl : Addr} (X : K.In h) (G : h.Ns mainGlobals mg) (hfl : mg "law" = some (.ref fl)) (c : SaysR P w h K) :
    ∃ fd : FuncData, (∀ (s : Shared) (u : Value), BindsTo s fd ⟨[u], []⟩ [("_law_script", u)]) ∧ ∀ base : Heap, K.In base → base.Ns mainGlobals mg → TabB base mg (He.cT K iO).1 (He.cT K iO).2 → FnG P w K mg base CX0 12 fl fd ["_law_script"] (spLaw K (He.cT K iO).2) := by
  have S := c.t.d
  have D_step : Dn K mg "step" s_step := by
    obtain ⟨fd, F⟩ := S.def_ 0 (d := d_step) rfl
    exact ⟨_, fd, F, He.glo_ok X G (S.fact 0 (f := .glo "step") rfl)⟩
  have D_moved : Dn K mg "moved" s_moved := by
    obtain ⟨fd, F⟩ := S.def_ 1 (d := d_moved) rfl
    exact ⟨_, fd, F, He.glo_ok X G (S.fact 1 (f := .glo "moved") rfl)⟩
  have D_turned : Dn K mg "turned" s_turned := by
    obtain ⟨fd, F⟩ := S.def_ 2 (d := d_turned) rfl
    exact ⟨_, fd, F, He.glo_ok X G (S.fact 2 (f := .glo "turned") rfl)⟩
  have D_laid : Dn K mg "laid" s_laid := by
    obtain ⟨fd, F⟩ := S.def_ 3 (d := d_laid) rfl
    exact ⟨_, fd, F, He.glo_ok X G (S.fact 3 (f := .glo "laid") rfl)⟩
  have D_back : Dn K mg "back" s_back := by
    obtain ⟨fd, F⟩ := S.def_ 4 (d := d_back) rfl
    exact ⟨_, fd, F, He.glo_ok X G (S.fact 4 (f := .glo "back") rfl)⟩
  have D_ends_of : Dn K mg "ends_of" s_ends_of := by
    obtain ⟨fd, F⟩ := S.def_ 5 (d := d_ends_of) rfl
    exact ⟨_, fd, F, He.glo_ok X G (S.fact 5 (f := .glo "ends_of") rfl)⟩
  have D_lead : Dn K mg "lead" s_lead := by
    obtain ⟨fd, F⟩ := S.def_ 6 (d := d_lead) rfl
    exact ⟨_, fd, F, He.glo_ok X G (S.fact 6 (f := .glo "lead") rfl)⟩
  have D_check : Dn K mg "check" s_check := by
    obtain ⟨fd, F⟩ := S.def_ 7 (d := d_check) rfl
    exact ⟨_, fd, F, He.glo_ok X G (S.fact 7 (f := .glo "check") rfl)⟩
  have D_all_ends : Dn K mg "all_ends" s_all_ends := by
    obtain ⟨fd, F⟩ := S.def_ 8 (d := d_all_ends) rfl
    exact ⟨_, fd, F, He.glo_ok X G (S.fact 8 (f := .glo "all_ends") rfl)⟩
  have D_has_overlap : Dn K mg "has_overlap" s_has_overlap := by
    obtain ⟨fd, F⟩ := S.def_ 9 (d := d_has_overlap) rfl
    exact ⟨_, fd, F, He.glo_ok X G (S.fact 9 (f := .glo "has_overlap") rfl)⟩
  have D_laid_piece : Dn K mg "laid_piece" s_laid_piece := by
    obtain ⟨fd, F⟩ := S.def_ 10 (d := d_laid_piece) rfl
    exact ⟨_, fd, F, He.glo_ok X G (S.fact 10 (f := .glo "laid_piece") rfl)⟩
  have D_joined_to : Dn K mg "joined_to" s_joined_to := by
    obtain ⟨fd, F⟩ := S.def_ 11 (d := d_joined_to) rfl
    exact ⟨_, fd, F, He.glo_ok X G (S.fact 11 (f := .glo "joined_to") rfl)⟩
  have D_neighbours : Dn K mg "neighbours" s_neighbours := by
    obtain ⟨fd, F⟩ := S.def_ 12 (d := d_neighbours) rfl
    exact ⟨_, fd, F, He.glo_ok X G (S.fact 12 (f := .glo "neighbours") rfl)⟩
  have D_island_of : Dn K mg "island_of" s_island_of := by
    obtain ⟨fd, F⟩ := S.def_ 13 (d := d_island_of) rfl
    exact ⟨_, fd, F, He.glo_ok X G (S.fact 13 (f := .glo "island_of") rfl)⟩
  have D_law_cell : Dn K mg "_law_cell" s_law_cell := by
    obtain ⟨fd, F⟩ := S.def_ 15 (d := d_law_cell) rfl
    exact ⟨_, fd, F, He.glo_ok X G (S.fact 15 (f := .glo "_law_cell") rfl)⟩
  have D_law_same : Dn K mg "_law_same" s_law_same := by
    obtain ⟨fd, F⟩ := S.def_ 16 (d := d_law_same) rfl
    exact ⟨_, fd, F, He.glo_ok X G (S.fact 16 (f := .glo "_law_same") rfl)⟩
  have D_law_digits : Dn K mg "_law_digits" s_law_digits := by
    obtain ⟨fd, F⟩ := S.def_ 17 (d := d_law_digits) rfl
    exact ⟨_, fd, F, He.glo_ok X G (S.fact 17 (f := .glo "_law_digits") rfl)⟩
  have D_law_draw : Dn K mg "_law_draw" s_law_draw := by
    obtain ⟨fd, F⟩ := S.def_ 18 (d := d_law_draw) rfl
    exact ⟨_, fd, F, He.glo_ok X G (S.fact 18 (f := .glo "_law_draw") rfl)⟩
  have D_law_pick : Dn K mg "_law_pick" s_law_pick := by
    obtain ⟨fd, F⟩ := S.def_ 19 (d := d_law_pick) rfl
    exact ⟨_, fd, F, He.glo_ok X G (S.fact 19 (f := .glo "_law_pick") rfl)⟩
  have D_law_move : Dn K mg "_law_move" s_law_move := by
    obtain ⟨fd, F⟩ := S.def_ 20 (d := d_law_move) rfl
    exact ⟨_, fd, F, He.glo_ok X G (S.fact 20 (f := .glo "_law_move") rfl)⟩
  have D_law_turned : Dn K mg "_law_turned" s_law_turned := by
    obtain ⟨fd, F⟩ := S.def_ 21 (d := d_law_turned) rfl
    exact ⟨_, fd, F, He.glo_ok X G (S.fact 21 (f := .glo "_law_turned") rfl)⟩
  have D_law_laid : Dn K mg "_law_laid" s_law_laid := by
    obtain ⟨fd, F⟩ := S.def_ 22 (d := d_law_laid) rfl
    exact ⟨_, fd, F, He.glo_ok X G (S.fact 22 (f := .glo "_law_laid") rfl)⟩
  have D_law_back : Dn K mg "_law_back" s_law_back := by
    obtain ⟨fd, F⟩ := S.def_ 23 (d := d_law_back) rfl
    exact ⟨_, fd, F, He.glo_ok X G (S.fact 23 (f := .glo "_law_back") rfl)⟩
  have D_law_led : Dn K mg "_law_led" s_law_led := by
    obtain ⟨fd, F⟩ := S.def_ 24 (d := d_law_led) rfl
    exact ⟨_, fd, F, He.glo_ok X G (S.fact 24 (f := .glo "_law_led") rfl)⟩
  have D_law_ends_of : Dn K mg "_law_ends_of" s_law_ends_of := by
    obtain ⟨fd, F⟩ := S.def_ 25 (d := d_law_ends_of) rfl
    exact ⟨_, fd, F, He.glo_ok X G (S.fact 25 (f := .glo "_law_ends_of") rfl)⟩
  have D_law_all_ends : Dn K mg "_law_all_ends" s_law_all_ends := by
    obtain ⟨fd, F⟩ := S.def_ 26 (d := d_law_all_ends) rfl
    exact ⟨_, fd, F, He.glo_ok X G (S.fact 26 (f := .glo "_law_all_ends") rfl)⟩
  have D_law_is_free : Dn K mg "_law_is_free" s_law_is_free := by
    obtain ⟨fd, F⟩ := S.def_ 27 (d := d_law_is_free) rfl
    exact ⟨_, fd, F, He.glo_ok X G (S.fact 27 (f := .glo "_law_is_free") rfl)⟩
  have D_law_placed : Dn K mg "_law_placed" s_law_placed := by
    obtain ⟨fd, F⟩ := S.def_ 28 (d := d_law_placed) rfl
    exact ⟨_, fd, F, He.glo_ok X G (S.fact 28 (f := .glo "_law_placed") rfl)⟩
  have D_law_told : Dn K mg "_law_told" s_law_told := by
    obtain ⟨fd, F⟩ := S.def_ 29 (d := d_law_told) rfl
    exact ⟨_, fd, F, He.glo_ok X G (S.fact 29 (f := .glo "_law_told") rfl)⟩
  have D_law_joins : Dn K mg "_law_joins" s_law_joins := by
    obtain ⟨fd, F⟩ := S.def_ 30 (d := d_law_joins) rfl
    exact ⟨_, fd, F, He.glo_ok X G (S.fact 30 (f := .glo "_law_joins") rfl)⟩
  have D_law_islands : Dn K mg "_law_islands" s_law_islands := by
    obtain ⟨fd, F⟩ := S.def_ 31 (d := d_law_islands) rfl
    exact ⟨_, fd, F, He.glo_ok X G (S.fact 31 (f := .glo "_law_islands") rfl)⟩
  have D_law_seems : Dn K mg "_law_seems" s_law_seems := by
    obtain ⟨fd, F⟩ := S.def_ 32 (d := d_law_seems) rfl
    exact ⟨_, fd, F, He.glo_ok X G (S.fact 32 (f := .glo "_law_seems") rfl)⟩
  have D_law_place : Dn K mg "_law_place" s_law_place := by
    obtain ⟨fd, F⟩ := S.def_ 33 (d := d_law_place) rfl
    exact ⟨_, fd, F, He.glo_ok X G (S.fact 33 (f := .glo "_law_place") rfl)⟩
  have D_law_deed : Dn K mg "_law_deed" s_law_deed := by
    obtain ⟨fd, F⟩ := S.def_ 34 (d := d_law_deed) rfl
    exact ⟨_, fd, F, He.glo_ok X G (S.fact 34 (f := .glo "_law_deed") rfl)⟩
  have D_islands_of : DnC K mg "islands_of" s_islands_of (He.cT K iO).1 := by
    obtain ⟨fd, F⟩ := S.def_ 14 (d := d_islands_of) rfl
    refine ⟨_, fd, F, He.glo_ok X G (S.fact 14 (f := .glo "islands_of") rfl), ?_⟩
    obtain ⟨oc, od, dV, kV, doc, pm, an, cdv, ct, osl, e, lk, hcd, _, _⟩ := F.ex
    obtain ⟨c', rfl⟩ := He.codeIn_ref hcd
    have e2 : fd.code = .ref c' := by rw [e]
    have e3 : He.codeOf K iO = c' := He.codeOf_eq lk e2
    rw [e2]
    exact congrArg Value.ref e3.symm
  have E_init : MDn K (He.ga K "Layout") "__init__" "Layout.__init__" m_init := by
    obtain ⟨fd, F⟩ := S.def_ 36 (d := e_init) rfl
    exact ⟨_, fd, F, He.meth_ok (S.fact 60 (f := .meth "Layout" "__init__") rfl)⟩
  have E_put : MDn K (He.ga K "Layout") "put" "Layout.put" m_put := by
    obtain ⟨fd, F⟩ := S.def_ 37 (d := e_put) rfl
    exact ⟨_, fd, F, He.meth_ok (S.fact 61 (f := .meth "Layout" "put") rfl)⟩
  have E_place : MDn K (He.ga K "Layout") "place" "Layout.place" m_place := by
    obtain ⟨fd, F⟩ := S.def_ 38 (d := e_place) rfl
    exact ⟨_, fd, F, He.meth_ok (S.fact 62 (f := .meth "Layout" "place") rfl)⟩
  have E_lay : MDn K (He.ga K "Layout") "lay" "Layout.lay" m_lay := by
    obtain ⟨fd, F⟩ := S.def_ 39 (d := e_lay) rfl
    exact ⟨_, fd, F, He.meth_ok (S.fact 63 (f := .meth "Layout" "lay") rfl)⟩
  have E_check_piece : MDn K (He.ga K "Layout") "check_piece" "Layout.check_piece" m_check_piece := by
    obtain ⟨fd, F⟩ := S.def_ 40 (d := e_check_piece) rfl
    exact ⟨_, fd, F, He.meth_ok (S.fact 64 (f := .meth "Layout" "check_piece") rfl)⟩
  have E_remove : MDn K (He.ga K "Layout") "remove" "Layout.remove" m_remove := by
    obtain ⟨fd, F⟩ := S.def_ 41 (d := e_remove) rfl
    exact ⟨_, fd, F, He.meth_ok (S.fact 65 (f := .meth "Layout" "remove") rfl)⟩
  have E_undo : MDn K (He.ga K "Layout") "undo" "Layout.undo" m_undo := by
    obtain ⟨fd, F⟩ := S.def_ 42 (d := e_undo) rfl
    exact ⟨_, fd, F, He.meth_ok (S.fact 66 (f := .meth "Layout" "undo") rfl)⟩
  have E_layout : MDn K (He.ga K "Layout") "layout" "Layout.layout" m_layout := by
    obtain ⟨fd, F⟩ := S.def_ 43 (d := e_layout) rfl
    exact ⟨_, fd, F, He.meth_ok (S.fact 67 (f := .meth "Layout" "layout") rfl)⟩
  have E_ends : MDn K (He.ga K "Layout") "ends" "Layout.ends" m_ends := by
    obtain ⟨fd, F⟩ := S.def_ 44 (d := e_ends) rfl
    exact ⟨_, fd, F, He.meth_ok (S.fact 68 (f := .meth "Layout" "ends") rfl)⟩
  have E_joined : MDn K (He.ga K "Layout") "joined" "Layout.joined" m_joined := by
    obtain ⟨fd, F⟩ := S.def_ 45 (d := e_joined) rfl
    exact ⟨_, fd, F, He.meth_ok (S.fact 69 (f := .meth "Layout" "joined") rfl)⟩
  have E_open_ends : MDn K (He.ga K "Layout") "open_ends" "Layout.open_ends" m_open_ends := by
    obtain ⟨fd, F⟩ := S.def_ 46 (d := e_open_ends) rfl
    exact ⟨_, fd, F, He.meth_ok (S.fact 70 (f := .meth "Layout" "open_ends") rfl)⟩
  have E_islands : MDn K (He.ga K "Layout") "islands" "Layout.islands" m_islands := by
    obtain ⟨fd, F⟩ := S.def_ 47 (d := e_islands) rfl
    exact ⟨_, fd, F, He.meth_ok (S.fact 71 (f := .meth "Layout" "islands") rfl)⟩
  have E_is_shut : MDn K (He.ga K "Layout") "is_shut" "Layout.is_shut" m_is_shut := by
    obtain ⟨fd, F⟩ := S.def_ 48 (d := e_is_shut) rfl
    exact ⟨_, fd, F, He.meth_ok (S.fact 72 (f := .meth "Layout" "is_shut") rfl)⟩
  have n_tuple : mg "tuple" = none := He.free_ok X G (S.fact 42 (f := .free "tuple") rfl)
  have n_zip : mg "zip" = none := He.free_ok X G (S.fact 43 (f := .free "zip") rfl)
  have n_enumerate : mg "enumerate" = none := He.free_ok X G (S.fact 44 (f := .free "enumerate") rfl)
  have n_len : mg "len" = none := He.free_ok X G (S.fact 45 (f := .free "len") rfl)
  have n_range : mg "range" = none := He.free_ok X G (S.fact 46 (f := .free "range") rfl)
  have n_int : mg "int" = none := He.free_ok X G (S.fact 47 (f := .free "int") rfl)
  have n_list : mg "list" = none := He.free_ok X G (S.fact 48 (f := .free "list") rfl)
  have n_sorted : mg "sorted" = none := He.free_ok X G (S.fact 49 (f := .free "sorted") rfl)
  have n_any : mg "any" = none := He.free_ok X G (S.fact 50 (f := .free "any") rfl)
  have n_repr : mg "repr" = none := He.free_ok X G (S.fact 51 (f := .free "repr") rfl)
  have n_super : mg "super" = none := He.free_ok X G (S.fact 52 (f := .free "super") rfl)
  have i_EIGHTHS : IntG mg "EIGHTHS" 8 := by
    obtain ⟨t, e⟩ := He.int_ok X G (S.fact 53 (f := .int "EIGHTHS" 8) rfl)
    exact ⟨_, e, t, rfl⟩
  have i_HALF : IntG mg "HALF" 4 := by
    obtain ⟨t, e⟩ := He.int_ok X G (S.fact 54 (f := .int "HALF" 4) rfl)
    exact ⟨_, e, t, rfl⟩
  have i_NUMBERS_MOST : IntG mg "NUMBERS_MOST" 24 := by
    obtain ⟨t, e⟩ := He.int_ok X G (S.fact 55 (f := .int "NUMBERS_MOST" 24) rfl)
    exact ⟨_, e, t, rfl⟩
  have cl : FlCls K (He.ga K "Layout") := ⟨He.cls_ok (S.fact 56 (f := .cls "Layout") rfl), He.noat_ok (S.fact 57 (f := .noat "Layout" "pieces") rfl), He.noat_ok (S.fact 58 (f := .noat "Layout" "past") rfl)⟩
  have mk := He.mkr_ok (S.fact 59 (f := .mkr "Layout") rfl)
  have gL := He.glo_ok X G (S.fact 36 (f := .glo "Layout") rfl)
  have gB := He.glo_ok X G (S.fact 37 (f := .glo "BadPiece") rfl)
  have gO := He.glo_ok X G (S.fact 38 (f := .glo "OTHER_ENDS") rfl)
  have gD := He.glo_ok X G (S.fact 39 (f := .glo "LEADS") rfl)
  have gH := He.glo_ok X G (S.fact 40 (f := .glo "HOME") rfl)
  have gN := He.glo_ok X G (S.fact 41 (f := .glo "NOWHERE") rfl)
  obtain ⟨x1, y⟩ := He.ba c.more
  obtain ⟨x2, y⟩ := He.ba y
  obtain ⟨x3, y⟩ := He.ba y
  obtain ⟨x4, x5⟩ := He.ba y
  have T : BadTxt P K mg (bC K) (bI K) := bad_ok (h := h) x1 c.bad gB n_super
  obtain ⟨es1, k1, kd1⟩ := c.t.tab 0 (t := ((fun K => He.ga K "OTHER_ENDS"), ["S", "H", "C", "P", "Q", "X"])) rfl
  obtain ⟨es2, k2, kd2⟩ := c.t.tab 1 (t := ((fun K => He.ga K "LEADS"), ["H", "L", "R", "S"])) rfl
  have oe : OEnds K w mg := oe_ok gO kd1 fun k => List.all_eq_true.mp x2 k (by cases k <;> simp)
  have ld : Leads K w mg := ld_ok gD kd2 fun l => List.all_eq_true.mp x3 l (by cases l <;> simp)
  have ho : TupG K mg "HOME" [0, 0, 0, 0, 0] := ⟨_, gH, fun H => tupI_ok x4 H⟩
  have nw : TupG K mg "NOWHERE" [0, 0, 0, 0] := ⟨_, gN, fun H => tupI_ok x5 H⟩
  obtain ⟨fd, F⟩ := S.def_ 35 (d := d_law) rfl
  have e := hfl.symm.trans (He.glo_ok X G (S.fact 35 (f := .glo "law") rfl))
  cases e
  have b := FunD.bindsA (ps := ["_law_script"]) F fun _ _ _ _ _ _ us hl => match us, hl with | [_], _ => rfl
  refine ⟨fd, fun s v => b s [v] rfl, fun base _ _ TB => ?_⟩
  have k_step : Cal P w K mg base 1 "step" spStep := c_step D_step i_EIGHTHS i_HALF n_tuple
  have k_moved : Cal P w K mg base 1 "moved" (spMoved K) := c_moved D_moved n_tuple n_zip
  have k_turned : Cal P w K mg base 2 "turned" (spTurned K) := c_turned D_turned n_enumerate nw k_step k_moved
  have k_laid : Cal P w K mg base 3 "laid" (spLaid K) := c_laid D_laid i_EIGHTHS k_moved k_turned
  have k_back : Cal P w K mg base 1 "back" (spBack K) := c_back D_back i_EIGHTHS i_HALF
  have k_ends : Cal P w K mg base 4 "ends_of" (spEnds K) := c_ends D_ends_of n_tuple ho oe k_back k_laid
  have k_lead : Cal P w K mg base 4 "lead" (spLead K) := c_lead D_lead ld k_laid
  have k_chk : CalX P w K mg base 1 "check" (spChk (bC K)) := c_chk D_check T
  have k_all : Cal P w K mg base 5 "all_ends" spAll := c_all D_all_ends n_tuple n_enumerate k_ends
  have k_over : Cal P w K mg base 6 "has_overlap" spOver := c_over D_has_overlap k_all
  have k_lp : Cal P w K mg base 5 "laid_piece" spLP := c_lp D_laid_piece k_back k_lead
  have k_jt : Cal P w K mg base 6 "joined_to" (spJt K) := c_jt D_joined_to k_all k_back
  have k_nbrs : Cal P w K mg base 7 "neighbours" spNbrs := c_nbrs D_neighbours k_ends k_jt
  have k_isl : Cal P w K mg base 8 "island_of" spIsl := c_isl D_island_of n_tuple n_sorted k_nbrs
  have k_isles : Cal P w K mg base 9 "islands_of" (spIsles (He.cT K iO).2) := c_isles D_islands_of TB n_tuple n_enumerate n_any k_isl
  have q_init : MCal CX0 P w K mg base 1 (He.ga K "Layout") "__init__" (spInit (He.ga K "Layout")) := c_init E_init cl
  have q_put : MCal (L2.CX P w) P w K mg base 7 (He.ga K "Layout") "put" (spPut (He.ga K "Layout") (bC K)) := c_put E_put cl n_tuple n_len i_NUMBERS_MOST k_chk k_over
  have q_place : MCal (L2.CX P w) P w K mg base 8 (He.ga K "Layout") "place" (spPlace (He.ga K "Layout") (bC K)) := c_place E_place cl n_len q_put
  have q_lay : MCal (L2.CX P w) P w K mg base 8 (He.ga K "Layout") "lay" (spLay (He.ga K "Layout") (bC K)) := c_lay E_lay cl n_len n_tuple n_range q_put k_lp k_lead
  have q_cp : MCal (L2.CX P w) P w K mg base 2 (He.ga K "Layout") "check_piece" (spCp (He.ga K "Layout") (bC K)) := c_cp E_check_piece cl n_len k_chk
  have q_remove : MCal (L2.CX P w) P w K mg base 3 (He.ga K "Layout") "remove" (spRemove (He.ga K "Layout") (bC K)) := c_remove E_remove cl q_cp
  have q_undo : MCal CX0 P w K mg base 1 (He.ga K "Layout") "undo" (spUndo (He.ga K "Layout")) := c_undo E_undo cl
  have q_layout : MCal CX0 P w K mg base 1 (He.ga K "Layout") "layout" (spLayout (He.ga K "Layout")) := c_layout E_layout cl
  have q_ends : MCal CX0 P w K mg base 6 (He.ga K "Layout") "ends" (spEndsM (He.ga K "Layout")) := c_endsM E_ends cl k_all
  have q_joined : MCal (L2.CX P w) P w K mg base 7 (He.ga K "Layout") "joined" (spJoined (He.ga K "Layout")) := c_joined E_joined cl n_len q_cp k_chk k_ends k_jt
  have q_open : MCal CX0 P w K mg base 7 (He.ga K "Layout") "open_ends" (spOpen (He.ga K "Layout")) := c_open E_open_ends cl n_tuple q_ends k_jt
  have q_islands : MCal CX0 P w K mg base 10 (He.ga K "Layout") "islands" (spIslM (He.ga K "Layout") (He.cT K iO).2) := c_islM E_islands cl k_isles
  have q_shut : MCal CX0 P w K mg base 8 (He.ga K "Layout") "is_shut" (spShut (He.ga K "Layout")) := c_shut E_is_shut cl q_open
  have l_cell : Cal P w K mg base 1 "_law_cell" (spCell K) := c_cell D_law_cell n_len
  have l_digits : Cal P w K mg base 2 "_law_digits" (spDigits K) := c_digits D_law_digits n_range n_int l_cell
  have l_draw : Cal P w K mg base 1 "_law_draw" spDraw := c_draw D_law_draw n_len n_int
  have l_pick : Cal P w K mg base 2 "_law_pick" spPick := c_pick D_law_pick n_len n_int l_draw
  have l_move : Cal P w K mg base 1 "_law_move" (spMoveL K) := c_moveL D_law_move n_int n_list
  have l_turned : Cal P w K mg base 2 "_law_turned" (spTurnedL K) := c_turnedL D_law_turned n_range l_move
  have l_laid : Cal P w K mg base 3 "_law_laid" (spLaid K) := c_laidL D_law_laid n_range n_tuple n_int l_turned
  have l_back : Cal P w K mg base 1 "_law_back" (spBack K) := c_backL D_law_back n_int
  have l_led : Cal P w K mg base 2 "_law_led" (spLed K) := c_led D_law_led n_list n_tuple n_int l_move
  have l_ends : Cal P w K mg base 4 "_law_ends_of" spEndsL := c_endsL D_law_ends_of l_back l_led l_laid
  have l_all : Cal P w K mg base 5 "_law_all_ends" spAllL := c_allL D_law_all_ends n_range n_len n_int l_ends
  have l_free : Cal P w K mg base 6 "_law_is_free" spFree := c_free D_law_is_free l_all l_ends
  have l_placed : Cal P w K mg base 3 "_law_placed" spPlaced := c_placed D_law_placed n_range n_len l_led l_back
  have l_joins : Cal P w K mg base 6 "_law_joins" spJoins := c_joins D_law_joins l_all l_back
  have l_isl : Cal P w K mg base 1 "_law_islands" spIslL := c_islL D_law_islands n_range n_len n_tuple n_int n_sorted n_list
  have l_same : CalG P w K mg base 1 "_law_same" (spSame K) := c_same D_law_same n_repr
  have l_told : Cal P w K mg base 9 "_law_told" (spTold (He.ga K "Layout") (bC K)) := c_told D_law_told T cl q_place q_lay q_remove
  have l_seems : CalG P w K mg base 11 "_law_seems" (spSeems (He.ga K "Layout") (He.cT K iO).2) := c_seems D_law_seems cl n_tuple n_len n_list n_sorted l_same l_joins l_all l_isl q_layout q_ends q_open q_shut q_joined q_islands
  have l_place : Cal P w K mg base 6 "_law_place" spPlaceL := c_placeL D_law_place n_len n_int l_all l_draw
  have l_deed : CalG P w K mg base 10 "_law_deed" (spDeed (He.ga K "Layout")) := c_deed D_law_deed cl n_len n_tuple n_int n_range l_same l_draw l_pick l_told l_place l_placed l_free q_undo
  exact c_law F n_range gL mk.makes mk.kp l_digits q_init l_deed l_seems
end Rk
end
section
set_option Elab.async false
set_option linter.all false
set_option maxRecDepth 100000
set_option maxHeartbeats 0
/-! The head: the top by one kernel run; the law by the walk. -/
namespace Rk
open PySem PySem.Spec PyProof.Rows L2
abbrev RR : PySem.W.OpenRow := PySem.W.OpenLaw.row PySem.Challenge.rw_railshut_k07_layouts_led
def nms1 : List Str := ["RailError", "BadPiece", "NOWHERE", "HOME", "EIGHTHS", "HALF", "step", "moved", "turned", "laid", "back", "LEFT", "RIGHT", "AHEAD", "OTHER_ENDS", "ends_of", "LEADS", "lead", "NUMBERS_MOST"]
def nms2 : List Str := ["check", "all_ends", "has_overlap", "laid_piece", "Layout", "joined_to", "neighbours", "island_of", "islands_of", "_law_is_integer", "_law_cell", "_law_list_is", "_law_same", "_law_digits", "_law_draw", "_law_pick", "_law_move", "_law_turned", "_law_laid"]
def nms3 : List Str := ["_law_seen", "_law_back", "_law_led", "_law_pose", "_law_home", "_law_some", "_law_mirror", "_law_shuts", "_law_loop", "_law_ends_of", "_law_all_ends", "_law_is_free", "_law_placed", "_law_told", "_law_joins", "_law_islands", "_law_seems", "_law_place", "_law_deed"]
def nms : List Str := nms1 ++ nms2 ++ nms3
def obH (s : PySem.W.SharedT) : ObR := obR RR.prog (HandSHeadRun.getT s)
theorem obH_eq (s : PySem.W.SharedT) : obH s = (hkR RR.prog).obs s.abs := obR_eq (HandSHeadRun.getT_eq s)
def RunH (w : World) : Prop := HandSHeadRun.RunEq RR (PySem.W.view RR.prog [63]) (hkR RR.prog) obH 4000 nms w
theorem run0 (w : World) : RunH (w.withFollow "special-get-raises" false) := by
  intro os
  kernel_rfl
theorem run1 (w : World) : RunH (w.withFollow "special-get-raises" true) := by
  intro os
  kernel_rfl
theorem run (w : World) : HandSHeadRun.RunEq RR (PySem.W.view RR.prog [63]) (hkR RR.prog) obH 4000 nms w :=
  PySem.W.byRow2 (P := RunH) "special-get-raises" run0 run1 w
end Rk
end
section
set_option Elab.async false
set_option linter.all false
set_option maxRecDepth 100000
set_option maxHeartbeats 0
open PySem PySem.W PySem.Calls PyProof.Rows
theorem PySem.Challenge.cw_railshut_k07_layouts_led_holds : PySem.Challenge.rw_railshut_k07_layouts_led.Holds := by
  w_on; o_law
  refine HandSHeadRun.head_any (r := OpenLaw.row PySem.Challenge.rw_railshut_k07_layouts_led) (q := view (OpenLaw.row PySem.Challenge.rw_railshut_k07_layouts_led).prog [63]) (H := Rk.hkR (OpenLaw.row PySem.Challenge.rw_railshut_k07_layouts_led).prog) (ob := Rk.obH) (M := 4000) (loose := Rk.nms) (d := HandSHeadRun.topDef (OpenLaw.row PySem.Challenge.rw_railshut_k07_layouts_led).prog 63) (kwd := []) Rk.obH_eq
    (by kernel_rfl) (fun s => by kernel_rfl) Rk.run (by kernel_rfl) (by kernel_rfl) (by kernel_rfl) (by rfl) (by first | assumption | decide +kernel) (by decide +kernel) ⟨rfl, rfl, rfl, rfl, rfl, by decide +kernel⟩ ?hw ?hc
  case hw => w_witness2
  case hc =>
    refine Rk.walkG (l := PySem.Challenge.rw_railshut_k07_layouts_led) (n := 63) (k := 12) (x := "_law_script") rfl (by decide) (by kernel_rfl) ⟨rfl, by decide, by decide⟩ ?F
    intro w mg fl h Y G hmg0
    obtain ⟨K, KX, c⟩ := Y
    have hmg : mg ("law" : PySem.Str) = some (.ref fl) := by
      have e : (HandSHeadRun.topDef (OpenLaw.row PySem.Challenge.rw_railshut_k07_layouts_led).prog 63).name = ("law" : PySem.Str) := by kernel_rfl
      rw [← e]
      exact hmg0
    obtain ⟨fd, hb, hF⟩ := Rk.facts (P := (PySem.Challenge.rw_railshut_k07_layouts_led).prog) (w := w) KX G hmg c
    exact ⟨K, fd, Rk.spLaw K _, _, _, KX, c.empty, c.out, PySem.W.codeHd_of_K KX c.hd, hb, fun H a ns ht hS => ⟨a, ns, rfl, hS, ⟨#[], ht, trivial⟩, fun _ => rfl⟩, hF⟩
end
