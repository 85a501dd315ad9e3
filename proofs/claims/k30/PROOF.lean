import PyProof.Rows.All
import Wide.All
import OpenK.AllK
import Wide.FinOn
import KE.KStateDown
import Lean
import HandS.ForMost
import HandS.Star
import HandS.Zip
import HandS.Walk
import KE.GoesEnum
import KE.KDictZip
import PyProof.SumAny
import KE.KDictKeyed
import KE.KDictDisplayH
import HandS.WordsExc
import HandS.Defaults
import HandS.HeadHook2
import HandS.Slots
import HandS.SlotsOwn
import HandS.IsInst
import HandS.DictComp
import HandS.Deep
import HandS.Text
import HandS.Head0
import HandS.Head1
import HandS.Head2
import HandS.HeadEnd
import HandS.HeadHook1
import PySem.Challenge.RW_swapkinds_k30_whole_moves_by_search
set_option Elab.async false
set_option linter.all false
set_option maxRecDepth 100000
set_option maxHeartbeats 0
namespace K30
abbrev Grid := List (List Int)
def cell (g : Grid) (p a : Nat) : Int := (g.getD p []).getD a 0
def setCell (g : Grid) (p a : Nat) (v : Int) : Grid := g.set p ((g.getD p []).set a v)
def bump (g : Grid) (r x y : Nat) : Grid := setCell (setCell g r x (cell g r x - 1)) r y (cell (setCell g r x (cell g r x - 1)) r y + 1)
def swapG (g : Grid) (p a q b : Nat) : Grid := bump (bump g p a b) q b a
def turnG (g : Grid) (p a q b r c : Nat) : Grid := bump (bump (bump g p a c) q b a) r c b
def outG (g : Grid) : Int := ((List.range g.length).map fun k => (g.getD k []).sum - cell g k k).sum
/-! rings -/
def extR (n : Nat) (r : List Nat) : List (List Nat) := ((List.range' (r.headD 0 + 1) (n - (r.headD 0 + 1))).filter fun a => !r.contains a).map fun a => r ++ [a]
def ringsGo (n : Nat) : Nat → List (List Nat)
  | 0 => (List.range n).map fun a => [a]
  | t + 1 => (ringsGo n t).flatMap (extR n)
def missing (r : List Nat) : Nat := ((List.range 4).filter fun a => !r.contains a).headD 0
def isUp (r : List Nat) : Bool := decide ((missing r + (if r.getD 1 0 < r.getD 2 0 then 1 else 0)) % 2 = 0)
def stepsR (r : List Nat) : List (Nat × Nat) := r.zip (r.drop 1 ++ [r.headD 0])
def endsGo (s : Nat × Nat) : Nat → List (List Nat) → Nat × Nat → Nat × Nat
  | _, [], e => e
  | i, r :: rs, e => endsGo s (i + 1) rs (if (stepsR r).contains s then (if isUp r then (i + 1, e.2) else (e.1, i + 1)) else e)
abbrev Tri := Nat × Nat × Int
def triRings : Nat → List (List Nat) → List Tri
  | _, [] => []
  | i, r :: rs => (if isUp r then (0, i + 1, 0) else (i + 1, 0, 0)) :: triRings (i + 1) rs
def triSteps (rs : List (List Nat)) (g : Grid) : List Tri :=
  (List.range g.length).flatMap fun p => (List.range g.length).flatMap fun t =>
    let e := endsGo (p, t) 0 rs (0, 0)
    if p ≠ t ∧ e ≠ (0, 0) then [(e.1, e.2, cell g p t)] else []
def balOf (rs : List (List Nat)) : List Int := 0 :: rs.map fun r => if isUp r then 1 else -1
/-! the transport -/
structure StepM where
  arc : Nat
  beg : Nat
  fin : Nat
  cost : Int
  sign : Int
  rest : Option Int
deriving DecidableEq
def stepsGo : Nat → List Tri → List Int → List StepM
  | i, t :: ts, f :: fs => ⟨i, t.1, t.2.1, t.2.2, 1, none⟩ :: ((if 0 < f then [⟨i, t.2.1, t.1, -t.2.2, -1, some f⟩] else []) ++ stepsGo (i + 1) ts fs)
  | _, _, _ => []
structure DS where
  costs : List (Option Int)
  last : List (Option Nat)
  helped : Nat
def relax (d : DS) (i : Nat) (s : StepM) : DS :=
  match d.costs.getD s.beg none with
  | none => d
  | some c => match d.costs.getD s.fin none with
    | none => ⟨d.costs.set s.fin (some (c + s.cost)), d.last.set s.fin (some i), d.helped + 1⟩
    | some e => if c + s.cost < e then ⟨d.costs.set s.fin (some (c + s.cost)), d.last.set s.fin (some i), d.helped + 1⟩ else d
def relaxAll : Nat → List StepM → DS → DS
  | _, [], d => d
  | i, s :: ss, d => relaxAll (i + 1) ss (relax d i s)
def distGo (ss : List StepM) : Nat → List (Option Int) → List (Option Nat) → List (Option Int) × List (Option Nat)
  | 0, c, l => (c, l)
  | f + 1, c, l => match relaxAll 0 ss ⟨c, l, 0⟩ with
    | ⟨c', l', 0⟩ => (c', l')
    | ⟨c', l', _ + 1⟩ => distGo ss f c' l'
def distM (n : Nat) (ss : List StepM) (src : Nat) : List (Option Int) × List (Option Nat) := distGo ss (n + 1) ((List.replicate n none).set src (some 0)) (List.replicate n none)
def wayGo (ss : List StepM) (last : List (Option Nat)) (src : Nat) : Nat → Nat → List Nat → Option (List Nat)
  | 0, _, _ => none
  | f + 1, v, acc => if v = src then some acc else match last.getD v none with
    | none => none
    | some i => match ss[i]? with
      | none => none
      | some s => wayGo ss last src f s.beg (i :: acc)
def minL : List Int → Int
  | [] => 0
  | [x] => x
  | x :: y :: r => if x ≤ minL (y :: r) then x else minL (y :: r)
def pushM (ts : List Tri) (fr : List Int × List Int) (i : Nat) (a : Int) : Option (List Int × List Int) :=
  match ts[i]?, fr.1[i]? with
  | some t, some f => 
    match fr.2[t.1]? with
    | none => none
    | some x => match (fr.2.set t.1 (x - a))[t.2.1]? with
      | none => none
      | some y => some (fr.1.set i (f + a), (fr.2.set t.1 (x - a)).set t.2.1 (y + a))
  | _, _ => none
def pushAll (ts : List Tri) (ss : List StepM) (a : Int) : List Nat → List Int × List Int → Option (List Int × List Int)
  | [], fr => some fr
  | i :: r, fr => match ss[i]? with
    | none => none
    | some s => match pushM ts fr s.arc (s.sign * a) with
      | none => none
      | some fr' => pushAll ts ss a r fr'
def srcGo (rest : List Int) : Nat → Nat → Option Nat
  | 0, _ => none
  | f + 1, i => if 0 < rest.getD i 0 then some i else srcGo rest f (i + 1)
def sinkOf (n : Nat) (rest : List Int) (costs : List (Option Int)) : List Nat := (List.range n).filter fun v => decide (rest.getD v 0 < 0) && (costs.getD v none).isSome
def carryGo (n : Nat) (ts : List Tri) : Nat → List Int × List Int → Option (List Int)
  | 0, _ => none
  | f + 1, fr => match srcGo fr.2 n 0 with
    | none => some fr.1
    | some src =>
      let ss := stepsGo 0 ts fr.1
      match distM n ss src with
      | (costs, last) => match sinkOf n fr.2 costs with
        | [] => none
        | snk :: _ => match wayGo ss last src (n + 1) snk [] with
          | none => none
          | some way =>
            match pushAll ts ss (minL (fr.2.getD src 0 :: -(fr.2.getD snk 0) :: way.filterMap fun i => (ss[i]?).bind (·.rest))) way fr with
            | none => none
            | some fr' => carryGo n ts f fr'
def spentM (ts : List Tri) (fl : List Int) : Int := ((ts.zip fl).map fun z => z.1.2.2 * z.2).sum
def threesM (g : Grid) : Option Int :=
  let rs := ringsGo g.length 2
  let ts := triRings 0 rs ++ triSteps rs g
  (carryGo (balOf rs).length ts 20 (List.replicate ts.length 0, balOf rs)).map (spentM ts)
def leastM (g : Grid) : Option Int := (threesM g).map fun s => (outG g - s) / 2
end K30

namespace K30
open PySem PySem.Spec PyProof.Rows L2
open PySem.Sem (wp)
open PySem.AutoSeq1 (wpAny_loadPart')
/-! ### enumerate of a tuple -/
abbrev tItO (t : Addr) : Obj := ⟨.type "tuple_iterator", none, .fields #[.ref t, .int 0 0], #[]⟩
abbrev enO (i : Addr) : Obj := ⟨.type "enumerate", none, .fields #[.none, .bool false, .ref i, rawInt 0, .none, .none], #[]⟩
theorem enumT_new {t : Addr} {its : Array Value} :
    Meets (Builtin.«enumerate.__new__» ⟨[.type "enumerate", .ref t], []⟩) (fun _ R s => s.heap.IsTuple t its ∧
      R (.ok (.ret (.ref (s.heap.push (tItO t)).objs.size))) { s with heap := (s.heap.push (tItO t)).push (enO s.heap.objs.size) }) :=
  Meets.of_wp fun prog w A R s h => by
    obtain ⟨hp, g, d, tk, os⟩ := s
    obtain ⟨ht, h⟩ := h
    have hsub := sub_enumerate
    have hT : Heap.IsTuple (Shared.heap ⟨hp, g, d, tk, os⟩) t its := ht
    obtain ⟨⟨c1, c2, c3, c4⟩, hl, hcc, n1, hdd⟩ := id ht
    replace hcc : c1 = .type "tuple" := hcc
    replace hdd : c3 = .seq its n1 := hdd
    subst hcc hdd
    wp_walk using wpAny_loadPart' hl
    refine wpAny_stack_any fun st => wpAny_pure ?_
    split
    · rename_i c _ _ _ _ _
      cases (c == Value.type "enumerate") <;>
      · wp_walk using wpAny_loadPart' hl, wpAny_pyIter_tuple hT
        exact ⟨_, rfl, h⟩
    · wp_walk using wpAny_loadPart' hl, wpAny_pyIter_tuple hT
      exact ⟨_, rfl, h⟩
theorem enumT_call {prog : Program} {w : World} {A : Around} {E : Value → Shared → Prop} {s : Shared} {t : Addr} {its : Array Value} {Q : Value → Shared → Prop} (ht : s.heap.IsTuple t its)
    (h : ∀ h', IsEnum h' (s.heap.objs.size + 1) s.heap.objs.size 0 .none → h'.IsTupleIter s.heap.objs.size t 0 → (∀ b o, s.heap.get? b = some o → h'.get? b = some o) → Q (.ref (s.heap.objs.size + 1)) { s with heap := h' }) :
    wpAny (model prog w) A (call (.type "enumerate") [.ref t]) Q E s := by
  refine callType_new F.called_enumerate (by decide) (F.typeCall_enumerate_1 _) (F.newCall_enumerate_1 _) (fun _ => F.args_object_init_2 _ _) F.entry_enumerate_new enumT_new ⟨ht, ?_⟩
  have z1 : (s.heap.push (tItO t)).objs.size = s.heap.objs.size + 1 := Heap.size_push ..
  show _ ∧ _
  rw [z1]
  have e1 : IsEnum ((s.heap.push (tItO t)).push (enO s.heap.objs.size)) (s.heap.objs.size + 1) s.heap.objs.size 0 .none := by
    rw [← z1]
    exact Heap.get?_push_size _ rfl
  exact ⟨⟨_, e1, rfl⟩, h _ e1 ⟨_, Heap.get?_push_of_some _ (Heap.get?_push_size _ rfl), rfl, rfl⟩ fun _ _ x => Heap.get?_push_of_some _ (Heap.get?_push_of_some _ x)⟩
/-- the tuple at a, each item in a new pair with its place -/
def IteT (K : PySem.W.Frag) (a : Addr) : It where
  go i H := ∃ (xs : List V) (x : V), SqT K H a xs ∧ xs[i]? = some x
  yld i H v H' := ∃ T x, v = .ref T ∧ H T = none ∧ H' = upd H T (.tup [.int (i : Nat), x]) ∧ ∀ xs, SqT K H a xs → xs[i]? = some x
  stop i H := ∃ xs : List V, SqT K H a xs ∧ xs.length = i
theorem mem2 {b x y : Addr} (h : b ∈ [x, y]) : b = x ∨ b = y := by simpa using h
theorem turn_enumT {P : Program} {w : World} {K : PySem.W.Frag} {elts : List Expr} {kk : Nat} {tpos : Pos} (a e it : Addr) :
    Turn P w K (.Tuple elts kk tpos) (IteT K a) [e, it] e (fun i h => (∃ old, IsEnum h e it ((i : Nat) : Int) old) ∧ h.IsTupleIter it a i ∧ e ≠ it) where
  mem := by simp
  obj i h st b hb := by
    obtain ⟨⟨old, he⟩, ⟨o, ho, hc, hd⟩, _⟩ := st
    rcases mem2 hb with rfl | rfl
    · exact ⟨_, he, fun _ q => nomatch q⟩
    · exact ⟨o, ho, fun _ q => by rw [hd] at q; cases q⟩
  keep i h h' st k := by
    obtain ⟨⟨old, he⟩, hi, hne⟩ := st
    exact ⟨⟨old, k e List.mem_cons_self _ he⟩, hi.at fun o q => k it (List.mem_cons_of_mem _ List.mem_cons_self) o q, hne⟩
  item := by
    intro X hP hw hK hc i pins s σ H E I hf st hg
    subst hP hw hK
    obtain ⟨⟨old, he⟩, hit, hne⟩ := st
    obtain ⟨xs, x, hq, hx⟩ := hg
    obtain ⟨its, rv, p, hz⟩ := I.tuple hq
    obtain ⟨u, hu, ru⟩ := rv.get hx
    have hel := Heap.lt_size he
    have hil : it < s.heap.objs.size := by
      obtain ⟨_, q, _⟩ := hit
      exact Heap.lt_size q
    have hat : a ≠ it := fun z => by
      subst z
      obtain ⟨o1, q1, _, d1⟩ := hit
      obtain ⟨o2, q2, _, n2, d2⟩ := p
      rw [q1] at q2
      cases q2
      rw [d1] at d2
      cases d2
    have hae : e ∉ [it, a] := fun z => by
      rcases mem2 z with z | z
      · exact hne z
      · subst z
        obtain ⟨o2, q2, _, n2, d2⟩ := p
        rw [he] at q2
        cases q2
        cases d2
    have hiz : i < its.toArray.size := by simpa using (List.getElem?_eq_some_iff.mp hu).1
    have D : Draws X.prog X.w X.A.in1 it [it, a] its.toArray.size (fun i v => its.toArray[i]? = some v) (fun i h => h.IsTupleIter it a i ∧ h.IsTuple a its.toArray) :=
      Draws.tuple (A := X.A.in1) (I.ok.hd hc) it a hat its.toArray
    refine wpAny_pyNext_enum_itemC D he ⟨hit, p⟩ hiz hne hae fun y h' tk hy ho hst hT hsz hk => ?_
    have ey : y = u := by
      have hy2 : its[i]? = some y := by simpa using hy
      rw [hu] at hy2
      exact (Option.some.inj hy2).symm
    subst ey
    refine ⟨_, rfl, wpAny_letOwnedTupleGo_enum (s := { s with heap := h', toks := tk + 1 }) ho fun h2 he2 sb => ?_⟩
    have hT2 : h2.get? s.heap.objs.size = some { cls := .type "tuple", data := .seq #[.int i tk, y] } := (sb.2 _ (Nat.ne_of_gt hel)).trans hT
    have new : ObjOk X.prog X.w (upd H s.heap.objs.size (.tup [.int (i : Nat), x])) h2 s.heap.objs.size (.tup [.int (i : Nat), x]) :=
      ⟨(by show 2 ≤ sizeLine; decide), [.int i tk, y], .cons ⟨_, rfl⟩ (.cons ru .nil), _, hT2, rfl, _, rfl⟩
    have nm : ∀ b, b ∉ [e, it] → b ≠ e ∧ b ≠ it := fun b hb => ⟨fun z => hb (by simp [z]), fun z => hb (by simp [z])⟩
    have I1 : Inv X pins σ (upd H s.heap.objs.size (.tup [.int (i : Nat), x])) { s with heap := h2, toks := tk + 1 } :=
      I.turnedNew (ch := [e, it]) (fun b ob hb q => (sb.2 b (nm b hb).1).trans (hk b ob (nm b hb).1 (nm b hb).2 q)) hf (Nat.le_refl _) new
    refine ⟨.ref s.heap.objs.size, _, I1, rfl, ⟨_, x, rfl, I.hok.fresh (Nat.le_refl _), rfl, fun ys hy => by rw [I.tuple_inj hy hq]; exact hx⟩, ⟨⟨y, ?_⟩, hst.1.at fun o q => (sb.2 it (Ne.symm hne)).trans q, hne⟩, fun b hb => ?_⟩
    · rw [show ((i + 1 : Nat) : Int) = (i : Int) + 1 from rfl]
      exact he2
    · have hb' : b < s.heap.objs.size := by
        rcases mem2 hb with rfl | rfl
        · exact hel
        · exact hil
      rw [upd_ne (Nat.ne_of_lt hb')]
      exact (hf b hb).1
  done := by
    intro X hP hw hK hc i pins s σ H E I hf st hg
    subst hP hw hK
    obtain ⟨⟨old, he⟩, hit, hne⟩ := st
    obtain ⟨xs, hq, hx⟩ := hg
    obtain ⟨its, rv, p, hz⟩ := I.tuple hq
    obtain ⟨f0, f1, f2, f3, f4, f5⟩ := hf it (by simp)
    have hat : a ≠ it := fun z => by
      subst z
      obtain ⟨o1, q1, _, d1⟩ := hit
      obtain ⟨o2, q2, _, n2, d2⟩ := p
      rw [q1] at q2
      cases q2
      rw [d1] at d2
      cases d2
    have hl := rv.length
    have hiz : its.toArray.size = i := by
      rw [← hx, hl]
      simp
    have D : Draws X.prog X.w X.A.in1 it [it, a] its.toArray.size (fun i v => its.toArray[i]? = some v) (fun i h => h.IsTupleIter it a i ∧ h.IsTuple a its.toArray) :=
      Draws.tuple (A := X.A.in1) (I.ok.hd hc) it a hat its.toArray
    rw [hiz] at D
    refine wpAny_pyNext_enum_endD D he ⟨hit, p⟩ fun h' eb => ⟨rfl, I.turned (t' := s.toks) (fun b o hb q => eb b o hb q) f0 f1 f3 f4 f5⟩
  self A i s Q E st h := by
    obtain ⟨⟨_, he⟩, _⟩ := st
    exact wpAny_pyIter_enum he h
def iEnumT (K : PySem.W.Frag) (ta : TA) : TI := fun σ H R => ta σ H fun vs H1 => ∃ a xs, vs = [.ref a] ∧ SqT K H1 a xs ∧ R (IteT K a) H1
theorem pi_enumT {X : Cx} {e : Expr} {ta : TA} {p pos tpos : Pos} {elts : List Expr} {kk : Nat} (hg : Gl X "enumerate") (hm : X.mg "enumerate" = none) (ha : PA X [e] ta) (hs : starEach [e] X.env = [(false, eval e X.env)] := by rfl) :
    PI X (.Tuple elts kk tpos) (.Call (.Name "enumerate" p) [e] [] pos) (iEnumT X.K ta) := by
  constructor
  intro pins s σ H R I h
  refine Call_ (ld_blt I hg hm boot_enumerate (PyProof.Rows.callWith_type1 (thn (ha.run pos pins s σ H _ I h) ?_) hs rfl))
  rintro us s1 ⟨vs, H1, I1, r1, a, xs, rfl, hq, q⟩
  obtain ⟨u, rfl, ru⟩ := vals1 r1
  cases ru
  obtain ⟨its, rv, p', hz⟩ := I1.tuple hq
  refine enumT_call p' fun h' he hit hk => wpAny_pyIter_enum he ?_
  have I2 : Inv X pins σ H1 { s1 with heap := h' } := I1.kept (t' := s1.toks) hk
  refine ⟨_, [s1.heap.objs.size + 1, s1.heap.objs.size], _, _, H1, rfl, I2, turn_enumT a (s1.heap.objs.size + 1) s1.heap.objs.size, ⟨⟨.none, he⟩, hit, Nat.succ_ne_self _⟩, fun b hb => ?_, q⟩
  have hle : s1.heap.objs.size ≤ b := by
    rcases mem2 hb with rfl | rfl
    · exact Nat.le_add_right _ _
    · exact Nat.le_refl _
  exact I1.fpOk hle (I1.hok.fresh hle)
theorem walk_enumT {K : PySem.W.Frag} {a : Addr} {xs : List V} : Walk (IteT K a) xs.length (fun H => SqT K H a xs) (YPair (fun i => some (.int (i : Nat))) (fun i => xs[i]?)) := by
  constructor
  · intro i H hi q
    exact ⟨xs, xs[i], q, by simp [hi]⟩
  · intro H q
    exact ⟨xs, q, rfl⟩
  · rintro i H v H' hi q ⟨T, x, h1, h2, h3, h4⟩
    exact ⟨T, .int (i : Nat), x, h1, h2, h3, rfl, h4 xs q⟩
/-! ### xs[i] op= e of a list -/
def rGetL (K : PySem.W.Frag) : R2 := fun x y H Q => ∃ (p : Addr) (xs : List V) (j : Nat) (v : V), x = .ref p ∧ y = .int (j : Int) ∧ SqL K H p xs ∧ xs[j]? = some v ∧ Q v H
theorem get_list {X : Cx} : PGet X (rGetL X.K) := by
  intro pins s σ H o i ov iv Q I ro ri h
  obtain ⟨p, xs, j, v, rfl, rfl, hl, ha, q⟩ := h
  obtain ⟨t, rfl⟩ := ri
  cases ro
  obtain ⟨its, rv, pl, hz⟩ := I.list hl
  obtain ⟨u, hu, ru⟩ := rv.get ha
  have h1 := (List.getElem?_eq_some_iff.mp ha).1
  have h2 := line63
  exact wpAny_getItem_list pl.isList (Int.natCast_nonneg j) (by omega) (by simpa using hu) ⟨v, H, I, ru, q⟩
/-! ### sum of a tuple of ints -/
def rSumT (K : PySem.W.Frag) : List V → Hp → VK → Prop := fun vs H Q => ∃ (a : Addr) (ns : List Int), vs = [V.ref a] ∧ SqT K H a (ns.map V.int) ∧ Q (.int ns.sum) H
theorem cr_sumT {X : Cx} (hc : X.calm = true) : CallR X (.builtin "sum") (rSumT X.K) := by
  intro pins s σ H vs us Q I r h
  obtain ⟨a, ns, rfl, hs, q⟩ := h
  obtain ⟨its, rv, hl, hz⟩ := I.tuple hs
  rw [Vals.ref1 r]
  have ha : a < s.heap.objs.size := by
    obtain ⟨o, ho, _⟩ := id hl
    exact Heap.lt_size ho
  have hli : s.heap.IsTuple a its.toArray := hl
  refine call_sum_walkG (wpAny_pyIter_tuple hli ⟨s.heap.objs.size, _, _, _, _, _, fun i => ns.getD i 0, rfl, Walks.tuple (A := X.A.in1) (I.ok.hd hc) s.heap.objs.size a (Nat.ne_of_lt ha) its.toArray,
    ⟨⟨_, Heap.get?_push_size _ rfl, rfl, rfl⟩, hli.at fun o e => Heap.get?_push_of_some _ e⟩, fun b hb => ?_, fun i v hv => ?_, fun h' tk t' hk => ?_⟩)
  · have z : (s.heap.push ⟨.type "tuple_iterator", none, .fields #[.ref a, .int 0 0], #[]⟩).objs.size = s.heap.objs.size + 1 := Heap.size_push ..
    show b < (s.heap.push ⟨.type "tuple_iterator", none, .fields #[.ref a, .int 0 0], #[]⟩).objs.size
    rw [z]
    rcases mem2 hb with rfl | rfl
    · exact Nat.lt_succ_self _
    · exact Nat.lt_succ_of_lt ha
  · have hv2 : its[i]? = some v := by simpa using hv
    obtain ⟨j, hj, hr⟩ : ∃ j, (ns.map V.int)[i]? = some j ∧ RelV j v := by
      have hi := (List.getElem?_eq_some_iff.mp hv2).1
      have hle := rv.length
      obtain ⟨x, hx⟩ : ∃ x, (ns.map V.int)[i]? = some x := ⟨_, List.getElem?_eq_getElem (by omega)⟩
      obtain ⟨u, hu, ru⟩ := rv.get hx
      rw [hv2] at hu
      cases hu
      exact ⟨x, hx, ru⟩
    rw [List.getElem?_map] at hj
    cases e : ns[i]? with
    | none => rw [e] at hj; cases hj
    | some z =>
      rw [e] at hj
      cases hj
      obtain ⟨t, rfl⟩ := hr
      exact ⟨t, by simp [e]⟩
  · have e1 : preSum (fun i => ns.getD i 0) its.toArray.size = ns.sum := by
      rw [preSum_getD, List.take_of_length_le]
      have hle := rv.length
      simp at hle ⊢
      omega
    rw [e1]
    refine ⟨.int _, H, I.kept fun b o e => hk b o (fun z => ?_) (Heap.get?_push_of_some _ e), ⟨_, rfl⟩, q⟩
    rw [List.mem_singleton.mp z] at e
    exact absurd (Heap.lt_size e) (Nat.lt_irrefl _)
/-! ### a call by keywords alone -/
theorem pe_callK0 {X : Cx} {CX : CXT} {k : Nat} {f : Addr} {fd : FuncData} {ps ks : List Str} {sp : Sp} {E : XK} {x : Str} {p pos : Pos} {kws : List Keyword} {tk : TA} {g : List Value → List Value → List Value} {gV : List V → List V → List V}
    (F : FnOk X.prog X.w X.K X.mg X.base CX k f fd ps sp) (hr : Room k X.A) (hg : Gl X x) (hm : X.mg x = some (.ref f)) (hk : PySem.W.keepIn X.K (.ref f) = true) (hb : KBinds X.K fd ps ks g gV) (hx : Passes CX X E) (hkw : PK X kws tk)
    (hall : (backToKw pos (keywordEach kws X.env)).all (·.1.isSome) = true := by rfl) (hks : (backToKw pos (keywordEach kws X.env)).filterMap (·.1) = ks := by rfl) (hdb : (x == ("__debug__" : Str)) = false := by decide)
    (hpl : ((backTo pos (starEach [] X.env)).any (·.1) || (backToKw pos (keywordEach kws X.env)).any (·.1.isNone)) = false := by rfl) : PE X (.Call (.Name x p) [] kws pos) (tCallK sp gV E tNil tk) := by
  constructor
  intro pins s σ H Q I h
  refine wpAny_Call_Name_kw (ld_glob I hg hm (PySem.W.callWith_KW0 (h₀ := X.base) I.ok.mod.kin hk hall (thn (hkw.run pos pins s σ H _ I h) ?_) hpl) hdb)
  rintro ws s2 ⟨zs, H2, I2, rz, q2⟩
  refine ⟨I2.kIn, ?_⟩
  rw [hks]
  exact run_fnk F hr hb hx I2 .nil rz q2
end K30

namespace K30
open PySem PySem.Spec PyProof.Rows L2
open PySem.Sem (wp)
/-! ### list(zip(v1, v2)): the pairs are kept by the list, so each one is new -/
abbrev ZHeld (h : Heap) (q tI tO T : Addr) (f : Bool) : Prop := IsZipHeld h q tI tO T f
section
variable {prog : Program} {w : World} {A : Around} {E : Value → Shared → Prop} {s : Shared} {q tI tO j1 j2 : Addr} {fp1 fp2 : List Addr} {n1 n2 i : Nat} {P1 P2 : Nat → Value → Prop} {St1 St2 : Nat → Heap → Prop} {a1 a2 : Value}
theorem zipK_item {T : Addr} {f : Bool} {oT : Obj} {Q : Value → Shared → Prop} (S : ZipSep2 q tI tO j1 j2 fp1 fp2) (D1 : Draws prog w A j1 fp1 n1 P1 St1) (D2 : Draws prog w A j2 fp2 n2 P2 St2)
    (hq0 : ZHeld s.heap q tI tO T f) (hoT : s.heap.get? T = some oT) (hI : IsTupOf2 s.heap tI (.ref j1) (.ref j2)) (st1 : St1 i s.heap) (st2 : St2 i s.heap) (l1 : i < n1) (l2 : i < n2)
    (hQ : ∀ x1 x2 h' tk, P1 i x1 → P2 i x2 → ZHeld h' q tI tO T true → St1 (i + 1) h' → St2 (i + 1) h' → IsTupOf2 h' s.heap.objs.size x1 x2 → h'.objs.size = s.heap.objs.size + 1 →
      (∀ c o, c ≠ q → c ≠ j1 → c ≠ j2 → s.heap.get? c = some o → h'.get? c = some o) → Q (.ref s.heap.objs.size) { s with heap := h', toks := tk }) :
    wpAny (model prog w) A (Builtin.«zip.__next__» ⟨[.ref q], []⟩) (fun fin s' => ∃ v, fin = .done (.ret v) ∧ Q v s') E s := by
  obtain ⟨hp, g, d, tk0, os⟩ := s
  show wpAny _ _ (field (.ref q) 2 >>= _) _ _ _
  refine wpAny_bind (wpAny_field hq0 rfl (x := .bool false) rfl ?_)
  show wpAny _ _ (field (.ref q) 3 >>= _) _ _ _
  refine wpAny_bind (wpAny_field hq0 rfl (x := .ref tI) rfl (wpAny_bind (wpAny_seqItems hI rfl ?_)))
  show wpAny _ _ (Builtin.SmallTypes.ownedTupleIsFree (.ref q) >>= _) _ _ _
  refine wpAny_bind (wpAny_tupleHeld_zip hq0 hoT fun g0 hz0 hs0 => ?_)
  replace hs0 : Heap.SameBut q hp g0 := hs0
  simp only [Bool.false_eq_true, if_false]
  refine wpAny_bind ?_
  rw [← Array.forIn_toList]
  simp only [List.forIn_cons, List.forIn_nil]
  refine wpAny_bind (wpAny_bind (wpAny_holding ?_))
  show wpAny _ _ (Builtin.SmallTypes.nextOf (.ref j1) >>= _) _ _ ⟨g0, g, d, tk0, os⟩
  refine wpAny_bind (D1.item i _ _ _ l1 (D1.over st1 hs0 S.zf1) fun x1 p1 tk1 y1 sn1 hp1 => wpAny_pure (wpAny_pure ?_))
  replace hp1 : Heap.SameBut j1 g0 p1 := hp1
  refine wpAny_bind (wpAny_bind (wpAny_holding ?_))
  show wpAny _ _ (Builtin.SmallTypes.nextOf (.ref j2) >>= _) _ _ ⟨p1, g, d, tk1, os⟩
  refine wpAny_bind (D2.item i _ _ _ l2 (D2.over (D2.over st2 hs0 S.zf2) hp1 S.sep1_2) fun x2 p2 tk2 y2 sn2 hp2 => wpAny_pure (wpAny_pure (wpAny_pure ?_)))
  replace hp2 : Heap.SameBut j2 p1 p2 := hp2
  show wpAny _ _ (newTuple [x1, x2] >>= _) _ _ ⟨p2, g, d, tk2, os⟩
  refine wpAny_bind (wpAny_newTuple ?_)
  have hsz : p2.objs.size = hp.objs.size := by rw [hp2.1, hp1.1, hs0.1]
  have hz3 : ZHeld p2 q tI tO T true := hp2.extBut _ _ S.zi2 (hp1.extBut _ _ S.zi1 hz0)
  have kk : ∀ c o, c ≠ q → c ≠ j1 → c ≠ j2 → hp.get? c = some o → p2.get? c = some o := fun c o c1 c2 c3 e => hp2.extBut _ _ c3 (hp1.extBut _ _ c2 (hs0.extBut _ _ c1 e))
  have up : ∀ b o, p2.get? b = some o → (p2.push ⟨.type "tuple", none, .seq #[x1, x2] 0, #[]⟩).get? b = some o := fun b o e => Heap.get?_push_of_some _ e
  refine wpAny_pure ⟨_, rfl, ?_⟩
  show Q (.ref p2.objs.size) _
  have hpp : IsTupOf2 (p2.push ⟨.type "tuple", none, .seq #[x1, x2] 0, #[]⟩) p2.objs.size x1 x2 := Heap.get?_push_size _ rfl
  have hz4 : (p2.push ⟨.type "tuple", none, .seq #[x1, x2] 0, #[]⟩).objs.size = p2.objs.size + 1 := Heap.size_push ..
  rw [hsz] at hpp hz4 ⊢
  exact hQ x1 x2 _ tk2 y1 y2 (up _ _ hz3) (D1.frame _ _ _ (D1.over sn1 hp2 S.sep2_1) fun b _ o e => up b o e) (D2.frame _ _ _ sn2 fun b _ o e => up b o e) hpp hz4 fun c o c1 c2 c3 e => up c o (kk c o c1 c2 c3 e)
theorem zipK_end {T : Addr} {f : Bool} {oT : Obj} {Q : Fin → Shared → Prop} (S : ZipSep2 q tI tO j1 j2 fp1 fp2) (D1 : Draws prog w A j1 fp1 n1 P1 St1)
    (hq0 : ZHeld s.heap q tI tO T f) (hoT : s.heap.get? T = some oT) (hI : IsTupOf2 s.heap tI (.ref j1) (.ref j2)) (st1 : St1 n1 s.heap)
    (hE : ∀ h' e, (∀ c o, c ≠ q → c ≠ j1 → s.heap.get? c = some o → h'.get? c = some o) → (∃ o, h'.get? e = some o ∧ o.cls = .type "StopIteration") → E (.ref e) { s with heap := h' }) :
    wpAny (model prog w) A (Builtin.«zip.__next__» ⟨[.ref q], []⟩) Q E s := by
  obtain ⟨hp, g, d, tk0, os⟩ := s
  show wpAny _ _ (field (.ref q) 2 >>= _) _ _ _
  refine wpAny_bind (wpAny_field hq0 rfl (x := .bool false) rfl ?_)
  show wpAny _ _ (field (.ref q) 3 >>= _) _ _ _
  refine wpAny_bind (wpAny_field hq0 rfl (x := .ref tI) rfl (wpAny_bind (wpAny_seqItems hI rfl ?_)))
  show wpAny _ _ (Builtin.SmallTypes.ownedTupleIsFree (.ref q) >>= _) _ _ _
  refine wpAny_bind (wpAny_tupleHeld_zip hq0 hoT fun g0 hz0 hs0 => ?_)
  replace hs0 : Heap.SameBut q hp g0 := hs0
  simp only [Bool.false_eq_true, if_false]
  refine wpAny_bind ?_
  rw [← Array.forIn_toList]
  simp only [List.forIn_cons, List.forIn_nil]
  refine wpAny_bind (wpAny_bind (wpAny_holding ?_))
  show wpAny _ _ (Builtin.SmallTypes.nextOf (.ref j1) >>= _) _ _ ⟨g0, g, d, tk0, os⟩
  exact wpAny_bind (D1.done ⟨g0, g, d, tk0, os⟩ _ _ (D1.over st1 hs0 S.zf1) fun p e hq he => hE p e (fun c o c1 c2 x => hq c o c2 (hs0.extBut _ _ c1 x)) he)
theorem zipK_nextItem {T : Addr} {f : Bool} {oT : Obj} {Q : Option Value → Shared → Prop} (S : ZipSep2 q tI tO j1 j2 fp1 fp2) (D1 : Draws prog w A.in1 j1 fp1 n1 P1 St1) (D2 : Draws prog w A.in1 j2 fp2 n2 P2 St2)
    (hq0 : ZHeld s.heap q tI tO T f) (hoT : s.heap.get? T = some oT) (hI : IsTupOf2 s.heap tI (.ref j1) (.ref j2)) (st1 : St1 i s.heap) (st2 : St2 i s.heap) (l1 : i < n1) (l2 : i < n2)
    (hQ : ∀ x1 x2 h' tk, P1 i x1 → P2 i x2 → ZHeld h' q tI tO T true → St1 (i + 1) h' → St2 (i + 1) h' → IsTupOf2 h' s.heap.objs.size x1 x2 → h'.objs.size = s.heap.objs.size + 1 →
      (∀ c o, c ≠ q → c ≠ j1 → c ≠ j2 → s.heap.get? c = some o → h'.get? c = some o) → Q (some (.ref s.heap.objs.size)) { s with heap := h', toks := tk }) :
    wpAny (model prog w) A (pyNext (.ref q)) Q E s := by
  have hT : s.TypeIs (.ref q) "zip" := ⟨_, hq0, rfl⟩
  unfold pyNext
  refine wpAny_bind (wpAny_attempt (wpAny_callSpecial?_slot (name := Str.ofString "__next__") hT F.slot_zip_next (wpAny_call_entry F.slot_zip_next hT F.entry_zip_next ?_ (F.args_zip_next_1 _))))
  exact zipK_item S D1 D2 hq0 hoT hI st1 st2 l1 l2 fun x1 x2 h' tk y1 y2 b1 d1 d2 b5 b6 b7 => wpAny_pure (hQ x1 x2 h' tk y1 y2 b1 d1 d2 b5 b6 b7)
theorem zipK_nextEnd {T : Addr} {f : Bool} {oT : Obj} {Q : Option Value → Shared → Prop} (S : ZipSep2 q tI tO j1 j2 fp1 fp2) (D1 : Draws prog w A.in1 j1 fp1 n1 P1 St1)
    (hq0 : ZHeld s.heap q tI tO T f) (hoT : s.heap.get? T = some oT) (hI : IsTupOf2 s.heap tI (.ref j1) (.ref j2)) (st1 : St1 n1 s.heap)
    (hQ : ∀ h', (∀ c o, c ≠ q → c ≠ j1 → s.heap.get? c = some o → h'.get? c = some o) → Q none { s with heap := h' }) : wpAny (model prog w) A (pyNext (.ref q)) Q E s := by
  have hT : s.TypeIs (.ref q) "zip" := ⟨_, hq0, rfl⟩
  unfold pyNext
  refine wpAny_bind (wpAny_attempt (wpAny_callSpecial?_slot (name := Str.ofString "__next__") hT F.slot_zip_next (wpAny_call_entry F.slot_zip_next hT F.entry_zip_next ?_ (F.args_zip_next_1 _))))
  refine zipK_end S D1 hq0 hoT hI st1 fun h' e hk he => ?_
  obtain ⟨o, ho, hc⟩ := he
  exact wpAny_bind (wpAny_isInstance (T := "StopIteration") (b := true) ⟨o, ho, hc⟩ isSubtype_stop (wpAny_pure (hQ _ hk)))
end
end K30

namespace K30
open PySem PySem.Spec PyProof.Rows L2
open PySem.Sem (wp)
theorem zipNoLen : typeLookup (.type "zip") "__len__" = pure none := am_miss_of_fast (by decide +kernel)
theorem zipNoHint : typeLookup (.type "zip") "__length_hint__" = pure none := am_miss_of_fast (by decide +kernel)
/-- the zip at q stands before a turn -/
def ZAt (h : Heap) (q tI tO j1 j2 L : Addr) : Prop :=
  (IsZip h q tI tO .none ∧ ∃ a1 a2, IsTupOf2 h tO a1 a2) ∨ ∃ T f oT, ZHeld h q tI tO T f ∧ h.get? T = some oT ∧ T ≠ q ∧ T ≠ j1 ∧ T ≠ j2 ∧ T ≠ L
/-- pairs of xs and ys stand at as -/
def PairsAt (H : Hp) (xs ys : List V) (i : Nat) (as : List Addr) : Prop := as.length = i ∧ ∀ (j : Nat) (a : Addr), as[j]? = some a → ∃ x y, xs[j]? = some x ∧ ys[j]? = some y ∧ H a = some (.tup [x, y])
/-- all but the list at L that was tracked is as it was -/
def SameX (L : Addr) (H H' : Hp) : Prop := ∀ b o, b ≠ L → H b = some o → H' b = some o
theorem mem4 {b x y z t : Addr} (h : b ∈ [x, y, z, t]) : b = x ∨ b = y ∨ b = z ∨ b = t := by simpa using h
theorem nmem4 {b x y z t : Addr} (h : b ∉ [x, y, z, t]) : b ≠ x ∧ b ≠ y ∧ b ≠ z ∧ b ≠ t := by simpa using h
section
variable {X : Cx} {pins : List (Addr × Obj)} {σ : L2.St}
structure ZCells (X : Cx) (pins : List (Addr × Obj)) (H : Hp) (q tO j1 j2 : Addr) : Prop where
  cq : FpOk X pins H q
  cO : FpOk X pins H tO
  c1 : FpOk X pins H j1
  c2 : FpOk X pins H j2
theorem fpKeep {H : Hp} {b T : Addr} {o : HO} (h : FpOk X pins H b) (ne : b ≠ T) : FpOk X pins (upd H T o) b := ⟨by rw [upd_ne ne]; exact h.1, h.2⟩
theorem ZCells.keep {H : Hp} {q tO j1 j2 T : Addr} {o : HO} (c : ZCells X pins H q tO j1 j2) (h1 : q ≠ T) (h3 : tO ≠ T) (h4 : j1 ≠ T) (h5 : j2 ≠ T) : ZCells X pins (upd H T o) q tO j1 j2 :=
  ⟨fpKeep c.cq h1, fpKeep c.cO h3, fpKeep c.c1 h4, fpKeep c.c2 h5⟩
theorem ZCells.all {H : Hp} {q tO j1 j2 : Addr} (C : ZCells X pins H q tO j1 j2) : ∀ c ∈ [q, tO, j1, j2], FpOk X pins H c := fun c hc => by
  rcases mem4 hc with rfl | rfl | rfl | rfl
  · exact C.cq
  · exact C.cO
  · exact C.c1
  · exact C.c2
theorem zipL_loop {q tI tO j1 j2 a b L : Addr} {xs ys : List V} {us ws : List Value} {n : Nat} {H0 : Hp} {res : Value} {A : Around} {R : Result → Shared → Prop} (hh : A.handled = none) (S : ZipSep2 q tI tO j1 j2 [j1, a] [j2, b])
    (hv : Vals xs us) (hw : Vals ys ws) (lx : xs.length = n) (ly : ys.length = n) (hz : n < sizeLine) (bq : q < L) (bI : tI < L) (bO : tO < L) (b1 : j1 < L) (b2 : j2 < L) (ba : a < L) (bb : b < L) (na : a ≠ j1) (nb : b ≠ j2)
    (hR : ∀ s' H' as, Inv X pins σ H' s' → SameX L H0 H' → H' L = some (.lst (as.map V.ref)) → PairsAt H' xs ys n as → R (.ok (.ret res)) s') :
    ∀ (k i : Nat) (s : Shared) (H : Hp) (as : List Addr), i + k = n → Inv X pins σ H s → ZCells X pins H q tO j1 j2 → SameX L H0 H → H L = some (.lst (as.map V.ref)) → PairsAt H xs ys i as →
      ZAt s.heap q tI tO j1 j2 L → IsTupOf2 s.heap tI (.ref j1) (.ref j2) → s.heap.IsTupleIter j1 a i → s.heap.IsTuple a us.toArray → s.heap.IsListIter j2 b i → s.heap.IsList b ws.toArray →
      codeAny (model X.prog X.w) A (.builtin "list.extend.loop" ⟨[.ref L, .ref q, res], []⟩) R s := by
  intro k
  induction k with
  | zero =>
    intro i s H as hi I C sm hL hP hZ hI h1 h1a h2 h2a
    refine codeAny_builtin PySem.F.entry_extend_loop ?_
    rw [Around.under_plainId PySem.F.plain_extend_loop _]
    show wpAny _ A.in1 (pyNext (.ref q) >>= _) _ _ s
    have hn : us.toArray.size = i := by
      have := hv.length
      simp
      omega
    have hn2 : ws.toArray.size = i := by
      have := hw.length
      simp
      omega
    have D1 : Draws X.prog X.w A.in1.in1 j1 [j1, a] us.toArray.size (fun i v => us.toArray[i]? = some v) (fun i h => h.IsTupleIter j1 a i ∧ h.IsTuple a us.toArray) := Draws.tuple (A := A.in1.in1) hh j1 a na us.toArray
    have D2 : Draws X.prog X.w A.in1.in1 j2 [j2, b] ws.toArray.size (fun i v => ws.toArray[i]? = some v) (fun i h => h.IsListIter j2 b i ∧ h.IsList b ws.toArray) := Draws.list (A := A.in1.in1) hh j2 b nb ws.toArray
    rw [hn] at D1
    rw [hn2] at D2
    have ei : i = n := by omega
    subst ei
    rcases hZ with ⟨hz0, a1, a2, hO⟩ | ⟨T, f, oT, hz0, hT, _⟩
    · refine wpAny_bind (wpAny_pyNext_zipD2_end S D1 D2 hz0 hI hO ⟨h1, h1a⟩ ⟨h2, h2a⟩ (Nat.le_refl _) (Nat.le_refl _) (.inl rfl) fun h' tk hk => wpAny_pure (hR _ H as ?_ sm hL hP))
      exact I.turnedL (ch := [q, tO, j1, j2]) (t' := tk) (fun c o hc e => hk c o (nmem4 hc).1 (nmem4 hc).2.1 (nmem4 hc).2.2.1 (nmem4 hc).2.2.2 e) C.all
    · refine wpAny_bind (zipK_nextEnd S D1 hz0 hT hI ⟨h1, h1a⟩ fun h' hk => wpAny_pure (hR _ H as ?_ sm hL hP))
      exact I.turnedL (ch := [q, tO, j1, j2]) (t' := s.toks) (fun c o hc e => hk c o (nmem4 hc).1 (nmem4 hc).2.2.1 e) C.all
  | succ k ih =>
    intro i s H as hi I C sm hL hP hZ hI h1 h1a h2 h2a
    refine codeAny_builtin PySem.F.entry_extend_loop ?_
    rw [Around.under_plainId PySem.F.plain_extend_loop _]
    show wpAny _ A.in1 (pyNext (.ref q) >>= _) _ _ s
    have D1 : Draws X.prog X.w A.in1.in1 j1 [j1, a] us.toArray.size (fun i v => us.toArray[i]? = some v) (fun i h => h.IsTupleIter j1 a i ∧ h.IsTuple a us.toArray) := Draws.tuple (A := A.in1.in1) hh j1 a na us.toArray
    have D2 : Draws X.prog X.w A.in1.in1 j2 [j2, b] ws.toArray.size (fun i v => ws.toArray[i]? = some v) (fun i h => h.IsListIter j2 b i ∧ h.IsList b ws.toArray) := Draws.list (A := A.in1.in1) hh j2 b nb ws.toArray
    have lu : i < us.toArray.size := by
      have := hv.length
      simp
      omega
    have lw : i < ws.toArray.size := by
      have := hw.length
      simp
      omega
    have lL : L < s.heap.objs.size := I.hok.lt hL
    have far : ∀ {c : Addr}, c < L → c ≠ s.heap.objs.size := fun {c} hc => Nat.ne_of_lt (Nat.lt_trans hc lL)
    -- one turn, whatever the zip's own tuple is
    have turn : ∀ (u v : Value) (h' : Heap) (tk : Nat), us.toArray[i]? = some u → ws.toArray[i]? = some v → ZAt h' q tI tO j1 j2 L → IsTupOf2 h' tI (.ref j1) (.ref j2) → h'.IsTupleIter j1 a (i + 1) → h'.IsTuple a us.toArray → h'.IsListIter j2 b (i + 1) → h'.IsList b ws.toArray →
        IsTupOf2 h' s.heap.objs.size u v → (∀ c o, c ≠ q → c ≠ tO → c ≠ j1 → c ≠ j2 → s.heap.get? c = some o → h'.get? c = some o) →
        wpAny (model X.prog X.w) A.in1 (Builtin.List.listUpdate (Value.ref L) (·.push (Value.ref s.heap.objs.size)) >>= fun _ => again (.builtin "list.extend.loop" ⟨[.ref L, .ref q, res], []⟩))
          (fun fin s' => match fin with | .done f => R (.ok f) s' | .again c' => c'.quiet = true ∧ codeAny (model X.prog X.w) A c' R s') (fun e s' => R (.error e) s') { s with heap := h', toks := tk } := by
      intro u v h' tk hu hv' hZ' hI' g1 g1a g2 g2a hT hk
      have eu : us[i]? = some u := by simpa using hu
      have ev : ws[i]? = some v := by simpa using hv'
      obtain ⟨x, hx⟩ : ∃ x, xs[i]? = some x := ⟨xs[i]'(by omega), List.getElem?_eq_getElem _⟩
      obtain ⟨y, hy⟩ : ∃ y, ys[i]? = some y := ⟨ys[i]'(by omega), List.getElem?_eq_getElem _⟩
      obtain ⟨u2, hu2, ru⟩ := hv.get hx
      obtain ⟨v2, hv2, rv⟩ := hw.get hy
      rw [eu] at hu2
      rw [ev] at hv2
      cases hu2
      cases hv2
      have nT : H s.heap.objs.size = Option.none := I.fresh
      have new : ObjOk X.prog X.w (upd H s.heap.objs.size (.tup [x, y])) h' s.heap.objs.size (.tup [x, y]) :=
        ⟨(by show 2 ≤ sizeLine; decide), [u, v], .cons ru (.cons rv .nil), _, hT, rfl, _, rfl⟩
      have I1 : Inv X pins σ (upd H s.heap.objs.size (.tup [x, y])) { s with heap := h', toks := tk } :=
        I.turnedNew (ch := [q, tO, j1, j2]) (fun c o hc e => hk c o (nmem4 hc).1 (nmem4 hc).2.1 (nmem4 hc).2.2.1 (nmem4 hc).2.2.2 e) C.all (Nat.le_refl _) new
      have hL1 : upd H s.heap.objs.size (.tup [x, y]) L = some (.lst (as.map V.ref)) := by rw [upd_ne (Nat.ne_of_lt lL)]; exact hL
      obtain ⟨hzL, its, m, rL, eL, oL⟩ := I1.lstM hL1
      replace oL : h'.get? L = some { cls := .type "list", data := .seq its.toArray m } := oL
      have lenL : its.length = i := by
        rw [← eL, List.length_map]
        exact hP.1
      have rT : RelV (V.ref s.heap.objs.size) (Value.ref s.heap.objs.size) := rfl
      have I2 := I1.lstUpd (ys := (as ++ [s.heap.objs.size]).map V.ref) (its' := its ++ [Value.ref s.heap.objs.size]) (n' := m + 1) (f := Obj.mapSeq (·.push (Value.ref s.heap.objs.size))) hL1 oL (by simp [Obj.mapSeq]) (by
        rw [List.map_append]
        exact rL.append (.cons rT .nil)) (by rw [List.length_map, List.length_append, List.length_singleton, hP.1]; omega) tk
      show wpAny _ A.in1 (updateSeq L (·.push (Value.ref s.heap.objs.size)) >>= _) _ _ _
      refine wpAny_bind ?_
      refine wpAny_updateSeq oL rfl (wpAny_pure ⟨plainId_quiet PySem.F.plain_extend_loop _, ?_⟩) (by simp; omega) (by simp; omega)
      have up : ∀ c o, c ≠ L → h'.get? c = some o → (h'.update L (Obj.mapSeq (·.push (Value.ref s.heap.objs.size)))).get? c = some o := fun c o hc e => (Heap.get?_update_other _ _ (Ne.symm hc)).trans e
      have ne : ∀ {c : Addr}, c < L → c ≠ L := fun hc => Nat.ne_of_lt hc
      refine ih (i + 1) _ _ (as ++ [s.heap.objs.size]) (by omega) I2 ((C.keep (far bq) (far bO) (far b1) (far b2)).keep (ne bq) (ne bO) (ne b1) (ne b2)) (fun c o hc e => ?_) upd_same ⟨by rw [List.length_append, hP.1]; rfl, fun j c hj => ?_⟩ ?_ (up _ _ (ne bI) hI') (g1.at fun o e => up _ o (ne b1) e) (g1a.at fun o e => up _ o (ne ba) e) (g2.at fun o e => up _ o (ne b2) e) (g2a.at fun o e => up _ o (ne bb) e)
      · have e1 := sm c o hc e
        rw [upd_ne hc, upd_ne (ne_of_none e1 nT)]
        exact e1
      · by_cases hjl : j < as.length
        · rw [List.getElem?_append_left hjl] at hj
          obtain ⟨x', y', e1, e2, e3⟩ := hP.2 j c hj
          refine ⟨x', y', e1, e2, ?_⟩
          rw [upd_ne (ne_of e3 hL (by intro z; cases z)), upd_ne (ne_of_none e3 nT)]
          exact e3
        · rw [List.getElem?_append_right (by omega)] at hj
          have ej : j - as.length = 0 := by
            cases hq : j - as.length with
            | zero => rfl
            | succ m => rw [hq] at hj; simp at hj
          rw [ej] at hj
          have ec : s.heap.objs.size = c := by simpa using hj
          subst ec
          have ej2 : j = i := by
            have := hP.1
            omega
          subst ej2
          refine ⟨x, y, hx, hy, ?_⟩
          rw [upd_ne (Nat.ne_of_gt lL), upd_same]
      · rcases hZ' with ⟨z0, a1, a2, hO⟩ | ⟨T, f, oT, z0, hT', n1, n2, n3, n4⟩
        · exact .inl ⟨up _ _ (ne bq) z0, a1, a2, up _ _ (ne bO) hO⟩
        · exact .inr ⟨T, f, oT, up _ _ (ne bq) z0, up _ _ n4 hT', n1, n2, n3, n4⟩
    rcases hZ with ⟨hz0, a1, a2, hO⟩ | ⟨T, f, oT, hz0, hT, m1, m2, m3, m4⟩
    · refine wpAny_bind (wpAny_pyNext_zipD2_item S D1 D2 hz0 hI hO ⟨h1, h1a⟩ ⟨h2, h2a⟩ lu lw fun u v h' tk hu hv' z1 z2 s1 s2 t1 _ hk => ?_)
      exact turn u v h' tk hu hv' (.inr ⟨_, _, _, z1, t1, (far bq).symm, (far b1).symm, (far b2).symm, Nat.ne_of_gt lL⟩) (hk _ _ S.TIz S.TITO S.TIi1 S.TIi2 hI) s1.1 s1.2 s2.1 s2.2 t1 hk
    · refine wpAny_bind (zipK_nextItem S D1 D2 hz0 hT hI ⟨h1, h1a⟩ ⟨h2, h2a⟩ lu lw fun u v h' tk hu hv' z1 s1 s2 t1 _ hk => ?_)
      exact turn u v h' tk hu hv' (.inr ⟨T, _, oT, z1, hk T oT m1 m2 m3 hT, m1, m2, m3, m4⟩) (hk _ _ S.TIz S.TIi1 S.TIi2 hI) s1.1 s1.2 s2.1 s2.2 t1 (fun c o c1 _ c3 c4 e => hk c o c1 c3 c4 e)
/-- list(v), v a zip that was just made of a tuple and a list -/
theorem zipL_call {q tI tO j1 j2 a b : Addr} {xs ys : List V} {us ws : List Value} {n : Nat} {H : Hp} {s : Shared} {Q : VK} (hh : X.A.handled = none) (S : ZipSep2 q tI tO j1 j2 [j1, a] [j2, b])
    (hv : Vals xs us) (hw : Vals ys ws) (lx : xs.length = n) (ly : ys.length = n) (hz : n < sizeLine) (I : Inv X pins σ H s) (C : ZCells X pins H q tO j1 j2)
    (hz0 : IsZip s.heap q tI tO .none) (hI : IsTupOf2 s.heap tI (.ref j1) (.ref j2)) (hO : ∃ a1 a2, IsTupOf2 s.heap tO a1 a2) (h1 : s.heap.IsTupleIter j1 a 0) (h1a : s.heap.IsTuple a us.toArray) (h2 : s.heap.IsListIter j2 b 0) (h2a : s.heap.IsList b ws.toArray)
    (na : a ≠ j1) (nb : b ≠ j2) (hQ : ∀ H' L as, Same H H' → H L = none → H' L = some (.lst (as.map V.ref)) → PairsAt H' xs ys n as → Q (.ref L) H') :
    wpAny (model X.prog X.w) X.A (call (.type "list") [.ref q]) (EP X pins σ Q) X.xe s := by
  have lt2 : ∀ {c : Addr} {o : Obj}, s.heap.get? c = some o → c < s.heap.objs.size := fun e => Heap.lt_size e
  have bj1 : j1 < s.heap.objs.size := by
    obtain ⟨_, e, _⟩ := h1
    exact lt2 e
  have bj2 : j2 < s.heap.objs.size := by
    obtain ⟨_, e, _⟩ := h2
    exact lt2 e
  have ba : a < s.heap.objs.size := by
    obtain ⟨_, e, _⟩ := h1a
    exact lt2 e
  have bb : b < s.heap.objs.size := by
    obtain ⟨_, e, _⟩ := h2a
    exact lt2 e
  have bO : tO < s.heap.objs.size := by
    obtain ⟨_, _, e⟩ := hO
    exact lt2 e
  have bq := lt2 hz0
  have bI := lt2 hI
  refine callType_codes (Q₁ := fun v s₁ => v = .ref s.heap.objs.size ∧ s₁ = { s with heap := s.heap.push ⟨.type "list", none, .seq #[] 0, #[]⟩ }) PySem.F.called_list (PySem.F.typeCall_list_1 _) PySem.F.entry_list_init (code_list_new _ ⟨rfl, rfl⟩) fun v s1 h => ?_
  obtain ⟨rfl, rfl⟩ := h
  have hS : (s.heap.push ⟨.type "list", none, .seq #[] 0, #[]⟩).get? s.heap.objs.size = some ⟨.type "list", none, .seq #[] 0, #[]⟩ := Heap.get?_push_size _ rfl
  have up0 : ∀ c o, s.heap.get? c = some o → (s.heap.push ⟨.type "list", none, .seq #[] 0, #[]⟩).get? c = some o := fun c o e => Heap.get?_push_of_some _ e
  have nL : H s.heap.objs.size = none := I.fresh
  have I0 : Inv X pins σ (upd H s.heap.objs.size (.lst [])) { s with heap := s.heap.push ⟨.type "list", none, .seq #[] 0, #[]⟩ } := I.lnew (its := []) (t' := s.toks) .nil (Nat.zero_le _)
  refine ⟨⟨_, hS, rfl⟩, PySem.F.args_list_init_2 _ _, ?_⟩
  show wpAny _ X.A.in1.in1 (do let old ← Builtin.List.listItems (.ref s.heap.objs.size); Builtin.List.listUpdate (.ref s.heap.objs.size) (fun _ => #[]); letGo old.toList.reverse; Builtin.List.listExtendWith (.ref s.heap.objs.size) (.ref q) .none) _ _ _
  refine wpAny_bind ?_
  unfold Builtin.List.listItems
  refine wpAny_bind (wpAny_seqItems hS rfl (wpAny_pure ?_))
  show wpAny _ _ (updateSeq s.heap.objs.size (fun _ => #[]) >>= fun _ => letGo (#[] : Array Value).toList.reverse >>= fun _ => Builtin.List.listExtendWith (.ref s.heap.objs.size) (.ref q) .none) _ _ _
  refine wpAny_bind (wpAny_updateSeq hS rfl ?_)
  have hS2 := Heap.get?_update_self (Obj.mapSeq (fun _ => (#[] : Array Value))) hS rfl
  have I1 := I0.lstUpd (ys := []) (its := []) (its' := []) (n := 0) (n' := 0) (f := Obj.mapSeq (fun _ => (#[] : Array Value))) upd_same hS (by rfl) .nil (Nat.zero_le _) s.toks
  refine wpAny_bind (wpAny_letGo ?_)
  generalize hg1 : (s.heap.push ⟨.type "list", none, .seq #[] 0, #[]⟩).update s.heap.objs.size (Obj.mapSeq (fun _ => (#[] : Array Value))) = g1 at hS2 I1
  have up1 : ∀ c o, c ≠ s.heap.objs.size → s.heap.get? c = some o → g1.get? c = some o := fun c o hc e => by
    rw [← hg1]
    exact (Heap.get?_update_other _ _ (Ne.symm hc)).trans (up0 c o e)
  have ne : ∀ {c : Addr}, c < s.heap.objs.size → c ≠ s.heap.objs.size := fun hc => Nat.ne_of_lt hc
  unfold Builtin.List.listExtendWith
  have hzq : IsZip g1 q tI tO .none := up1 _ _ (ne bq) hz0
  refine wpAny_bind (wpAny_typeOf (T := "zip") ⟨_, hzq, rfl⟩ ?_)
  have w1 : Builtin.List.listSameRef (.ref s.heap.objs.size) (.ref q) = false := by
    have := (ne bq).symm
    simp [Builtin.List.listSameRef, this]
  have w2 : (Value.type "zip" == Value.type "list") = false := by decide
  have w3 : (Value.type "zip" == Value.type "tuple") = false := by decide
  simp only [w1, w2, w3, Bool.or_false, Bool.false_eq_true, if_false]
  refine wpAny_bind (wpAny_pyIter_zip hzq ?_)
  refine wpAny_bind (wpAny_holding ?_)
  unfold Builtin.List.listLengthHint
  refine wpAny_bind (wpAny_specialOf (T := "zip") ⟨_, hzq, rfl⟩ zipNoLen ?_)
  show wpAny _ _ (specialOf (Value.ref q) (Str.ofString "__length_hint__") >>= _) _ _ _
  refine wpAny_bind (wpAny_specialOf (T := "zip") ⟨_, hzq, rfl⟩ zipNoHint (wpAny_pure ?_))
  show wpAny _ _ (rule "list.extend.makes-room" >>= fun _ => Builtin.List.listTouch (.ref s.heap.objs.size) >>= fun _ => again (.builtin "list.extend.loop" ⟨[.ref s.heap.objs.size, .ref q, .none], []⟩)) _ _ _
  refine wpAny_bind (wpAny_rule (wpAny_bind ?_))
  show wpAny _ _ (updateSeq s.heap.objs.size (·.push .none) >>= fun _ => updateSeq s.heap.objs.size (·.pop)) _ _ _
  refine wpAny_bind (wpAny_updateSeq hS2 rfl ?_)
  have hS3 := Heap.get?_update_self (Obj.mapSeq (·.push Value.none)) hS2 rfl
  refine wpAny_updateSeq (hz := by seq_fits) hS3 rfl ?_
  have hS4 := Heap.get?_update_self (Obj.mapSeq (·.pop)) hS3 rfl
  have up2 : ∀ c o, c ≠ s.heap.objs.size → g1.get? c = some o → ((g1.update s.heap.objs.size (Obj.mapSeq (·.push Value.none))).update s.heap.objs.size (Obj.mapSeq (·.pop))).get? c = some o := fun c o hc e =>
    (Heap.get?_update_other _ _ (Ne.symm hc)).trans ((Heap.get?_update_other _ _ (Ne.symm hc)).trans e)
  have I2 : Inv X pins σ (upd (upd (upd H s.heap.objs.size (.lst [])) s.heap.objs.size (.lst [])) s.heap.objs.size (.lst [])) { s with heap := (g1.update s.heap.objs.size (Obj.mapSeq (·.push Value.none))).update s.heap.objs.size (Obj.mapSeq (·.pop)), toks := s.toks } :=
    I1.write (x := s.heap.objs.size) (e := s.heap.objs.size) (by rw [upd_same]; trivial) (.inl rfl) (fun c o hc e => up2 c o hc e) ⟨_, hS4⟩ ⟨Nat.zero_le _, [], _, .nil, hS4⟩
  rw [upd_upd, upd_upd] at I2
  have up : ∀ c o, c < s.heap.objs.size → s.heap.get? c = some o → ((g1.update s.heap.objs.size (Obj.mapSeq (·.push Value.none))).update s.heap.objs.size (Obj.mapSeq (·.pop))).get? c = some o := fun c o hc e => up2 c o (ne hc) (up1 c o (ne hc) e)
  refine wpAny_pure ⟨plainId_quiet PySem.F.plain_extend_loop _, ?_⟩
  refine zipL_loop (A := X.A.in1) (X := X) (pins := pins) (σ := σ) (H0 := upd H s.heap.objs.size (.lst [])) hh S hv hw lx ly hz bq bI bO bj1 bj2 ba bb na nb (fun s' H' as J sm hL hP => ?_) n 0 _ _ [] (Nat.zero_add n) I2 (C.keep (ne bq) (ne bO) (ne bj1) (ne bj2)) (fun _ _ _ e => e) upd_same ⟨rfl, fun j c hj => by simp at hj⟩
    (.inl ⟨up _ _ bq hz0, ?_⟩) (up _ _ bI hI) (h1.at fun o e => up _ o bj1 e) (h1a.at fun o e => up _ o ba e) (h2.at fun o e => up _ o bj2 e) (h2a.at fun o e => up _ o bb e)
  · refine ⟨rfl, .ref s.heap.objs.size, H', J, rfl, hQ H' s.heap.objs.size as (fun c o e => ?_) nL hL hP⟩
    have hc := ne_of_none e nL
    exact sm c o hc (by rw [upd_ne hc]; exact e)
  · obtain ⟨a1, a2, e⟩ := hO
    exact ⟨a1, a2, up _ _ bO e⟩
end
/-- list(zip(t, l)), t a tuple and l a list of one length -/
def tListZip (K : PySem.W.Frag) (ta : TA) : TE := fun σ H Q => ta σ H fun vs H1 => ∃ a b xs ys, vs = [.ref a, .ref b] ∧ SqT K H1 a xs ∧ SqL K H1 b ys ∧ xs.length = ys.length ∧ xs.length < sizeLine ∧
  ∀ H' L as, Same H1 H' → H1 L = none → H' L = some (.lst (as.map V.ref)) → PairsAt H' xs ys xs.length as → Q (.ref L) H'
theorem pe_listZip {X : Cx} {e e2 : Expr} {ta : TA} {p p2 pos pos2 : Pos} (hc : X.calm = true) (hg : Gl X "zip") (hm : X.mg "zip" = none) (hg2 : Gl X "list") (hm2 : X.mg "list" = none) (ha : PA X [e, e2] ta)
    (hs : starEach [e, e2] X.env = (false, eval e X.env) :: starEach [e2] X.env := by rfl) (hpl : (backTo pos2 (starEach [e2] X.env)).any (·.1) = false := by rfl)
    (na : starEach [Expr.Call (.Name "zip" p2) [e, e2] [] pos2] X.env = (false, eval (.Call (.Name "zip" p2) [e, e2] [] pos2) X.env) :: starEach [] X.env := by rfl) :
    PE X (.Call (.Name "list" p) [.Call (.Name "zip" p2) [e, e2] [] pos2] [] pos) (tListZip X.K ta) := by
  constructor
  intro pins s σ H Q I h
  refine Call_ (ld_blt I hg2 hm2 boot_list (PyProof.Rows.callWith_type1 (args_cons (Call_ (ld_blt I hg hm PyProof.Rows.boot_zip (PyProof.Rows.callWith_type1 (thn (ha.run pos2 pins s σ H _ I h) ?_) hs hpl))) na) na))
  rintro us s1 ⟨vs, H1, I1, r1, a, b, xs, ys, rfl, hx, hy, hl, hz, q⟩
  obtain ⟨u, v, rfl, ru, rv⟩ := vals2 r1
  cases ru
  cases rv
  obtain ⟨its, r2, p1, _⟩ := I1.tuple hx
  obtain ⟨its2, r3, p3, _⟩ := I1.list hy
  have t1 : s1.heap.IsTuple a its.toArray := p1
  have la : a < s1.heap.objs.size := by
    obtain ⟨_, e, _⟩ := t1
    exact Heap.lt_size e
  have lb : b < s1.heap.objs.size := p3.lt
  refine zip_begins2 (begins_tuple a its.toArray) (begins_list b its2.toArray) t1 p3.isList fun h' hz0 hI hO h1 h2 hsz hk => args_nil ?_
  have I2 : Inv X pins σ H1 { s1 with heap := h' } := I1.kept (t' := s1.toks) hk
  have fresh : ∀ c, s1.heap.objs.size ≤ c → FpOk X pins H1 c := fun c hc => I1.fpOk hc (I1.hok.fresh hc)
  refine zipL_call (X := X) (n := xs.length) (I1.ok.hd hc) (zip_sep2 (N := s1.heap.objs.size) (fp1 := [a]) (fp2 := [b]) (fun c hc => by rw [List.mem_singleton.mp hc]; exact la) (fun c hc => by rw [List.mem_singleton.mp hc]; exact lb)) r2 r3 rfl hl.symm hz I2
    ⟨fresh _ (Nat.le_add_right _ _), fresh _ (Nat.le_add_right _ _), fresh _ (Nat.le_refl _), fresh _ (Nat.le_add_right _ _)⟩ hz0 hI ⟨_, _, hO⟩ ⟨_, h1, rfl, rfl⟩ (t1.at fun o e => hk _ _ e) ⟨_, h2, rfl, rfl⟩ (p3.isList.at fun o e => hk _ _ e) (Nat.ne_of_lt la) (Nat.ne_of_lt (Nat.lt_succ_of_lt lb)) q
end K30

namespace K30
open PySem PySem.Spec PyProof.Rows L2
/-! ### tables as tuples of tuples; a dict whose keys are such tables -/
def gKey (g : Grid) : NestedKey := .tup (g.map fun r => .tup (r.map .num))
theorem map_inj {α β : Type} {f : α → β} (hf : ∀ x y, f x = f y → x = y) : ∀ {l m : List α}, l.map f = m.map f → l = m
  | [], [], _ => rfl
  | [], _ :: _, h => nomatch h
  | _ :: _, [], h => nomatch h
  | x :: l, y :: m, h => by
    have h1 : f x = f y ∧ l.map f = m.map f := List.cons.inj h
    rw [hf x y h1.1, map_inj hf h1.2]
theorem gKey_inj {g g' : Grid} (h : gKey g = gKey g') : g = g' :=
  map_inj (fun r s e => map_inj (fun i j z => NestedKey.num.inj z) (NestedKey.tup.inj e)) (NestedKey.tup.inj h)
theorem depth_nums : ∀ r : List Int, NestedKey.depthAll (r.map .num) = 0
  | [] => by simp [NestedKey.depthAll]
  | _ :: r => by simp [NestedKey.depthAll, NestedKey.depth, depth_nums r]
theorem depth_rows : ∀ g : Grid, NestedKey.depthAll (g.map fun r => .tup (r.map .num)) ≤ 1
  | [] => by simp [NestedKey.depthAll]
  | r :: g => by
    have := depth_rows g
    simp only [List.map_cons, NestedKey.depthAll, NestedKey.depth, depth_nums]
    omega
theorem gKey_depth (g : Grid) : (gKey g).depth ≤ 8 := by
  have := depth_rows g
  simp only [gKey, NestedKey.depth]
  omega
/-- the table g stands at a, tuples in a tuple -/
def GridT (H : Hp) (a : Addr) (g : Grid) : Prop := ∃ ras : List Addr, H a = some (.tup (ras.map V.ref)) ∧ Paired (fun r row => H r = some (.tup (row.map V.int))) ras g
abbrev GridsT (H : Hp) : List Addr → List Grid → Prop := Paired (GridT H)
theorem pairedMono {α β : Type} {F G : α → β → Prop} (f : ∀ a b, F a b → G a b) : ∀ {l : List α} {m : List β}, Paired F l m → Paired G l m
  | _, _, .nil => .nil
  | _, _, .cons r t => .cons (f _ _ r) (pairedMono f t)
theorem GridT.keep {H H' : Hp} {a : Addr} {g : Grid} (h : GridT H a g) (k : ∀ b xs, H b = some (.tup xs) → H' b = some (.tup xs)) : GridT H' a g := by
  obtain ⟨ras, h1, h2⟩ := h
  exact ⟨ras, k _ _ h1, pairedMono (fun _ _ e => k _ _ e) h2⟩
theorem nums_all {h : Heap} : ∀ {r : List Int} {us : List Value}, Vals (r.map V.int) us → NestedAll h (r.map .num) us
  | [], _, .nil => .nil
  | i :: r, _, .cons rv t => by
    obtain ⟨tk, rfl⟩ := rv
    exact .cons (.int i tk) (nums_all t)
theorem rows_all {P : Program} {w : World} {H : Hp} {h : Heap} (ok : HOk P w H h) : ∀ {ras : List Addr} {g : Grid} {us : List Value}, Paired (fun r row => H r = some (.tup (row.map V.int))) ras g → Vals (ras.map V.ref) us → NestedAll h (g.map fun r => .tup (r.map .num)) us
  | [], _, _, .nil, .nil => .nil
  | a :: ras, _ :: g, _, .cons p q, .cons rv t => by
    cases rv
    obtain ⟨z, its, r, ob, e1, e2, n, e3⟩ := ok _ _ p
    exact .cons (.tup e1 e2 e3 (by simpa using nums_all r)) (rows_all ok q t)
theorem gridT_is {P : Program} {w : World} {H : Hp} {h : Heap} {a : Addr} {g : Grid} (ok : HOk P w H h) (t : GridT H a g) : (nestedKind P w).is h (gKey g) a := by
  obtain ⟨ras, h1, h2⟩ := t
  obtain ⟨z, its, r, ob, e1, e2, n, e3⟩ := ok _ _ h1
  exact ⟨.tup e1 e2 e3 (by simpa using rows_all ok h2 r), gKey_depth g⟩
def gXs : List Grid → List Addr → List (NestedKey × Addr × Value)
  | g :: gs, b :: bs => (gKey g, b, .bool true) :: gXs gs bs
  | _, _ => []
theorem gXs_keys : ∀ {gs : List Grid} {bs : List Addr}, gs.length = bs.length → (gXs gs bs).map (·.1) = gs.map gKey
  | [], [], _ => rfl
  | [], _ :: _, h => nomatch h
  | _ :: _, [], h => nomatch h
  | g :: gs, b :: bs, h => by
    have h1 : gs.length = bs.length := Nat.succ.inj h
    simp [gXs, gXs_keys h1]
theorem gXs_len : ∀ {gs : List Grid} {bs : List Addr}, gs.length = bs.length → (gXs gs bs).length = gs.length
  | [], [], _ => rfl
  | [], _ :: _, h => nomatch h
  | _ :: _, [], h => nomatch h
  | g :: gs, b :: bs, h => by
    have h1 : gs.length = bs.length := Nat.succ.inj h
    simp [gXs, gXs_len h1]
theorem gXs_snoc {g : Grid} {b : Addr} : ∀ {gs : List Grid} {bs : List Addr}, gs.length = bs.length → gXs (gs ++ [g]) (bs ++ [b]) = gXs gs bs ++ [(gKey g, b, .bool true)]
  | [], [], _ => rfl
  | [], _ :: _, h => nomatch h
  | _ :: _, [], h => nomatch h
  | x :: gs, y :: bs, h => by
    have h1 : gs.length = bs.length := Nat.succ.inj h
    simp [gXs, gXs_snoc h1]
theorem gXs_mem {H : Hp} {x : NestedKey × Addr × Value} : ∀ {gs : List Grid} {bs : List Addr}, GridsT H bs gs → x ∈ gXs gs bs → ∃ g, x.1 = gKey g ∧ GridT H x.2.1 g
  | [], [], .nil, h => by simp [gXs] at h
  | g :: gs, b :: bs, .cons p q, h => by
    rcases List.mem_cons.mp h with rfl | h
    · exact ⟨g, rfl, p⟩
    · exact gXs_mem q h
/-- the dict at d as its object has it: the keys' addresses bs -/
def GDP (P : Program) (w : World) (gs : List Grid) (bs : List Addr) (d : Addr) (h : Heap) : Prop :=
  (d == sysModules) = false ∧ ∃ o es ep, h.get? d = some o ∧ o.ExactDict ∧ o.data = .dict es ep ∧ es.toList = (gXs gs bs).map (entryOfKey (nestedKind P w))
def GDO (P : Program) (w : World) (gs : List Grid) (bs : List Addr) (d : Addr) : HO := .ext (GDP P w gs bs d)
/-- a dict of the tables gs -/
def GDict (P : Program) (w : World) (H : Hp) (d : Addr) (gs : List Grid) : Prop := ∃ bs, H d = some (GDO P w gs bs d) ∧ GridsT H bs gs ∧ gs.Nodup ∧ gs.length ≤ sizeLine
theorem GDP.obj {P : Program} {w : World} {gs : List Grid} {bs : List Addr} {d : Addr} {h : Heap} (x : GDP P w gs bs d h) {H : Hp} : ObjOk P w H h d (GDO P w gs bs d) := by
  refine ⟨x, ?_, fun h1 h2 y k => ?_⟩
  · obtain ⟨_, o, _, _, e, _⟩ := x
    exact ⟨o, e⟩
  · obtain ⟨y0, o, es, ep, e, r⟩ := y
    exact ⟨y0, o, es, ep, k _ e, r⟩
theorem GDict.keep {P : Program} {w : World} {H H' : Hp} {d : Addr} {gs : List Grid} (x : GDict P w H d gs) (kd : H' d = H d) (k : ∀ b xs, H b = some (.tup xs) → H' b = some (.tup xs)) : GDict P w H' d gs := by
  obtain ⟨bs, h1, h2, h3⟩ := x
  exact ⟨bs, kd.trans h1, pairedMono (fun _ _ t => t.keep k) h2, h3⟩
theorem gdict_at {P : Program} {w : World} {H : Hp} {h : Heap} {d : Addr} {gs : List Grid} {bs : List Addr} (ok : HOk P w H h) (e : H d = some (GDO P w gs bs d)) (t : GridsT H bs gs) (nd : gs.Nodup) :
    (d == sysModules) = false ∧ h.DictOfH (nestedKind P w) d (gXs gs bs) := by
  obtain ⟨⟨hd, o, es, ep, e1, e2, e3, e4⟩, _⟩ := ok _ _ e
  have hl : gs.length = bs.length := (Paired.length t).symm
  refine ⟨hd, o, es, ep, e1, e2, e3, e4, fun x hx => ?_, ?_⟩
  · obtain ⟨g, k1, k2⟩ := gXs_mem t hx
    rw [k1]
    exact gridT_is ok k2
  · rw [gXs_keys hl]
    exact List.Pairwise.map _ (fun a b hab e => hab (gKey_inj e)) nd
theorem gXs_at {gs : List Grid} {bs : List Addr} (hl : gs.length = bs.length) (g : Grid) : (valueAt (pairsH (gXs gs bs)) (gKey g)).isSome = decide (g ∈ gs) := by
  induction gs generalizing bs with
  | nil =>
    cases bs with
    | nil => rfl
    | cons => exact nomatch hl
  | cons x gs ih =>
    cases bs with
    | nil => exact nomatch hl
    | cons b bs =>
      have h1 := ih (bs := bs) (Nat.succ.inj hl)
      by_cases e : x = g
      · subst e
        simp [gXs, pairsH, valueAt]
      · have e2 : ¬ gKey x = gKey g := fun z => e (gKey_inj z)
        have e3 : ¬ g = x := fun z => e z.symm
        have h2 : (valueAt (pairsH (gXs (x :: gs) (b :: bs))) (gKey g)).isSome = (valueAt (pairsH (gXs gs bs)) (gKey g)).isSome := by
          simp [gXs, pairsH, valueAt, e2]
        rw [h2, h1]
        simp [e3]
section
variable {X : Cx} {i o e v : Expr} {ty td tk tv : TE} {pos : Pos}
def tGNotIn (P : Program) (w : World) (ty td : TE) : TE := fun σ H Q => ty σ H fun y H1 => td σ H1 fun x H2 => ∃ d b g gs, x = .ref d ∧ y = .ref b ∧ GridT H2 b g ∧ GDict P w H2 d gs ∧ Q (.bl (!decide (g ∈ gs))) H2
theorem pc_gnotin (hu : X.A.units + 64 < cLine) (hi : PE X i ty) (ho : PE X o td) : PC X .NotIn i o (tGNotIn X.prog X.w ty td) := by
  constructor
  intro pins s σ H Q I h
  refine thn (hi.run pins s σ H _ I h) ?_
  rintro iv s1 ⟨y, H1, I1, ry, q1⟩
  refine thn (ho.run pins s1 σ H1 _ I1 q1) ?_
  rintro u s2 ⟨x, H2, I2, rx, d, b, g, gs, rfl, rfl, hg, ⟨bs, h1, h2, h3, h4⟩, q⟩
  cases rx
  cases ry
  obtain ⟨hd, D⟩ := gdict_at I2.hok h1 h2 h3
  refine notIn_keyed (knd := nestedKind X.prog X.w) (show X.A.units + 1 + 8 < cLine by omega) (gridT_is I2.hok hg) hd ⟨_, D, rfl⟩ ⟨_, H2, I2.tok _, ?_, q⟩
  rw [gXs_at (Paired.length h2).symm]
  rfl
/-- seen[b] = True, b not there -/
def tGPut (P : Program) (w : World) : TSet := fun x y v H Q => ∃ d b g gs, x = .ref d ∧ y = .ref b ∧ v = .bl true ∧ GridT H b g ∧ GDict P w H d gs ∧ g ∉ gs ∧ gs.length < sizeLine ∧
  ∀ u, GDict P w (upd H d u) d (gs ++ [g]) → Q (upd H d u)
theorem atKey_iff {K : Type} [DecidableEq K] {xs : List (K × Addr × Value)} {k : K} (h : (valueAt (pairsH xs) k).isSome = false) : atKey xs k = none := by
  rw [valueAt_pairsH] at h
  cases e : atKey xs k with
  | none => rfl
  | some z => rw [e] at h; cases h
theorem set_gd (hu : X.A.units + 64 < cLine) : PSet X (tGPut X.prog X.w) := by
  intro pins s σ H x y v ov iv u Q I rx ry rv h
  obtain ⟨d, b, g, gs, rfl, rfl, rfl, hg, ⟨bs, h1, h2, h3, h4⟩, hn, hz, q⟩ := h
  cases rx
  cases ry
  cases rv
  have hl : gs.length = bs.length := (Paired.length h2).symm
  obtain ⟨hd, D⟩ := gdict_at I.hok h1 h2 h3
  have hk : atKey (gXs gs bs) (gKey g) = none := atKey_iff (by rw [gXs_at hl]; exact decide_eq_false hn)
  have nt : ∀ c ys, H c = some (.tup ys) → c ≠ d := fun c ys e z => by
    subst z
    rw [e] at h1
    cases h1
  refine wpAny_setItem_heap (knd := nestedKind X.prog X.w) (hsz := by rw [gXs_len hl]; exact Nat.le_of_lt hz) (show X.A.units + 1 + 8 < cLine by omega) (gridT_is I.hok hg) D fun h' D' hs => ?_
  rw [storedH_new hk, ← gXs_snoc hl] at D'
  obtain ⟨o, es, ep, e1, e2, e3, e4, _, _⟩ := D'
  have new : GDP X.prog X.w (gs ++ [g]) (bs ++ [b]) d h' := ⟨hd, o, es, ep, e1, e2, e3, e4⟩
  refine ⟨upd H d (GDO X.prog X.w (gs ++ [g]) (bs ++ [b]) d), d_write I (by rw [h1]; trivial) hs ⟨o, e1⟩ new.obj, q _ ⟨bs ++ [b], upd_same, ?_, ?_, ?_⟩⟩
  · have k1 : ∀ c ys, H c = some (.tup ys) → upd H d (GDO X.prog X.w (gs ++ [g]) (bs ++ [b]) d) c = some (.tup ys) := fun c ys e => by
      rw [upd_ne (nt c ys e)]
      exact e
    have app : ∀ {l : List Addr} {m : List Grid}, GridsT H l m → GridsT (upd H d (GDO X.prog X.w (gs ++ [g]) (bs ++ [b]) d)) (l ++ [b]) (m ++ [g]) := by
      intro l m t
      induction t with
      | nil => exact .cons (hg.keep k1) .nil
      | cons p _ ih => exact .cons (p.keep k1) ih
    exact app h2
  · refine List.nodup_append.mpr ⟨h3, by simp, fun a ha c hc => ?_⟩
    rw [List.mem_singleton.mp hc]
    exact fun z => hn (z ▸ ha)
  · rw [List.length_append, List.length_singleton]
    exact hz
/-- {b: True} -/
def tG1 (P : Program) (w : World) (tk : TE) : TE := fun σ H Q => ∀ d, H d = none → tk σ (upd H d (.dK [])) fun y H1 => ∃ b g, y = .ref b ∧ H1 d = some (.dK []) ∧ GridT H1 b g ∧ ∀ u, GDict P w (upd H1 d u) d [g] → Q (.ref d) (upd H1 d u)
theorem pe_gd1 {j : Nat} {pos' : Pos} (hu : X.A.units + 64 < cLine) (hk : PE X e tk) : PE X (.Dict [some e] [.Constant (.bool true) j pos'] pos) (tG1 X.prog X.w tk) := by
  constructor
  intro pins s σ H Q I h
  have hn := I.hok.fresh (Nat.le_refl s.heap.objs.size)
  have I1 := I.laid (a := s.heap.objs.size) (o := .dK []) (h' := s.heap.push ⟨.type "dict", none, .dict #[] 0, #[]⟩) (t' := s.toks) (fun _ _ q => Heap.get?_push_of_some _ q) (Nat.le_refl _) (dk_empty s.heap I.big)
  rw [arm_eval_Dict, zip_pairTrees [some e] [.Constant (.bool true) j pos'] X.env pos rfl rfl, dictDisplay_pairs _ (by simp [pairTrees]) (by simp [pairTrees])]
  refine wpAny_bind (wpAny_standAt (wpAny_bind (wpAny_subDictH (knd := nestedKind X.prog X.w) (show X.A.units + 8 < cLine by omega) (by simp [pairTrees]) (pairTrees_cons_walk (thn (hk.run pins _ σ _ _ I1 (h _ hn)) ?_)))))
  rintro kv s1 ⟨y, H1, I2, ry, b, g, rfl, hd, hg, q⟩
  cases ry
  refine Constant_bool (pairTrees_nil_walk ?_)
  obtain ⟨z, hdS, vs0, r0, dd⟩ := dk_of I2.hok hd
  cases r0
  obtain ⟨o0, es0, ep0, f1, f2, f3, f4, f5, f6⟩ := dd
  have e0 : es0.toList = [] := by
    cases hq : es0.toList with
    | nil => rfl
    | cons a r => rw [hq] at f5; cases f5
  refine ⟨[(gKey g, b, .bool true)], ⟨rfl, rfl, gridT_is I2.hok hg, trivial⟩, ⟨o0, es0, ep0, f1, f2, f3, e0, fun x hx => (by simp at hx), (by simp)⟩, fun h' tk D' hs => ?_⟩
  obtain ⟨o, es, ep, e1, e2, e3, e4, _, _⟩ := D'
  have new : GDP X.prog X.w [g] [b] s.heap.objs.size h' := ⟨hdS, o, es, ep, e1, e2, e3, e4⟩
  have nt : ∀ c ys, H1 c = some (.tup ys) → c ≠ s.heap.objs.size := fun c ys e z => by
    subst z
    rw [hd] at e
    cases e
  refine wpAny_pure ⟨.ref s.heap.objs.size, upd H1 s.heap.objs.size (GDO X.prog X.w [g] [b] s.heap.objs.size), d_write I2 (by rw [hd]; trivial) hs ⟨o, e1⟩ new.obj, rfl, q _ ⟨[b], upd_same, .cons (hg.keep fun c ys e => ?_) .nil, by simp, by show 1 ≤ sizeLine; decide⟩⟩
  rw [upd_ne (nt c ys e)]
  exact e
end
end K30

namespace K30
open PySem PySem.Spec PyProof.Rows L2
/-! ### defs that ask that no repr is under way -/
structure FnG (P : Program) (w : World) (K : PySem.W.Frag) (mg : Str → Option Value) (base : Heap) (k : Nat) (f : Addr) (fd : FuncData) (ps : List Str) (sp : Sp) : Prop where
  len : ∀ vs H Q E, sp vs H Q E → vs.length = ps.length
  run : ∀ (A : Around) (fr : List Env) (s : Shared) (H : Hp) (args : Args) (us : List Value) (vs : List V) (Q : VK), A.guards = some [] → Room k A → Env0 P w K mg base A fr s H → BindsTo s fd args (ps.zip us) → Vals vs us → sp vs H Q E0 →
    codeAny (model P w) A (.call (.ref f) args) (CR CX0 fr P w H s Q E0) s
section
variable {P : Program} {w : World} {K : PySem.W.Frag} {mg : Str → Option Value} {base : Heap}
theorem fnG_of {x qual : Str} {pa : Arguments} {bo : List Stmt} {sco : Scope} {f : Addr} {fd : FuncData} {N ps : List Str} {k : Nat} {sp : Sp} (F : FunD K x qual pa bo sco [] [] f fd) (S : FnScope N ps sco) (len : ∀ vs H Q E, sp vs H Q E → vs.length = ps.length)
    (hbody : ∀ (cdv : Value) (A : Around) (fr : List Env) (s : Shared) (H : Hp) (vs : List V) (Q : VK), A.guards = some [] → Room k (A.deeper (envOfC qual sco s.heap.objs.size f cdv)) → sp vs H Q E0 →
      ∃ t, PSs (cxOf CX0 P w K mg base N qual sco f cdv A fr s H E0).nox bo t ∧ t { nx := fun _ H' => Q .non H', rt := Q } (start N vs) H) : FnG P w K mg base (k + 1) f fd ps sp := by
  obtain ⟨oc, od, dV, kV, doc, pm, an, cdv, ct, osl, rfl, lk, hcd, _, _⟩ := F.ex
  refine ⟨len, ?_⟩
  intro A fr s H args us vs Q hgu hro e0 hbi rel hsp
  have hin : K.In s.heap := e0.mod.kin.keeps fun b o e => (e0.bs b o e).1
  have hno : s.heap.NoLimit := e0.mod.nolimit.keeps fun b o e => (e0.bs b o e).1
  have hkd : ∀ y ∈ ps.zip us, sco.names.lookup y.1 = some .local ∨ (sco.names.lookup y.1 = some .cell ∧ ((cellsFrom (s.heap.objs.size + 1) sco.names []).lookup y.1).isSome = true) := by
    rintro ⟨n, v⟩ hy
    exact (S.par n (List.of_mem_zip hy).1).imp id fun q => ⟨q, PySem.W.cellsFrom_some _ _ _ (.inl q)⟩
  refine codeAny_call_function hro.depth (hin _ _ lk) rfl S.co S.gen rfl (PySem.W.codeRec_of hin hcd) (hbi _ _ _ _ (wpAny_newFunctionEnv_cells S.kind hkd fun env he s1 x => ?_))
  subst he
  refine ⟨hno.keeps x.toInCall.keep, codeAny_func ?_⟩
  obtain ⟨t, ht, hq⟩ := hbody cdv A fr s H vs Q hgu (hro.deeper _) hsp
  have I0 : Inv (cxOf CX0 P w K mg base N qual sco f cdv A fr s H E0) [] (start N vs) H s1 := inv_start S hro.hd e0 (len _ _ _ _ hsp) rel x
  refine wpAny_mono (ht.nox.run [] s1 (start N vs) H _ I0 hq) ?_ fun _ _ z => z
  rintro (_ | _ | _ | u) s2 hs
  · obtain ⟨σ2, H2, J, q⟩ := hs
    exact ⟨.non, H2, J.os, J.bare, J.base, J.hok, rfl, q⟩
  · obtain ⟨_, _, _, q⟩ := hs
    exact q.elim
  · obtain ⟨_, _, _, q⟩ := hs
    exact q.elim
  · obtain ⟨v, σ2, H2, J, rv, q⟩ := hs
    exact ⟨v, H2, J.os, J.bare, J.base, J.hok, rv, q⟩
theorem runG {X : Cx} {k : Nat} {f : Addr} {fd : FuncData} {ps : List Str} {sp : Sp} {pins : List (Addr × Obj)} {σ : L2.St} {H : Hp} {s : Shared} {Q : VK} {us : List Value} {vs : List V} (F : FnG X.prog X.w X.K X.mg X.base k f fd ps sp) (hgu : X.A.guards = some []) (hr : Room k X.A)
    (hb : Binds X.K fd ps []) (I : Inv X pins σ H s) (r : Vals vs us) (h : sp vs H Q E0) : wpAny (model X.prog X.w) X.A (call (.ref f) us) (EP X pins σ Q) X.xe s := by
  have hl : us.length = ps.length := by
    rw [← r.length]
    exact F.len _ _ _ _ h
  have hb2 := hb s us I.kIn (by simpa using hl)
  rw [List.append_nil] at hb2
  refine wpAny_call (codeAny_mono (F.run X.A X.stack s H ⟨us, []⟩ us vs Q hgu hr I.env0 hb2 r h) ?_)
  rintro (e | _ | _ | _ | u) s2 hq
  · exact False.elim hq
  · exact False.elim hq
  · exact False.elim hq
  · exact False.elim hq
  · exact I.after hq
theorem pe_callG {X : Cx} {k : Nat} {f : Addr} {fd : FuncData} {ps : List Str} {sp : Sp} {x : Str} {p pos : Pos} {e : Expr} {es : List Expr} {t : TA} (F : FnG X.prog X.w X.K X.mg X.base k f fd ps sp) (hgu : X.A.guards = some []) (hr : Room k X.A) (hg : Gl X x) (hm : X.mg x = some (.ref f))
    (hk : PySem.W.keepIn X.K (.ref f) = true) (hb : Binds X.K fd ps []) (ha : PA X (e :: es) t) (hdb : (x == ("__debug__" : Str)) = false := by decide) (he : starEach (e :: es) X.env = (false, eval e X.env) :: starEach es X.env := by rfl)
    (hpl : (backTo pos (starEach es X.env)).any (·.1) = false := by rfl) : PE X (.Call (.Name x p) (e :: es) [] pos) (tCall sp [] E0 t) := by
  constructor
  intro pins s σ H Q I h
  refine Call_ (ld_glob I hg hm (PySem.W.callWith_K (h₀ := X.base) I.ok.mod.kin hk (thn (ha.run pos pins s σ H _ I h) ?_) he hpl) hdb)
  rintro us s1 ⟨vs, H1, I1, r, q⟩
  rw [List.append_nil] at q
  exact ⟨I1.kIn, runG F hgu hr hb I1 r q⟩
/-- what the law's own call gives, from the law's promise -/
theorem lawG {mb : Str → Option Value} {k : Nat} {fa a : Addr} {fd : FuncData} {x : Str} {sp : Sp} {s0 : Shared} {vs : List Value} {ns : List Int} (KX : K.In s0.heap) (hns : s0.heap.Ns mainGlobals mg) (hb : s0.heap.Ns builtinsNs mb) (hbb : ∀ x : Str, x ≠ "__name__" → mb x = bootBuiltins x)
    (hlim : s0.heap.NoLimit) (hg : s0.gens = #[]) (ha : s0.heap.get? a = some ⟨.type "list", none, .seq vs.toArray 0, #[]⟩) (hi : IntsAre vs ns) (hl : ns.length ≤ sizeLine) (hr : Room k callerA)
    (F : ∀ base : Heap, K.In base → base.Ns mainGlobals mg → FnG P w K mg base k fa fd [x] sp) (hbind : ∀ (s : Shared) (u : Value), BindsTo s fd ⟨[u], []⟩ [(x, u)]) (hsp : ∀ H : Hp, Only H → SqL K H a (ns.map V.int) → sp [.ref a] H (fun v _ => v = .bl true) E0) :
    codeAny (model P w) callerA (.call (.ref fa) ⟨[.ref a], []⟩) (fun r s' => r = .ok (.ret (.bool true)) ∧ OldK s0.heap s'.heap ∧ s'.os = s0.os ∧ AllBare s'.gens) s0 := by
  have rv : Vals (ns.map V.int) vs := vals_ints hi
  have key : ∀ H : Hp, Only H → SqL K H a (ns.map V.int) → HOk P w H s0.heap → (∀ b u, H b = some u → b = a ∧ K.lookup a = none) →
      codeAny (model P w) callerA (.call (.ref fa) ⟨[.ref a], []⟩) (fun r s' => r = .ok (.ret (.bool true)) ∧ OldK s0.heap s'.heap ∧ s'.os = s0.os ∧ AllBare s'.gens) s0 := by
    intro H hO hS hok hA
    have isN : ∀ b, b ≠ a ∨ K.lookup a ≠ none → H b = none := fun b hb => by
      cases q : H b with
      | none => rfl
      | some u =>
        obtain ⟨e1, e2⟩ := hA b u q
        rcases hb with z | z
        · exact absurd e1 z
        · exact absurd e2 z
    have nsH : ∀ {b : Addr} {m : Str → Option Value}, s0.heap.Ns b m → (hidT s0.heap H).Ns b m := by
      rintro b m ⟨o, es, ep, e, d, r⟩
      refine ⟨o, es, ep, hidT_get e (isN b (.inl fun z => ?_)), d, r⟩
      subst z
      rw [ha] at e
      cases e
      cases d
    have inH : K.In (hidT s0.heap H) := fun b o e => by
      refine hidT_get (KX b o e) (isN b ?_)
      by_cases z : b = a
      · subst z
        exact .inr fun z2 => by rw [e] at z2; cases z2
      · exact .inl z
    have hM : Mod K mg (hidT s0.heap H) := ⟨inH, nsH hns, ⟨mb, nsH hb, hbb⟩, by
      obtain ⟨mc, q1, q2⟩ := hlim
      exact ⟨mc, nsH q1, q2⟩⟩
    have e0 : Env0 P w K mg (hidT s0.heap H) callerA [] s0 H := ⟨rfl, hM, fun _ _ e => of_hidT e, Nat.le_of_eq (hidT_size _ _), trivial, fun b hb => absurd (show b ∈ ([] : List Addr) from hb) List.not_mem_nil, hok, .of_eq hg⟩
    refine codeAny_mono ((F _ inH (nsH hns)).run callerA [] s0 H ⟨[.ref a], []⟩ [.ref a] [.ref a] _ rfl hr e0 (hbind s0 (.ref a)) (.cons rfl .nil) (hsp H hO hS)) ?_
    rintro (e | _ | _ | _ | u) s2 h
    · exact False.elim h
    · exact False.elim h
    · exact False.elim h
    · exact False.elim h
    · obtain ⟨v, H2, os, bare, un, hok2, r2, q⟩ := h
      cases (show v = .bl true from q)
      cases r2
      refine ⟨rfl, OldK.of_keep fun b o e => ?_, os, bare⟩
      cases q1 : H b with
      | none => exact un.keep b o e q1 (fun z => absurd (show b ∈ ([] : List Addr) from z) List.not_mem_nil) List.not_mem_nil
      | some u =>
        rcases hO b with z | ⟨ob, xs, z⟩
        · rw [q1] at z
          cases z
        · have e1 := (hok b _ z).1
          have e2 := (hok2 b _ (un.frzs b ob _ z)).1
          rw [e] at e1
          cases e1
          exact e2
  cases hk : K.lookup a with
  | some o =>
    have e := KX a o hk
    rw [ha] at e
    cases e
    exact key (fun _ => none) (fun _ => .inl rfl) (.inr ⟨_, vs.toArray, 0, hk, rfl, rfl, rfl, by rw [List.size_toArray, hi.length]; exact hl, by simpa using rv⟩) (fun _ _ z => nomatch z) fun _ _ z => nomatch z
  | none =>
    have at1 : ∀ b u, (if b = a then some (HO.frz ⟨.type "list", none, .seq vs.toArray 0, #[]⟩ (.lst (ns.map V.int))) else none) = some u → b = a ∧ u = HO.frz ⟨.type "list", none, .seq vs.toArray 0, #[]⟩ (.lst (ns.map V.int)) := fun b u z => by
      by_cases e : b = a
      · rw [if_pos e] at z
        exact ⟨e, (Option.some.inj z).symm⟩
      · rw [if_neg e] at z
        cases z
    refine key (fun b => if b = a then some (HO.frz ⟨.type "list", none, .seq vs.toArray 0, #[]⟩ (.lst (ns.map V.int))) else none) (fun b => ?_) (.inl (.inr ⟨_, if_pos rfl⟩)) (fun b u z => ?_) fun b u z => ⟨(at1 b u z).1, hk⟩
    · by_cases e : b = a
      · exact .inr ⟨_, _, if_pos e⟩
      · exact .inl (if_neg e)
    · obtain ⟨e1, e2⟩ := at1 b u z
      subst e1 e2
      exact ⟨ha, by rw [List.length_map]; exact hl, vs, _, rv, ha⟩
end
theorem walkG {l : PySem.W.OpenLaw} {n k : Nat} {q : Program} {loose : List Str} {XP : (Str → Option Value) → Heap → Prop} {YP : World → Heap → Prop} {d : DefRec} {x : Str} (hn : l.most = some n) (hn2 : n ≤ sizeLine) (hdf : d.params.defaults = []) (hr : Room k callerA)
    (F : ∀ (w : World) (mg : Str → Option Value) (fa : Addr) (h : Heap), YP w h → h.Ns mainGlobals mg → mg d.name = some (.ref fa) → ∃ (K : PySem.W.Frag) (fd : FuncData) (sp : Sp), K.In h ∧ (∀ (s : Shared) (u : Value), BindsTo s fd ⟨[u], []⟩ [(x, u)]) ∧
      (∀ (H : Hp) (a : Addr) (ns : List Int), ns.length ≤ n → Only H → SqL K H a (ns.map V.int) → sp [.ref a] H (fun v _ => v = .bl true) E0) ∧ ∀ base : Heap, K.In base → base.Ns mainGlobals mg → FnG l.prog w K mg base k fa fd [x] sp) :
    PySem.W.WalkO q loose XP YP l.row.toRowW d [] (fun f vs => PySem.call f vs) := by
  refine Att.attach_call hn hdf ?_
  intro w s₀ s₁ mg mb fa o pm cd doc a vs ns G Y ho hd hcd hmg hobj hints hlen hg
  obtain ⟨K, fd, sp, KX, hb, hsp, hF⟩ := F w mg fa _ Y G.T.g hmg
  exact lawG KX G.T.g G.T.b G.T.builtins G.T.nolimit hg hobj hints (Nat.le_trans hlen hn2) hr hF hb fun H hO hS => hsp H a ns hlen hO hS
/-! ### repr of a list of two small numbers -/
def repr2 (i : Nat) : PySem.Str := (PyData.list [.int i, .int i]).shown
theorem repr2_ok : ∀ i : Nat, i < 13 → (PyData.list [.int (i : Int), .int (i : Int)]).showable = true ∧ (repr2 i).length ≤ 100 := by decide +kernel
theorem cr_repr2 {X : Cx} (hgu : X.A.guards = some []) (hu : X.A.units + 64 < cLine) : CallR X (.builtin "repr") (fun xs H Q => ∃ (a : Addr) (i : Nat), xs = [.ref a] ∧ SqL X.K H a [.int i, .int i] ∧ i < 13 ∧ Q (.str (repr2 i)) H) := by
  intro pins s σ H xs us Q I r h
  obtain ⟨a, i, rfl, hs, hi, q⟩ := h
  obtain ⟨h1, h2⟩ := repr2_ok i hi
  obtain ⟨as, R⟩ := Dp.reads I (PyData.list [.int (i : Int), .int (i : Int)]) (.ref a) (.ref a) (.lst hs (.cons (.int i) (.cons (.int i) .nil))) rfl
  rw [Vals.ref1 r]
  refine repr_of_reads' R h1 (fun z => by cases z) hgu ?_ (fun _ _ e => e) (fun h' u tk hk => ⟨.str (repr2 i), H, I.kept hk, ⟨u, rfl⟩, q⟩) ?_
  · have : (PyData.list [.int (i : Int), .int (i : Int)]).depth ≤ 3 := by simp [PyData.depth, PyData.depthAll]
    omega
  · have : (100 : Nat) ≤ sizeLine := by decide
    exact Nat.le_trans h2 this
end K30

namespace K30
open PySem PySem.Spec PyProof.Rows L2
/-! ### the text by places -/
def topS (i : Nat) : Stmt := PySem.Challenge.pw_swapkinds_k30_whole_moves_by_search.main.body.getD i (.Pass ⟨0, 0, 0, 0⟩)
abbrev FnP (K : PySem.W.Frag) (x q : Str) (st : Stmt) (f : Addr) (fd : FuncData) : Prop := FunD K x q (defArgs st) (defBody st) (defScope st) [] [] f fd
/-- how a def without defaults binds -/
abbrev BindsAs (x q : Str) (st : Stmt) (ps : List Str) : Prop := ∀ (kV doc pm : Value) (an : Option Addr) (cdv ct : Value) (us : List Value), us.length = ps.length → bindArgs (PySem.W.fnOf x q (defArgs st) (defBody st) (defScope st) .none kV doc pm an cdv ct) ⟨us, []⟩ = pure (ps.zip us)
def Def (K : PySem.W.Frag) (mg : Str → Option Value) (x : Str) (st : Stmt) : Prop := ∃ f fd, FnP K x x st f fd ∧ mg x = some (.ref f)
def Met (K : PySem.W.Frag) (C : Addr) (m q : Str) (st : Stmt) : Prop := ∃ f fd, FnP K m q st f fd ∧ Meth K C m f
def Ini (K : PySem.W.Frag) (mg : Str → Option Value) (x : Str) (C : Addr) (q : Str) (st : Stmt) : Prop := ∃ f fd, FnP K "__init__" q st f fd ∧ Mk K C f ∧ mg x = some (.ref C)
/-! ### what the walk needs of the module -/
structure Txt (K : PySem.W.Frag) (mg : Str → Option Value) : Prop where
  cls_Arc : Cls K (He.ga K "Arc")
  na_Arc_tail : NoAttr K (He.ga K "Arc") "tail"
  na_Arc_head : NoAttr K (He.ga K "Arc") "head"
  na_Arc_cost : NoAttr K (He.ga K "Arc") "cost"
  na_Arc_room : NoAttr K (He.ga K "Arc") "room"
  na_Arc_flow : NoAttr K (He.ga K "Arc") "flow"
  cls_Step : Cls K (He.ga K "Step")
  na_Step_arc : NoAttr K (He.ga K "Step") "arc"
  na_Step_begin : NoAttr K (He.ga K "Step") "begin"
  na_Step_end : NoAttr K (He.ga K "Step") "end"
  na_Step_cost : NoAttr K (He.ga K "Step") "cost"
  na_Step_sign : NoAttr K (He.ga K "Step") "sign"
  na_Step_rest : NoAttr K (He.ga K "Step") "rest"
  cls_Transport : Cls K (He.ga K "Transport")
  na_Transport_nodes : NoAttr K (He.ga K "Transport") "nodes"
  na_Transport_hard : NoAttr K (He.ga K "Transport") "hard"
  na_Transport_softs : NoAttr K (He.ga K "Transport") "softs"
  na_Transport_arcs : NoAttr K (He.ga K "Transport") "arcs"
  na_Transport_rest : NoAttr K (He.ga K "Transport") "rest"
  na_Transport_done : NoAttr K (He.ga K "Transport") "done"
  cls_Threes : Cls K (He.ga K "Threes")
  na_Threes_rings : NoAttr K (He.ga K "Threes") "rings"
  na_Threes_steps : NoAttr K (He.ga K "Threes") "steps"
  na_Threes_transport : NoAttr K (He.ga K "Threes") "transport"
  ini_Arc : Ini K mg "Arc" (He.ga K "Arc") "Arc.__init__" (inClass (topS 2) 0)
  ini_Step : Ini K mg "Step" (He.ga K "Step") "Step.__init__" (inClass (topS 3) 0)
  ini_Transport : Ini K mg "Transport" (He.ga K "Transport") "Transport.__init__" (inClass (topS 7) 0)
  ini_Threes : Ini K mg "Threes" (He.ga K "Threes") "Threes.__init__" (inClass (topS 59) 0)
  ini_Yard : Ini K mg "Yard" (He.ga K "Yard") "Yard.__init__" (inClass (topS 46) 1)
  met_push : Met K (He.ga K "Transport") "push" "Transport.push" (inClass (topS 7) 1)
  met_fill_softs : Met K (He.ga K "Transport") "fill_softs" "Transport.fill_softs" (inClass (topS 7) 2)
  met_carry_all : Met K (He.ga K "Transport") "carry_all" "Transport.carry_all" (inClass (topS 7) 3)
  met_next_source : Met K (He.ga K "Transport") "next_source" "Transport.next_source" (inClass (topS 7) 4)
  met_spent : Met K (He.ga K "Transport") "spent" "Transport.spent" (inClass (topS 7) 5)
  met_ends_of : Met K (He.ga K "Threes") "ends_of" "Threes.ends_of" (inClass (topS 59) 1)
  met_most : Met K (He.ga K "Threes") "most" "Threes.most" (inClass (topS 59) 2)
  met_out : Met K (He.ga K "Yard") "out" "Yard.out" (inClass (topS 46) 6)
  met_size : Met K (He.ga K "Yard") "size" "Yard.size" (inClass (topS 46) 7)
  def_steps_on : Def K mg "steps_on" (topS 4)
  def_distances : Def K mg "distances" (topS 5)
  def_way_back : Def K mg "way_back" (topS 6)
  def_is_integer : Def K mg "is_integer" (topS 25)
  def_is_count : Def K mg "is_count" (topS 26)
  def_is_name : Def K mg "is_name" (topS 27)
  def_check_kinds : Def K mg "check_kinds" (topS 32)
  def_is_row : Def K mg "is_row" (topS 33)
  def_check_rows : Def K mg "check_rows" (topS 34)
  def_lopsided : Def K mg "lopsided" (topS 35)
  def_check_yard : Def K mg "check_yard" (topS 51)
  def_rings_of : Def K mg "rings_of" (topS 55)
  def_steps_of : Def K mg "steps_of" (topS 56)
  def_is_upper : Def K mg "is_upper" (topS 58)
  def_moves_of : Def K mg "moves_of" (topS 60)
  def_least_moves : Def K mg "least_moves" (topS 61)
  def_law_well : Def K mg "_law_well" (topS 63)
  def_law_draw : Def K mg "_law_draw" (topS 64)
  def_law_pick : Def K mg "_law_pick" (topS 65)
  def_law_rings : Def K mg "_law_rings" (topS 66)
  def_law_steps : Def K mg "_law_steps" (topS 67)
  def_law_laid : Def K mg "_law_laid" (topS 68)
  def_law_tags : Def K mg "_law_tags" (topS 69)
  def_law_frozen : Def K mg "_law_frozen" (topS 70)
  def_law_out : Def K mg "_law_out" (topS 71)
  def_law_swaps_from : Def K mg "_law_swaps_from" (topS 72)
  def_law_moves_from : Def K mg "_law_moves_from" (topS 73)
  def_law_turned : Def K mg "_law_turned" (topS 74)
  def_law_rounds : Def K mg "_law_rounds" (topS 75)
  def_law_right : Def K mg "_law_right" (topS 76)
  fr_len : mg "len" = none
  fr_list : mg "list" = none
  fr_tuple : mg "tuple" = none
  fr_zip : mg "zip" = none
  fr_range : mg "range" = none
  fr_enumerate : mg "enumerate" = none
  fr_isinstance : mg "isinstance" = none
  fr_int : mg "int" = none
  fr_bool : mg "bool" = none
  fr_str : mg "str" = none
  fr_sum : mg "sum" = none
  fr_all : mg "all" = none
  fr_min : mg "min" = none
  fr_abs : mg "abs" = none
  fr_divmod : mg "divmod" = none
  fr_repr : mg "repr" = none
  int_MOST_KINDS : ∃ t, mg "MOST_KINDS" = some (.int 4 t)
  int_MOST_COUNT : ∃ t, mg "MOST_COUNT" = some (.int 1000000000000000000000000000000 t)
  str_DIGITS : ∃ t, mg "DIGITS" = some (.str "0123456789" t)
  str_LETTERS : ∃ t, mg "LETTERS" = some (.str "abcdefghijklmnopqrstuvwxyz" t)
  scls : SlX.SCls K (He.ga K "Yard")
  sisi : SlX.SIsi K (He.ga K "Yard")
  slot0 : SlX.Slot1 K (He.ga K "Yard") "shape" (He.ma K (He.ga K "Yard") "shape") 1
  slot1 : SlX.Slot1 K (He.ga K "Yard") "body" (He.ma K (He.ga K "Yard") "body") 0
  kit_Yard : PySem.W.kitOne K (.ref (He.ga K "Yard")) (.ref (He.ga K "Yard")) = some true
  mg_Yard : mg "Yard" = some (.ref (He.ga K "Yard"))
/-! ### what may be called -/
def Cal (P : Program) (w : World) (K : PySem.W.Frag) (mg : Str → Option Value) (base : Heap) (k : Nat) (x : Str) (ps : List Str) (sp : Sp) : Prop :=
  ∃ f fd, FnOk P w K mg base CX0 k f fd ps sp ∧ Binds K fd ps [] ∧ mg x = some (.ref f) ∧ PySem.W.keepIn K (.ref f) = true
def MCal (P : Program) (w : World) (K : PySem.W.Frag) (mg : Str → Option Value) (base : Heap) (k : Nat) (C : Addr) (m : Str) (ps : List Str) (sp : Sp) : Prop :=
  ∃ f fd, FnOk P w K mg base CX0 k f fd ps sp ∧ Binds K fd ps [] ∧ Meth K C m f
def ICal (P : Program) (w : World) (K : PySem.W.Frag) (mg : Str → Option Value) (base : Heap) (k : Nat) (x : Str) (C : Addr) (ps : List Str) (sp : Sp) : Prop :=
  ∃ f fd, FnOk P w K mg base CX0 k f fd ps sp ∧ Binds K fd ps [] ∧ Mk K C f ∧ mg x = some (.ref C)
section
variable {P : Program} {w : World} {K : PySem.W.Frag} {mg : Str → Option Value} {base : Heap}
theorem Def.cal {k : Nat} {x : Str} {st : Stmt} {ps : List Str} {sp : Sp} (D : Def K mg x st) (b : BindsAs x x st ps) (h : ∀ f fd, FnP K x x st f fd → FnOk P w K mg base CX0 k f fd ps sp) : Cal P w K mg base k x ps sp := by
  obtain ⟨f, fd, F, m⟩ := D
  exact ⟨f, fd, h f fd F, F.bindsN b, m, F.kp⟩
theorem Met.cal {k : Nat} {C : Addr} {m q : Str} {st : Stmt} {ps : List Str} {sp : Sp} (D : Met K C m q st) (b : BindsAs m q st ps) (h : ∀ f fd, FnP K m q st f fd → FnOk P w K mg base CX0 k f fd ps sp) : MCal P w K mg base k C m ps sp := by
  obtain ⟨f, fd, F, me⟩ := D
  exact ⟨f, fd, h f fd F, F.bindsN b, me⟩
theorem Ini.cal {k : Nat} {x : Str} {C : Addr} {q : Str} {st : Stmt} {ps : List Str} {sp : Sp} (D : Ini K mg x C q st) (b : BindsAs "__init__" q st ps) (h : ∀ f fd, FnP K "__init__" q st f fd → FnOk P w K mg base CX0 k f fd ps sp) : ICal P w K mg base k x C ps sp := by
  obtain ⟨f, fd, F, mk, m⟩ := D
  exact ⟨f, fd, h f fd F, F.bindsN b, mk, m⟩
end
section
variable {X : Cx} {k : Nat} {C : Addr} {x m : Str} {ps : List Str} {sp : Sp} {p pos apos : Pos} {e o : Expr} {es : List Expr} {t : TA} {ta : TE}
theorem pe_cal (F : Cal X.prog X.w X.K X.mg X.base k x ps sp) (hr : Room k X.A) (hg : Gl X x) (ha : PA X (e :: es) t) (hdb : (x == ("__debug__" : Str)) = false := by decide) (he : starEach (e :: es) X.env = (false, eval e X.env) :: starEach es X.env := by rfl)
    (hpl : (backTo pos (starEach es X.env)).any (·.1) = false := by rfl) : PE X (.Call (.Name x p) (e :: es) [] pos) (tCall sp [] E0 t) := by
  obtain ⟨f, fd, G, b, mx, kp⟩ := F
  exact pe_call G hr hg mx kp b .nil pass0 ha hdb he hpl
theorem pe_ical (F : ICal X.prog X.w X.K X.mg X.base k x C ps sp) (hr : Room (k + 1) X.A) (hg : Gl X x) (ha : PA X (e :: es) t) (hdb : (x == ("__debug__" : Str)) = false := by decide) (he : starEach (e :: es) X.env = (false, eval e X.env) :: starEach es X.env := by rfl)
    (hpl : (backTo pos (starEach es X.env)).any (·.1) = false := by rfl) : PE X (.Call (.Name x p) (e :: es) [] pos) (tMake C sp [] E0 t) := by
  obtain ⟨f, fd, G, b, M, mx⟩ := F
  exact pe_make M G hr hg mx b .nil pass0 ha hdb he hpl
end
end K30

namespace K30
open PySem PySem.Spec PyProof.Rows L2
abbrev nV (n : Nat) : V := .int (n : Int)
def arcF (t : Tri) (f : Int) : List (Str × V) := [("tail", nV t.1), ("head", nV t.2.1), ("cost", .int t.2.2), ("room", .non), ("flow", .int f)]
def oV : Option Int → V
  | none => .non
  | some i => .int i
def stepF (a : Addr) (s : StepM) : List (Str × V) := [("arc", .ref a), ("begin", nV s.beg), ("end", nV s.fin), ("cost", .int s.cost), ("sign", .int s.sign), ("rest", oV s.rest)]
def forthS (i : Nat) (t : Tri) : StepM := ⟨i, t.1, t.2.1, t.2.2, 1, none⟩
def backS (i : Nat) (t : Tri) (f : Int) : StepM := ⟨i, t.2.1, t.1, -t.2.2, -1, some f⟩
section
variable {P : Program} {w : World} {K : PySem.W.Frag} {mg : Str → Option Value} {base : Heap}
abbrev cArc (K : PySem.W.Frag) : Addr := He.ga K "Arc"
abbrev cStep (K : PySem.W.Frag) : Addr := He.ga K "Step"
/-! ### Arc -/
abbrev sArc : Stmt := inClass (topS 2) 0
theorem scArc : FnScope ["self", "tail", "head", "cost", "room"] ["self", "tail", "head", "cost", "room"] (defScope sArc) := ⟨rfl, rfl, rfl, by decide +kernel, rfl, by decide +kernel, by decide +kernel⟩
def spArc (K : PySem.W.Frag) : Sp := fun vs H Q _ => ∃ (p dx : Addr) (t : Tri), vs = [.ref p, nV t.1, nV t.2.1, .int t.2.2, .non] ∧ H p = some (.ins (cArc K) dx []) ∧ Q .non (upd H p (.ins (cArc K) dx (arcF t 0)))
theorem cal_arc (T : Txt K mg) : ICal P w K mg base 1 "Arc" (cArc K) ["self", "tail", "head", "cost", "room"] (spArc K) := by
  refine T.ini_Arc.cal (fun _ _ _ _ _ _ us hl => match us, hl with | [_, _, _, _, _], _ => rfl) fun f fd F => F.ok scArc (fun vs H Q E h => ?_) fun cdv A outer s H vs Q E hr h => ?_
  · obtain ⟨p, dx, t, rfl, _⟩ := h
    rfl
  · obtain ⟨p, dx, t, rfl, hp, q⟩ := h
    refine ⟨_, PSs.nox (pss_cons (ps_fld (pv 0) (pv 1) rfl) (pss_cons (ps_fld (pv 0) (pv 2) rfl) (pss_cons (ps_fld (pv 0) (pv 3) rfl) (pss_cons (ps_fld (pv 0) (pv 4) rfl) (pss_one (ps_fld (pv 0) pe_int rfl)))))), ?_⟩
    refine ⟨_, rfl, _, rfl, p, _, dx, _, rfl, hp, T.cls_Arc, T.na_Arc_tail, (by show 0 < 1000; decide), ?_⟩
    refine ⟨_, rfl, _, rfl, p, _, dx, _, rfl, upd_same, T.cls_Arc, T.na_Arc_head, (by show 1 < 1000; decide), ?_⟩
    refine ⟨_, rfl, _, rfl, p, _, dx, _, rfl, upd_same, T.cls_Arc, T.na_Arc_cost, (by show 2 < 1000; decide), ?_⟩
    refine ⟨_, rfl, _, rfl, p, _, dx, _, rfl, upd_same, T.cls_Arc, T.na_Arc_room, (by show 3 < 1000; decide), ?_⟩
    refine ⟨_, rfl, p, _, dx, _, rfl, upd_same, T.cls_Arc, T.na_Arc_flow, (by show 4 < 1000; decide), ?_⟩
    rw [upd_upd, upd_upd, upd_upd, upd_upd]
    exact q
/-! ### Step -/
abbrev sStep : Stmt := inClass (topS 3) 0
theorem scStep : FnScope ["self", "arc", "forth"] ["self", "arc", "forth"] (defScope sStep) := ⟨rfl, rfl, rfl, by decide +kernel, rfl, by decide +kernel, by decide +kernel⟩
def spStep (K : PySem.W.Frag) : Sp := fun vs H Q _ => ∃ (p dx a da : Addr) (t : Tri) (f : Int) (b : Bool), vs = [.ref p, .ref a, .bl b] ∧ H p = some (.ins (cStep K) dx []) ∧ H a = some (.ins (cArc K) da (arcF t f)) ∧ a ≠ p ∧
  Q .non (upd H p (.ins (cStep K) dx (stepF a (if b then forthS 0 t else backS 0 t f))))
theorem cal_step (T : Txt K mg) : ICal P w K mg base 1 "Step" (cStep K) ["self", "arc", "forth"] (spStep K) := by
  refine T.ini_Step.cal (fun _ _ _ _ _ _ us hl => match us, hl with | [_, _, _], _ => rfl) fun f fd F => F.ok scStep (fun vs H Q E h => ?_) fun cdv A outer s H vs Q E hr h => ?_
  · obtain ⟨p, dx, a, da, t, f, b, rfl, _⟩ := h
    rfl
  · obtain ⟨p, dx, a, da, t, f, b, rfl, hp, ha, ne, q⟩ := h
    refine ⟨_, PSs.nox (pss_cons (ps_fld (pv 0) (pv 1) rfl)
      (pss_cons (ps_fld (pv 0) (pe_ifExp (pt_val (pv 2)) (pe_fld (pv 1) rfl) (pe_fld (pv 1) rfl)) rfl)
      (pss_cons (ps_fld (pv 0) (pe_ifExp (pt_val (pv 2)) (pe_fld (pv 1) rfl) (pe_fld (pv 1) rfl)) rfl)
      (pss_cons (ps_fld (pv 0) (pe_ifExp (pt_val (pv 2)) (pe_fld (pv 1) rfl) (pe_un un_neg (pe_fld (pv 1) rfl))) rfl)
      (pss_cons (ps_fld (pv 0) (pe_ifExp (pt_val (pv 2)) pe_int (pe_un un_neg pe_int)) rfl)
      (pss_one (ps_fld (pv 0) (pe_ifExp (pt_not (pt_val (pv 2))) (pe_fld (pv 1) rfl) (pe_ifExp (pt_cmpR op_isN (pe_fld (pv 1) rfl) pe_non (nomark _)) pe_non (pe_op op_sub (pe_fld (pv 1) rfl) (pe_fld (pv 1) rfl)))) rfl))))))), ?_⟩
    have st : ∀ {u : HO}, upd H p u a = some (.ins (cArc K) da (arcF t f)) := fun {u} => by
      rw [upd_ne ne]
      exact ha
    refine ⟨_, rfl, _, rfl, p, _, dx, _, rfl, hp, T.cls_Step, T.na_Step_arc, (by show 0 < 1000; decide), ?_⟩
    cases b with
    | true =>
      refine ⟨_, rfl, true, rfl, iteT ⟨_, rfl, a, _, da, _, _, rfl, st, T.cls_Arc, T.na_Arc_tail, rfl, ?_⟩⟩
      refine ⟨_, rfl, p, _, dx, _, rfl, upd_same, T.cls_Step, T.na_Step_begin, (by show 1 < 1000; decide), ?_⟩
      rw [upd_upd]
      refine ⟨_, rfl, true, rfl, iteT ⟨_, rfl, a, _, da, _, _, rfl, st, T.cls_Arc, T.na_Arc_head, rfl, ?_⟩⟩
      refine ⟨_, rfl, p, _, dx, _, rfl, upd_same, T.cls_Step, T.na_Step_end, (by show 2 < 1000; decide), ?_⟩
      rw [upd_upd]
      refine ⟨_, rfl, true, rfl, iteT ⟨_, rfl, a, _, da, _, _, rfl, st, T.cls_Arc, T.na_Arc_cost, rfl, ?_⟩⟩
      refine ⟨_, rfl, p, _, dx, _, rfl, upd_same, T.cls_Step, T.na_Step_cost, (by show 3 < 1000; decide), ?_⟩
      rw [upd_upd]
      refine ⟨_, rfl, true, rfl, iteT ?_⟩
      refine ⟨_, rfl, p, _, dx, _, rfl, upd_same, T.cls_Step, T.na_Step_sign, (by show 4 < 1000; decide), ?_⟩
      rw [upd_upd]
      refine ⟨_, rfl, true, rfl, iteF ?_⟩
      refine ⟨_, rfl, a, _, da, _, _, rfl, st, T.cls_Arc, T.na_Arc_room, rfl, ⟨rfl, true, rfl, iteT ?_⟩⟩
      refine ⟨_, rfl, p, _, dx, _, rfl, upd_same, T.cls_Step, T.na_Step_rest, (by show 5 < 1000; decide), ?_⟩
      rw [upd_upd]
      exact q
    | false =>
      refine ⟨_, rfl, false, rfl, iteF ⟨_, rfl, a, _, da, _, _, rfl, st, T.cls_Arc, T.na_Arc_head, rfl, ?_⟩⟩
      refine ⟨_, rfl, p, _, dx, _, rfl, upd_same, T.cls_Step, T.na_Step_begin, (by show 1 < 1000; decide), ?_⟩
      rw [upd_upd]
      refine ⟨_, rfl, false, rfl, iteF ⟨_, rfl, a, _, da, _, _, rfl, st, T.cls_Arc, T.na_Arc_tail, rfl, ?_⟩⟩
      refine ⟨_, rfl, p, _, dx, _, rfl, upd_same, T.cls_Step, T.na_Step_end, (by show 2 < 1000; decide), ?_⟩
      rw [upd_upd]
      refine ⟨_, rfl, false, rfl, iteF ⟨_, rfl, a, _, da, _, _, rfl, st, T.cls_Arc, T.na_Arc_cost, rfl, ⟨_, rfl, ?_⟩⟩⟩
      refine ⟨_, rfl, p, _, dx, _, rfl, upd_same, T.cls_Step, T.na_Step_cost, (by show 3 < 1000; decide), ?_⟩
      rw [upd_upd]
      refine ⟨_, rfl, false, rfl, iteF ⟨_, rfl, ?_⟩⟩
      refine ⟨_, rfl, p, _, dx, _, rfl, upd_same, T.cls_Step, T.na_Step_sign, (by show 4 < 1000; decide), ?_⟩
      rw [upd_upd]
      refine ⟨_, rfl, false, rfl, iteT ⟨_, rfl, a, _, da, _, _, rfl, st, T.cls_Arc, T.na_Arc_flow, rfl, ?_⟩⟩
      refine ⟨_, rfl, p, _, dx, _, rfl, upd_same, T.cls_Step, T.na_Step_rest, (by show 5 < 1000; decide), ?_⟩
      rw [upd_upd]
      exact q
end
end K30

namespace K30
open PySem PySem.Spec PyProof.Rows L2
/-! ### what stays -/
def Ext (H H' : Hp) : Prop := ∀ p o, H p = some o → H' p = some o
theorem Ext.refl {H : Hp} : Ext H H := fun _ _ h => h
theorem Ext.trans {H H' H'' : Hp} (a : Ext H H') (b : Ext H' H'') : Ext H H'' := fun p o h => b p o (a p o h)
theorem Ext.nil {H H' : Hp} {p : Addr} (e : Ext H H') (h : H' p = none) : H p = none := by
  cases e1 : H p with
  | none => rfl
  | some o => rw [e p o e1] at h; cases h
theorem Ext.put {H H' : Hp} {p : Addr} {u : HO} (e : Ext H H') (h : H p = none) : Ext H (upd H' p u) := fun q o hq => by
  have n : q ≠ p := fun c => by subst c; rw [h] at hq; cases hq
  rw [upd_ne n]
  exact e q o hq
theorem Ext.new {H H' : Hp} {p : Addr} {u : HO} (e : Ext H H') (h : H' p = none) : Ext H (upd H' p u) := e.put (e.nil h)
theorem Ext.one {H : Hp} {p : Addr} {u : HO} (h : H p = none) : Ext H (upd H p u) := Ext.refl.put h
def Frm (S : Addr → Prop) (H H' : Hp) : Prop := ∀ p o, H p = some o → ¬ S p → H' p = some o
theorem Frm.trans {S : Addr → Prop} {H H' H'' : Hp} (a : Frm S H H') (b : Frm S H' H'') : Frm S H H'' := fun p o h n => b p o (a p o h n) n
theorem Ext.frm {S : Addr → Prop} {H H' : Hp} (e : Ext H H') : Frm S H H' := fun p o h _ => e p o h
theorem Frm.put {S : Addr → Prop} {H H' : Hp} {p : Addr} {u : HO} (e : Frm S H H') (s : S p) : Frm S H (upd H' p u) := fun q o hq n => by
  rw [upd_ne (fun c : q = p => n (by rw [c]; exact s))]
  exact e q o hq n
theorem Frm.fresh {S : Addr → Prop} {H H' : Hp} {p : Addr} {u : HO} (e : Frm S H H') (h : H p = none) : Frm S H (upd H' p u) := fun q o hq n => by
  have n2 : q ≠ p := fun c => by subst c; rw [h] at hq; cases hq
  rw [upd_ne n2]
  exact e q o hq n
/-- one place changes -/
def Chg (l : Addr) (H H' : Hp) : Prop := ∀ q, q ≠ l → H' q = H q
theorem Ext.chg {H H' H'' : Hp} {l : Addr} (e : Ext H H') (h : H l = none) (c : Chg l H' H'') : Ext H H'' := fun q o hq => by
  rw [c q (ne_of_none hq h)]
  exact e q o hq
theorem Frm.chg {S : Addr → Prop} {H H' H'' : Hp} {l : Addr} (e : Frm S H H') (s : S l ∨ H l = none) (c : Chg l H' H'') : Frm S H H'' := fun q o hq n => by
  rw [c q (fun k => by rcases s with s | s; exact n (by rw [k]; exact s); rw [k, s] at hq; cases hq)]
  exact e q o hq n
theorem chg_upd {l : Addr} {H : Hp} {u : HO} : Chg l H (upd H l u) := fun q n => upd_ne n
theorem upd_eq {H H' : Hp} {l : Addr} {u : HO} (e : upd H l u = H') : H' l = some u ∧ Chg l H H' := by
  subst e
  exact ⟨upd_same, chg_upd⟩
theorem peImp {X : Cx} {e : Expr} {t t' : TE} (h : PE X e t) (m : ∀ σ H Q, t' σ H Q → t σ H Q) : PE X e t' := ⟨fun pins s σ H Q I q => h.run pins s σ H Q I (m σ H Q q)⟩
theorem psImp {X : Cx} {e : Stmt} {t t' : TS} (h : PS X e t) (m : ∀ D σ H, t' D σ H → t D σ H) : PS X e t' := ⟨fun pins s σ H Q I q => h.run pins s σ H Q I (m Q σ H q)⟩
theorem paired_get {α β : Type} {F : α → β → Prop} : ∀ {l : List α} {m : List β}, Paired F l m → ∀ {i : Nat} {x : α} {y : β}, l[i]? = some x → m[i]? = some y → F x y
  | _, _, .nil, i, x, y, h, _ => by simp at h
  | _, _, .cons a r, 0, x, y, h, k => by
    simp at h k
    subst h; subst k
    exact a
  | _, _, .cons a r, i + 1, x, y, h, k => by
    simp at h k
    exact paired_get r h k
theorem paired_len {α β : Type} {F : α → β → Prop} : ∀ {l : List α} {m : List β}, Paired F l m → l.length = m.length
  | _, _, .nil => rfl
  | _, _, .cons _ r => by simp [paired_len r]
theorem paired_snoc {α β : Type} {F : α → β → Prop} {x : α} {y : β} (h : F x y) : ∀ {l : List α} {m : List β}, Paired F l m → Paired F (l ++ [x]) (m ++ [y])
  | _, _, .nil => .cons h .nil
  | _, _, .cons a r => .cons a (paired_snoc h r)
theorem getD_some {α : Type} {l : List α} {i : Nat} {x d : α} (h : l[i]? = some x) : l.getD i d = x := by simp [List.getD, h]
theorem get_of_lt {α : Type} {l : List α} {i : Nat} (h : i < l.length) : ∃ x, l[i]? = some x := ⟨l[i], List.getElem?_eq_getElem h⟩
theorem drop_cons {α : Type} {l : List α} {i : Nat} {x : α} (h : l[i]? = some x) : l.drop i = x :: l.drop (i + 1) := by
  have hl : i < l.length := by
    rcases Nat.lt_or_ge i l.length with c | c
    · exact c
    · rw [List.getElem?_eq_none c] at h; cases h
  rw [List.drop_eq_getElem_cons hl]
  rw [List.getElem?_eq_getElem hl] at h
  cases h
  rfl
theorem drop_len {α : Type} (l : List α) : l.drop l.length = [] := by simp
theorem map_get {α β : Type} {f : α → β} {l : List α} {i : Nat} {y : β} (h : (l.map f)[i]? = some y) : ∃ x, l[i]? = some x ∧ y = f x := by
  rw [List.getElem?_map] at h
  cases e : l[i]? with
  | none => rw [e] at h; cases h
  | some x => rw [e] at h; exact ⟨x, rfl, by simpa using h.symm⟩
end K30

namespace K30
open PySem PySem.Spec PyProof.Rows L2
theorem iteD {c A B : Prop} [Decidable c] (h : c) (a : A) : if decide c = true then A else B := by
  rw [decide_eq_true h]
  exact iteT a
theorem iteN {c A B : Prop} [Decidable c] (h : ¬ c) (b : B) : if decide c = true then A else B := by
  rw [decide_eq_false h]
  exact iteF b
section
variable {P : Program} {w : World} {K : PySem.W.Frag} {mg : Str → Option Value} {base : Heap}
def ArcP (K : PySem.W.Frag) (H : Hp) (a : Addr) (t : Tri) (f : Int) : Prop := ∃ dx, H a = some (.ins (cArc K) dx (arcF t f))
structure ArcsAt (K : PySem.W.Frag) (H : Hp) (as : List Addr) (ts : List Tri) (fl : List Int) : Prop where
  len : as.length = ts.length
  lenf : fl.length = ts.length
  at_ : ∀ {i : Nat} {a : Addr} {t : Tri} {f : Int}, as[i]? = some a → ts[i]? = some t → fl[i]? = some f → ArcP K H a t f
theorem ArcsAt.mono {H H' : Hp} {as : List Addr} {ts : List Tri} {fl : List Int} (h : ArcsAt K H as ts fl) (m : ∀ a ∈ as, ∀ o, H a = some o → H' a = some o) : ArcsAt K H' as ts fl :=
  ⟨h.len, h.lenf, fun {i a t f} ha ht hf => let ⟨dx, e⟩ := h.at_ ha ht hf; ⟨dx, m a (List.mem_of_getElem? ha) _ e⟩⟩
theorem ArcsAt.ext {H H' : Hp} {as : List Addr} {ts : List Tri} {fl : List Int} (h : ArcsAt K H as ts fl) (e : Ext H H') : ArcsAt K H' as ts fl := h.mono fun a _ o k => e a o k
/-- the parts of arc i -/
theorem ArcsAt.get {H : Hp} {as : List Addr} {ts : List Tri} {fl : List Int} (h : ArcsAt K H as ts fl) {i : Nat} {a : Addr} (ha : as[i]? = some a) : ∃ t f, ts[i]? = some t ∧ fl[i]? = some f ∧ ArcP K H a t f := by
  have hi : i < as.length := (List.getElem?_eq_some_iff.mp ha).1
  obtain ⟨t, ht⟩ := get_of_lt (l := ts) (i := i) (h.len ▸ hi)
  obtain ⟨f, hf⟩ := get_of_lt (l := fl) (i := i) (by rw [h.lenf, ← h.len]; exact hi)
  exact ⟨t, f, ht, hf, h.at_ ha ht hf⟩
def StepP (K : PySem.W.Frag) (H : Hp) (as : List Addr) (p : Addr) (s : StepM) : Prop := ∃ dx a, as[s.arc]? = some a ∧ H p = some (.ins (cStep K) dx (stepF a s))
abbrev StepsAt (K : PySem.W.Frag) (H : Hp) (as : List Addr) : List Addr → List StepM → Prop := Paired (StepP K H as)
theorem stepP_mono {H H' : Hp} {as : List Addr} (m : ∀ p dx fs, H p = some (.ins (cStep K) dx fs) → H' p = some (.ins (cStep K) dx fs)) {p : Addr} {s : StepM} (h : StepP K H as p s) : StepP K H' as p s :=
  let ⟨dx, a, e, k⟩ := h
  ⟨dx, a, e, m _ _ _ k⟩
theorem stepsGo_cons {i : Nat} {t : Tri} {f : Int} {ts : List Tri} {fl : List Int} : stepsGo i (t :: ts) (f :: fl) = forthS i t :: ((if 0 < f then [backS i t f] else []) ++ stepsGo (i + 1) ts fl) := rfl
theorem stepsGo_len : ∀ {ts : List Tri} {fl : List Int} {i : Nat}, (stepsGo i ts fl).length ≤ 2 * ts.length
  | [], _, _ => by simp [stepsGo]
  | _ :: _, [], _ => by simp [stepsGo]
  | t :: ts, f :: fl, i => by
    rw [stepsGo_cons]
    have := @stepsGo_len ts fl (i + 1)
    split <;> simp <;> omega
theorem spStep_mk {H : Hp} {x dx a da : Addr} {t : Tri} {f : Int} {b : Bool} {Q : Hp → Prop} {E : XK} (nx : H x = none) (ndx : H dx = none) (ha : H a = some (.ins (cArc K) da (arcF t f)))
    (k : ∀ H', Ext H H' → H' x = some (.ins (cStep K) dx (stepF a (if b then forthS 0 t else backS 0 t f))) → Q H') :
    spStep K [.ref x, .ref a, .bl b] (upd (upd H dx (.own x)) x (.ins (cStep K) dx [])) (fun v H2 => v = .non ∧ Q H2) E := by
  refine ⟨x, dx, a, da, t, f, b, rfl, upd_same, ((Ext.one ndx).put nx) _ _ ha, ne_of_none ha nx, rfl, ?_⟩
  rw [upd_upd]
  exact k _ ((Ext.one ndx).put nx) upd_same
theorem spArc_mk {H : Hp} {x dx : Addr} {t : Tri} {Q : Hp → Prop} {E : XK} (nx : H x = none) (ndx : H dx = none)
    (k : ∀ H', Ext H H' → H' x = some (.ins (cArc K) dx (arcF t 0)) → Q H') :
    spArc K [.ref x, nV t.1, nV t.2.1, .int t.2.2, .non] (upd (upd H dx (.own x)) x (.ins (cArc K) dx [])) (fun v H2 => v = .non ∧ Q H2) E := by
  refine ⟨x, dx, t, rfl, upd_same, rfl, ?_⟩
  rw [upd_upd]
  exact k _ ((Ext.one ndx).put nx) upd_same
/-! ### steps_on -/
theorem scSteps : FnScope ["arcs", "found", "arc"] ["arcs"] (defScope (topS 4)) := ⟨rfl, rfl, rfl, by decide +kernel, rfl, by decide +kernel, by decide +kernel⟩
def spSteps (K : PySem.W.Frag) : Sp := fun vs H Q _ => ∃ (l : Addr) (as : List Addr) (ts : List Tri) (fl : List Int), vs = [.ref l] ∧ H l = some (.lst (as.map V.ref)) ∧ ArcsAt K H as ts fl ∧ as.length ≤ 100 ∧
  ∀ f ps H', Ext H H' → H f = none → H' f = some (.lst (ps.map V.ref)) → StepsAt K H' as ps (stepsGo 0 ts fl) → Q (.ref f) H'
theorem cal_steps (T : Txt K mg) : Cal P w K mg base 3 "steps_on" ["arcs"] (spSteps K) := by
  refine T.def_steps_on.cal (fun _ _ _ _ _ _ us hl => match us, hl with | [_], _ => rfl) fun f fd F => F.ok scSteps (fun vs H Q E h => ?_) fun cdv A outer s H vs Q E hr h => ?_
  · obtain ⟨l, as, ts, fl, rfl, _⟩ := h
    rfl
  · obtain ⟨l, as, ts, fl, rfl, hl, har, hsz, q⟩ := h
    have nd := scSteps.nd
    have cS : ICal P w K mg base 1 "Step" (cStep K) ["self", "arc", "forth"] (spStep K) := cal_step T
    refine ⟨_, PSs.nox (pss_cons (ps_set (i := 1) nd rfl (Or.inl rfl) (pe_lst pa_nil)) (pss_cons (ps_for PassesOwn.never rfl (pi_list (pv 0)) (pg_name (i := 2) nd rfl (Or.inl rfl))
      (pss_cons (ps_if (PW.pt (pw_or (pt_cmpR op_isN (pe_fld (pv 2) rfl) pe_non (nomark _)) (pw_or1 (pt_cmpR op_lt (pe_fld (pv 2) rfl) (pe_fld (pv 2) rfl) (nomark _)))))
        (pss_one (ps_expr (pe_bm PySem.F.plainAttrs_list PySem.F.slot_list_append PySem.F.type_list_append mt_append (pv 1) (pa_cons (pe_ical cS hr rfl (pa_cons (pv 2) (pa_cons pe_bl pa_nil))) pa_nil)))) pss_nil)
      (pss_one (ps_if (pt_cmpR op_gt (pe_fld (pv 2) rfl) pe_int (nomark _))
        (pss_one (ps_expr (pe_bm PySem.F.plainAttrs_list PySem.F.slot_list_append PySem.F.type_list_append mt_append (pv 1) (pa_cons (pe_ical cS hr rfl (pa_cons (pv 2) (pa_cons pe_bl pa_nil))) pa_nil)))) pss_nil)))) (pss_one (ps_ret (pv 1))))), ?_⟩
    refine ⟨by decide, fun f hf => ?_⟩
    refine ⟨_, rfl, l, rfl, ⟨_, .inl (.inl ((Ext.one hf) _ _ hl))⟩, ?_⟩
    refine for_list (xs := as.map V.ref) (fun i σ H' => ∃ z ps sm, σ = [some (.ref l), some (.ref f), z] ∧ Ext H H' ∧ H' f = some (.lst (ps.map V.ref)) ∧ StepsAt K H' as ps sm ∧ sm ++ stepsGo i (ts.drop i) (fl.drop i) = stepsGo 0 ts fl ∧ sm.length ≤ 2 * i) ⟨none, [], [], rfl, Ext.one hf, upd_same, .nil, rfl, by simp⟩ ?_ ?_ ?_
    · intro i σ H' hi ⟨z, ps, sm, e, ex, h1, h2, h3, h4⟩
      exact .inl (.inl (ex _ _ hl))
    · intro i x σ H' hx ⟨z, ps, sm, e, ex, h1, h2, h3, h4⟩
      subst e
      obtain ⟨a, ha, rfl⟩ := map_get hx
      obtain ⟨t, g, ht, hg, da, hA⟩ := har.get ha
      rw [drop_cons ht, drop_cons hg, stepsGo_cons] at h3
      have hi : i < as.length := (List.getElem?_eq_some_iff.mp ha).1
      have pl := paired_len h2
      have c1 : H' a = some (.ins (cArc K) da (arcF t g)) := ex _ _ hA
      refine ⟨_, rfl, a, _, da, _, _, rfl, c1, T.cls_Arc, T.na_Arc_room, rfl, ⟨rfl, true, rfl, iteT ?_⟩⟩
      refine iteT ⟨_, rfl, .inl ⟨rfl, _, SqL.of h1⟩, _, rfl, fun p dx np ndx ne => spStep_mk (t := t) (f := g) np ndx c1 fun H2 e2 hp => ⟨f, _, _, rfl, rfl, e2 _ _ h1, by rw [List.length_map, pl]; exact Nat.lt_of_le_of_lt h4 (by show _ < 16777216; omega), ?_⟩⟩
      generalize hu : upd H2 f (HO.lst (ps.map V.ref ++ [V.ref p])) = H3
      obtain ⟨h13, ch⟩ := upd_eq hu
      have e3 : Ext H H3 := (ex.trans e2).chg hf ch
      have st3 : StepsAt K H3 as (ps ++ [p]) (sm ++ [forthS i t]) := paired_snoc ⟨dx, a, ha, by rw [ch p (ne_of_none h1 np).symm]; exact hp⟩
        (pairedMono (fun b s hb => stepP_mono (fun q dq fs hq => by rw [ch q (ne_of hq h1 (by intro z; cases z))]; exact e2 _ _ hq) hb) h2)
      refine ⟨_, rfl, a, _, da, _, _, rfl, e3 _ _ hA, T.cls_Arc, T.na_Arc_flow, rfl, _, _, rfl, rfl, _, rfl, ?_⟩
      by_cases hg0 : g > 0
      · rw [if_pos hg0] at h3
        refine iteD hg0 ?_
        refine ⟨_, rfl, .inl ⟨rfl, _, SqL.of h13⟩, _, rfl, fun p2 dx2 np2 ndx2 ne2 => spStep_mk (t := t) (f := g) np2 ndx2 (e3 _ _ hA) fun H4 e4 hp2 => ⟨f, _, _, rfl, rfl, e4 _ _ h13, by simp only [List.length_append, List.length_map, List.length_cons, List.length_nil, pl]; show _ < 16777216; omega, ?_⟩⟩
        generalize hu2 : upd H4 f (HO.lst (ps.map V.ref ++ [V.ref p] ++ [V.ref p2])) = H5
        obtain ⟨h15, ch5⟩ := upd_eq hu2
        refine ⟨_, ps ++ [p] ++ [p2], sm ++ [forthS i t] ++ [backS i t g], rfl, (e3.trans e4).chg hf ch5, by rw [h15]; simp, ?_, by simpa using h3, by simp; omega⟩
        exact paired_snoc ⟨dx2, a, ha, by rw [ch5 p2 (ne_of_none h13 np2).symm]; exact hp2⟩ (pairedMono (fun b s hb => stepP_mono (fun q dq fs hq => by rw [ch5 q (ne_of hq h13 (by intro z; cases z))]; exact e4 _ _ hq) hb) st3)
      · rw [if_neg hg0] at h3
        refine iteN hg0 ?_
        exact ⟨_, ps ++ [p], sm ++ [forthS i t], rfl, e3, by rw [h13]; simp, st3, by simpa using h3, by simp; omega⟩
    · intro σ H' ⟨z, ps, sm, e, ex, h1, h2, h3, h4⟩
      subst e
      rw [List.length_map, har.len, drop_len] at h3
      simp [stepsGo] at h3
      exact ⟨_, rfl, q f ps H' ex hf h1 (h3 ▸ h2)⟩
end
end K30

namespace K30
open PySem PySem.Spec PyProof.Rows L2
theorem dc_range {lo : Int} {n : Nat} {g : TG} {tt : TT} {tk tv : TE} {vs : List Nat} {σ : L2.St} {H1 : Hp} {D : Addr} {Qd : Hp → Prop} (Pv : Nat → Hp → Prop) (h0 : Pv 0 (upd H1 D (.dK [])))
    (hs : ∀ i H, i < n → Pv i H → g (.int (lo + i)) (wipe σ vs) H fun σ2 H2 => wipe σ2 vs = wipe σ vs ∧ tt σ2 H2 fun b H3 =>
      if b = true then tk σ2 H3 fun y H4 => tv σ2 H4 fun z H5 => ∃ kvs k, y = kV k ∧ H5 D = some (.dK kvs) ∧ kvs.length < sizeLine ∧ Pv (i + 1) (upd H5 D (.dK (putK kvs k z))) else Pv (i + 1) H3) (hd : ∀ H, Pv n H → Qd H) :
    ∃ W : Nat → Nat → Hp → Prop, (∃ m, W 0 m (upd H1 D (.dK []))) ∧ ∀ i m H, W i m H →
      ((Itr lo n).stop i H ∧ Qd H) ∨ ((Itr lo n).go i H ∧ ∃ Nx : Hp → Prop, (∀ H', Nx H' → ∃ m', m' < m ∧ W (i + 1) m' H') ∧ ∀ x H', (Itr lo n).yld i H x H' → g x (wipe σ vs) H' fun σ2 H2 => wipe σ2 vs = wipe σ vs ∧ tt σ2 H2 fun b H3 =>
        if b = true then tk σ2 H3 fun y H4 => tv σ2 H4 fun z H5 => ∃ kvs k, y = kV k ∧ H5 D = some (.dK kvs) ∧ kvs.length < sizeLine ∧ Nx (upd H5 D (.dK (putK kvs k z))) else Nx H3) := by
  refine ⟨fun i m H => m = n - i ∧ i ≤ n ∧ Pv i H, ⟨n, by simp, Nat.zero_le _, h0⟩, ?_⟩
  rintro i m H ⟨rfl, hi, p⟩
  by_cases hlt : i < n
  · refine .inr ⟨hlt, Pv (i + 1), fun H' p' => ⟨n - (i + 1), by omega, rfl, hlt, p'⟩, fun x H' y => ?_⟩
    obtain ⟨e, y⟩ := y
    subst e y
    exact hs i _ hlt p
  · have e : i = n := by omega
    subst e
    exact .inl ⟨Nat.le_refl _, hd H p⟩
/-! ### tables of costs and of last steps -/
abbrev kN (j : Nat) : Key := Sum.inl (j : Int)
def CK (kvs : List (Key × V)) (l : List (Option Int)) : Prop := ∀ j : Nat, valV kvs (kN j) = (l.getD j none).map V.int
def LK (ps : List Addr) (kvs : List (Key × V)) (l : List (Option Nat)) : Prop := ∀ j : Nat, match l.getD j none with
  | none => valV kvs (kN j) = none
  | some i => ∃ p, ps[i]? = some p ∧ valV kvs (kN j) = some (.ref p)
theorem kN_ne {i j : Nat} (h : i ≠ j) : ¬ kN i = kN j := fun e => h (by injection e with e; omega)
theorem getD_set {α : Type} {l : List (Option α)} {i j : Nat} {x : Option α} (h : i < l.length) : (l.set i x).getD j none = if j = i then x else l.getD j none := by
  simp only [List.getD, List.getElem?_set]
  by_cases e : i = j
  · subst e; simp [h]
  · rw [if_neg e, if_neg (fun c => e c.symm)]
theorem CK.put {kvs : List (Key × V)} {l : List (Option Int)} {i : Nat} {x : Int} (h : CK kvs l) (hi : i < l.length) : CK (putK kvs (kN i) (.int x)) (l.set i (some x)) := fun j => by
  rw [valV_put, getD_set hi, h j]
  by_cases e : j = i
  · subst e; simp
  · rw [if_neg e, if_neg (kN_ne e)]
theorem LK.put {ps : List Addr} {kvs : List (Key × V)} {l : List (Option Nat)} {i k : Nat} {p : Addr} (h : LK ps kvs l) (hi : i < l.length) (hp : ps[k]? = some p) : LK ps (putK kvs (kN i) (.ref p)) (l.set i (some k)) := fun j => by
  rw [valV_put, getD_set hi]
  by_cases e : j = i
  · subst e
    simp only [if_true]
    exact ⟨p, hp, rfl⟩
  · rw [if_neg e, if_neg (kN_ne e)]
    exact h j
def DictC (H : Hp) (c : Addr) (l : List (Option Int)) (m : Nat) : Prop := ∃ kvs, H c = some (.dK kvs) ∧ CK kvs l ∧ kvs.length ≤ m
def DictL (H : Hp) (ps : List Addr) (c : Addr) (l : List (Option Nat)) (m : Nat) : Prop := ∃ kvs, H c = some (.dK kvs) ∧ LK ps kvs l ∧ kvs.length ≤ m
theorem DictC.get {H : Hp} {c : Addr} {l : List (Option Int)} {m : Nat} (h : DictC H c l m) (j : Nat) : DGet H c (nV j) ((l.getD j none).map V.int) := by
  obtain ⟨kvs, e, k, _⟩ := h
  rw [← k j]
  exact DGet.k (k := kN j) e
def initC (n : Nat) : Option Nat → List (Option Int)
  | none => List.replicate n (some 0)
  | some s => (List.replicate n none).set s (some 0)
theorem initC_len {n : Nat} {s : Option Nat} : (initC n s).length = n := by cases s <;> simp [initC]
def distS (n : Nat) (ss : List StepM) (src : Option Nat) : List (Option Int) × List (Option Nat) := distGo ss (n + 1) (initC n src) (List.replicate n none)
theorem ck_nil (n : Nat) : CK [] (List.replicate n none) := fun j => by
  rw [valV_nil]
  simp only [List.getD, List.getElem?_replicate]
  split <;> rfl
theorem lk_nil (ps : List Addr) (n : Nat) : LK ps [] (List.replicate n none) := fun j => by
  have e : (List.replicate n (none : Option Nat)).getD j none = none := by
    simp only [List.getD, List.getElem?_replicate]
    split <;> rfl
  rw [e]
  exact valV_nil
theorem relax_none {d : DS} {i : Nat} {s : StepM} (h : d.costs.getD s.beg none = none) : relax d i s = d := by unfold relax; rw [h]
theorem relax_new {d : DS} {i : Nat} {s : StepM} {c : Int} (h : d.costs.getD s.beg none = some c) (k : d.costs.getD s.fin none = none) :
    relax d i s = ⟨d.costs.set s.fin (some (c + s.cost)), d.last.set s.fin (some i), d.helped + 1⟩ := by unfold relax; rw [h, k]
theorem relax_yes {d : DS} {i : Nat} {s : StepM} {c e : Int} (h : d.costs.getD s.beg none = some c) (k : d.costs.getD s.fin none = some e) (l : c + s.cost < e) :
    relax d i s = ⟨d.costs.set s.fin (some (c + s.cost)), d.last.set s.fin (some i), d.helped + 1⟩ := by unfold relax; rw [h, k]; simp [l]
theorem relax_no {d : DS} {i : Nat} {s : StepM} {c e : Int} (h : d.costs.getD s.beg none = some c) (k : d.costs.getD s.fin none = some e) (l : ¬ c + s.cost < e) :
    relax d i s = d := by unfold relax; rw [h, k]; simp [l]
theorem distGo_step {ss : List StepM} {f : Nat} {c : List (Option Int)} {l : List (Option Nat)} {dd : DS} (h : dd = relaxAll 0 ss ⟨c, l, 0⟩) : distGo ss (f + 1) c l = if dd.helped = 0 then (dd.costs, dd.last) else distGo ss f dd.costs dd.last := by
  show (match relaxAll 0 ss ⟨c, l, 0⟩ with
    | ⟨c', l', 0⟩ => (c', l')
    | ⟨c', l', _ + 1⟩ => distGo ss f c' l') = _
  rw [← h]
  obtain ⟨a, b, k⟩ := dd
  cases k <;> rfl
section
variable {P : Program} {w : World} {K : PySem.W.Frag} {mg : Str → Option Value} {base : Heap}
/-! ### distances -/
abbrev nDist : List Str := ["nodes", "steps", "source", "costs", "last", "turn", "helped", "step", "node"]
theorem scDist : FnScope nDist ["nodes", "steps", "source"] (defScope (topS 5)) := ⟨rfl, rfl, rfl, by decide +kernel, rfl, by decide +kernel, by decide +kernel⟩
def srcV : Option Nat → V
  | none => .non
  | some s => nV s
def spDist (K : PySem.W.Frag) : Sp := fun vs H Q _ => ∃ (n : Nat) (l : Addr) (src : Option Nat) (as ps : List Addr) (sm : List StepM), vs = [nV n, .ref l, srcV src] ∧ H l = some (.lst (ps.map V.ref)) ∧ StepsAt K H as ps sm ∧
  n ≤ 100 ∧ sm.length ≤ 1000 ∧ (∀ s ∈ sm, s.beg < n ∧ s.fin < n) ∧ (∀ s, src = some s → s < n) ∧
  ∀ t c d H' m, Ext H H' → H' t = some (.tup [.ref c, .ref d]) → H c = none → H d = none → DictC H' c (distS n sm src).1 m → DictL H' ps d (distS n sm src).2 m → Q (.ref t) H'
theorem cal_dist (T : Txt K mg) : Cal P w K mg base 1 "distances" ["nodes", "steps", "source"] (spDist K) := by
  refine T.def_distances.cal (fun _ _ _ _ _ _ us hl => match us, hl with | [_, _, _], _ => rfl) fun f fd F => F.ok scDist (fun vs H Q E h => ?_) fun cdv A outer s H vs Q E hr h => ?_
  · obtain ⟨n, l, src, as, ps, sm, rfl, _⟩ := h
    rfl
  · obtain ⟨n, l, src, as, ps, sm, rfl, hl, hst, hn, hm, hb, hsrc, q⟩ := h
    have nd := scDist.nd
    have hu := hu_of hr
    refine ⟨_, PSs.nox (pss_cons (ps_set (i := 3) nd rfl (Or.inl rfl) (peImp (t' := fun σ H' Q => σ = [some (nV n), some (.ref l), some (srcV src), none, none, none, none, none, none] ∧ ∀ c H1, Ext H' H1 → H' c = none → DictC H1 c (initC n src) n → Q (.ref c) H1) (pe_ifExp (pt_cmpR op_isN (pv 2) pe_non (nomark _))
        (pe_dc (own := [("node", 8)]) (g := gName 8) (tt := tYes) rfl nd (pi_range1 rfl T.fr_range (pa_cons (pv 0) pa_nil)) (blkOk_by (N := nDist) (sc := defScope (topS 5)) (by decide +kernel)) (fun _ _ _ _ _ => pg_name (i := 8) nd rfl (Or.inl rfl)) (fun _ _ _ _ _ => pts_nil) (fun _ _ _ _ _ => pv 8) (fun _ _ _ _ _ => pe_int))
        (pe_disp (pps_cons (pv 2) pe_int pps_nil) (by rfl) (by rfl) (fun z => by cases z) (by decide))) ?_))
      (pss_cons (ps_set (i := 4) nd rfl (Or.inl rfl) pe_dnewK)
      (pss_cons (ps_for PassesOwn.never rfl (pi_range1 rfl T.fr_range (pa_cons (pe_op op_add (pv 0) pe_int) pa_nil)) (pg_name (i := 5) nd rfl (Or.inl rfl))
        (pss_cons (ps_set (i := 6) nd rfl (Or.inl rfl) (pe_lst pa_nil))
        (pss_cons (ps_for PassesOwn.never rfl (pi_list (pv 1)) (pg_name (i := 7) nd rfl (Or.inl rfl))
          (pss_one (ps_if (PW.pt (pw_and (pt_cmp (pc_din hu (pe_fld (pv 7) rfl) (pv 3))) (pw_and1 (PW.pt (pw_or (pt_cmp (pc_dnotin hu (pe_fld (pv 7) rfl) (pv 3))) (pw_or1 (pt_cmpR op_lt (pe_op op_add (pe_dget hu (pv 3) (pe_fld (pv 7) rfl) (fun _ _ => rfl)) (pe_fld (pv 7) rfl)) (pe_dget hu (pv 3) (pe_fld (pv 7) rfl) (fun _ _ => rfl)) (nomark _))))))))
            (pss_cons (ps_dput hu (pv 3) (pe_fld (pv 7) rfl) (pe_op op_add (pe_dget hu (pv 3) (pe_fld (pv 7) rfl) (fun _ _ => rfl)) (pe_fld (pv 7) rfl)) rfl)
            (pss_cons (ps_dput hu (pv 4) (pe_fld (pv 7) rfl) (pv 7) rfl)
            (pss_one (ps_expr (pe_bm PySem.F.plainAttrs_list PySem.F.slot_list_append PySem.F.type_list_append mt_append (pv 6) (pa_cons (pv 7) pa_nil)))))) pss_nil)))
        (pss_one (ps_if (pt_cmpR op_eq (pe_callB call_len_seq (by rfl) T.fr_len PySem.boot_len (pa_cons (pv 6) pa_nil)) pe_int (nomark _)) (pss_one ps_break) pss_nil)))))
      (pss_one (ps_ret (pe_tup (pa_cons (pv 3) (pa_cons (pv 4) pa_nil)))))))), ?_⟩
    · intro σ H' Q h
      obtain ⟨rfl, k⟩ := h
      cases src with
      | none =>
        refine ⟨_, rfl, rfl, true, rfl, iteT ?_⟩
        refine ⟨_, rfl, _, rfl, by omega, by omega, fun D hD => ?_⟩
        refine dc_range (lo := 0) (n := n) (fun i H2 => Ext H' H2 ∧ ∃ kvs, H2 D = some (.dK kvs) ∧ kvs.length ≤ i ∧ ∀ j : Nat, valV kvs (kN j) = if j < i then some (.int 0) else none) ⟨Ext.one hD, [], upd_same, Nat.le_refl _, fun j => rfl⟩ ?_ ?_
        · intro i H2 hi ⟨e, kvs, hk, hs, hv⟩
          refine ⟨rfl, ?_⟩
          refine ⟨_, rfl, kvs, kN i, by simp [kV], hk, Nat.lt_of_le_of_lt hs (by show _ < 16777216; omega), ?_⟩
          refine ⟨e.put hD, _, upd_same, Nat.le_trans (length_putK _ _ _) (by omega), fun j => ?_⟩
          rw [valV_put, hv j]
          by_cases c : j = i
          · subst c; simp
          · rw [if_neg (kN_ne c)]
            have : j < i ↔ j < i + 1 := by omega
            simp only [this]
        · intro H2 ⟨e, kvs, hk, hs, hv⟩
          refine k D H2 e hD ⟨kvs, hk, fun j => ?_, hs⟩
          rw [hv j]
          simp only [initC, List.getD, List.getElem?_replicate]
          split <;> rfl
      | some s0 =>
        refine ⟨_, rfl, rfl, false, rfl, iteF ?_⟩
        refine fun D hD => ⟨_, rfl, upd_same, [(kN s0, .int 0)], rfl, by simp, ?_⟩
        rw [upd_upd]
        refine k D _ (Ext.one hD) hD ⟨_, upd_same, ?_, by have := length_mergeK [(kN s0, V.int 0)] []; have := hsrc s0 rfl; simp at *; omega⟩
        exact CK.put (ck_nil n) (by simpa using hsrc s0 rfl)
    · refine ⟨rfl, fun c H1 e1 hc dc1 d hd => ?_⟩
      generalize hu1 : upd H1 d _ = H2
      obtain ⟨h2, c2⟩ := upd_eq hu1
      have hd0 : H d = none := e1.nil hd
      have ncd : c ≠ d := let ⟨_, e, _⟩ := dc1; ne_of_none e hd
      have e2 : Ext H H2 := e1.chg hd0 c2
      have dc2 : DictC H2 c (initC n src) n := let ⟨kvs, e, r⟩ := dc1; ⟨kvs, by rw [c2 c ncd]; exact e, r⟩
      have key : ∀ (H' : Hp) cs ls m, Ext H H' → DictC H' c cs m → DictL H' ps d ls m → distS n sm src = (cs, ls) → ∀ p, H' p = none → Q (.ref p) (upd H' p (.tup [.ref c, .ref d])) := by
        intro H' cs ls m ex x y er p hp
        refine q p c d _ m (ex.new hp) upd_same hc hd0 ?_ ?_
        · rw [er]
          obtain ⟨kvs, e, r⟩ := x
          exact ⟨kvs, by rw [upd_ne (ne_of_none e hp)]; exact e, r⟩
        · rw [er]
          obtain ⟨kvs, e, r⟩ := y
          exact ⟨kvs, by rw [upd_ne (ne_of_none e hp)]; exact e, r⟩
      refine ⟨_, rfl, _, _, rfl, rfl, _, rfl, by omega, by omega, ?_⟩
      refine for_range (lo := 0) (n := n + 1) (fun i σ H' => ∃ z1 z2 z3 cs ls, σ = [some (nV n), some (.ref l), some (srcV src), some (.ref c), some (.ref d), z1, z2, z3, none] ∧ Ext H H' ∧ cs.length = n ∧ ls.length = n ∧
        DictC H' c cs (n + i * sm.length) ∧ DictL H' ps d ls (n + i * sm.length) ∧ distGo sm (n + 1 - i) cs ls = distS n sm src) ⟨none, none, none, initC n src, List.replicate n none, rfl, e2, initC_len, by simp, by simpa using dc2, ⟨[], h2, lk_nil ps n, by simp⟩, rfl⟩ ?_ ?_
      · intro i σ H3 hi ⟨z1, z2, z3, cs, ls, e, e3, lc, ll, d3, l3, er⟩
        subst e
        refine ⟨by decide, fun hh nh => ?_⟩
        generalize hu2 : upd H3 hh _ = H4
        obtain ⟨h4, c4⟩ := upd_eq hu2
        have e4 : Ext H H4 := e3.chg (e3.nil nh) c4
        have hh0 : H hh = none := e3.nil nh
        have nch : c ≠ hh := let ⟨_, e, _⟩ := d3; ne_of_none e nh
        have ndh : d ≠ hh := let ⟨_, e, _⟩ := l3; ne_of_none e nh
        have d4 : DictC H4 c cs (n + i * sm.length) := let ⟨kvs, e, r⟩ := d3; ⟨kvs, by rw [c4 c nch]; exact e, r⟩
        have l4 : DictL H4 ps d ls (n + i * sm.length) := let ⟨kvs, e, r⟩ := l3; ⟨kvs, by rw [c4 d ndh]; exact e, r⟩
        have big : n + (i + 1) * sm.length < 16777216 := by
          have : (i + 1) * sm.length ≤ 102 * 1000 := Nat.mul_le_mul (by omega) hm
          omega
        have expand : (i + 1) * sm.length = i * sm.length + sm.length := by rw [Nat.add_mul, Nat.one_mul]
        refine ⟨_, rfl, l, rfl, ⟨_, SqL.of (e4 _ _ hl)⟩, ?_⟩
        refine for_list (xs := ps.map V.ref) (fun j σ H' => ∃ z3 dd hs, σ = [some (nV n), some (.ref l), some (srcV src), some (.ref c), some (.ref d), some (.int (0 + (i : Int))), some (.ref hh), z3, none] ∧ Ext H H' ∧
          H' hh = some (.lst hs) ∧ hs.length = dd.helped ∧ hs.length ≤ j ∧ dd.costs.length = n ∧ dd.last.length = n ∧ DictC H' c dd.costs (n + i * sm.length + j) ∧ DictL H' ps d dd.last (n + i * sm.length + j) ∧ relaxAll j (sm.drop j) dd = relaxAll 0 sm ⟨cs, ls, 0⟩)
          ⟨z3, ⟨cs, ls, 0⟩, [], rfl, e4, h4, rfl, Nat.le_refl _, lc, ll, d4, l4, rfl⟩ ?_ ?_ ?_
        · intro j σ H' hj ⟨z3, dd, hs, e, ex, _⟩
          exact SqL.of (ex _ _ hl)
        · intro j x σ H5 hx ⟨z3, dd, hs, e, e5, h5, lh, lj, lc5, ll5, d5, l5, rr⟩
          subst e
          obtain ⟨p, hp, rfl⟩ := map_get hx
          have hjs : j < sm.length := by rw [← paired_len hst]; exact (List.getElem?_eq_some_iff.mp hp).1
          obtain ⟨st, hs1⟩ := get_of_lt hjs
          obtain ⟨dx, a, ha, hP⟩ := paired_get hst hp hs1
          have hbf := hb st (List.mem_of_getElem? hs1)
          rw [drop_cons hs1] at rr
          have P5 := e5 _ _ hP
          have rr0 : relaxAll (j + 1) (sm.drop (j + 1)) (relax dd j st) = relaxAll 0 sm ⟨cs, ls, 0⟩ := rr
          refine ⟨_, rfl, p, _, dx, _, _, rfl, P5, T.cls_Step, T.na_Step_begin, rfl, ⟨_, rfl, c, _, rfl, d5.get st.beg, _, rfl, ?_⟩⟩
          cases eb : dd.costs.getD st.beg none with
          | none =>
            refine iteF ?_
            exact ⟨_, dd, hs, rfl, e5, h5, lh, by omega, lc5, ll5, let ⟨k, a, b, c⟩ := d5; ⟨k, a, b, by omega⟩, let ⟨k, a, b, c⟩ := l5; ⟨k, a, b, by omega⟩, by rw [← rr0, relax_none eb]⟩
          | some cb =>
            refine iteT ?_
            refine ⟨_, rfl, p, _, dx, _, _, rfl, P5, T.cls_Step, T.na_Step_end, rfl, ⟨_, rfl, c, _, rfl, d5.get st.fin, _, rfl, ?_⟩⟩
            cases ef : dd.costs.getD st.fin none with
            | none =>
              refine iteT ?_
              refine iteT ?_
              refine ⟨_, rfl, _, rfl, p, _, dx, _, _, rfl, P5, T.cls_Step, T.na_Step_begin, rfl, c, _, rfl, eb ▸ d5.get st.beg, _, rfl, p, _, dx, _, _, rfl, P5, T.cls_Step, T.na_Step_cost, rfl, _, _, rfl, rfl, _, rfl, _, rfl, p, _, dx, _, _, rfl, P5, T.cls_Step, T.na_Step_end, rfl, ?_⟩
              obtain ⟨kvc, hkc, ckc, szc⟩ := d5
              obtain ⟨kvd, hkd, ckd, szd⟩ := l5
              refine ⟨c, _, rfl, DPut.k (k := kN st.fin) hkc (Nat.lt_of_le_of_lt szc (by show _ < 16777216; omega)), ?_⟩
              generalize hu3 : upd H5 c _ = H6
              obtain ⟨h6, c6⟩ := upd_eq hu3
              have P6 := (e5.chg hc c6) _ _ hP
              refine ⟨_, rfl, _, rfl, _, rfl, p, _, dx, _, _, rfl, P6, T.cls_Step, T.na_Step_end, rfl, ?_⟩
              refine ⟨d, _, rfl, DPut.k (k := kN st.fin) ((c6 d ncd.symm).trans hkd) (Nat.lt_of_le_of_lt szd (by show _ < 16777216; omega)), ?_⟩
              generalize hu4 : upd H6 d _ = H7
              obtain ⟨h7, c7⟩ := upd_eq hu4
              have hh7 : H7 hh = some (.lst hs) := ((c7 hh (ne_of h5 hkd (by intro z; cases z))).trans (c6 hh (ne_of h5 hkc (by intro z; cases z)))).trans h5
              refine ⟨_, rfl, .inl ⟨rfl, _, SqL.of hh7⟩, _, rfl, hh, _, _, rfl, rfl, hh7, Nat.lt_of_le_of_lt lj (by show _ < 16777216; omega), ?_⟩
              generalize hu5 : upd H7 hh _ = H8
              obtain ⟨h8, c8⟩ := upd_eq hu5
              refine ⟨_, ⟨dd.costs.set st.fin (some (cb + st.cost)), dd.last.set st.fin (some j), dd.helped + 1⟩, hs ++ [.ref p], rfl, ((e5.chg hc c6).chg hd0 c7).chg hh0 c8, h8, by simp [lh], by simp; omega, by simpa using lc5, by simpa using ll5, ?_, ?_, by rw [← rr0, relax_new eb ef]⟩
              · exact ⟨_, ((c8 c nch).trans (c7 c ncd)).trans h6, ckc.put (by omega), Nat.le_trans (length_putK _ _ _) (by omega)⟩
              · exact ⟨_, (c8 d ndh).trans h7, ckd.put (by omega) hp, Nat.le_trans (length_putK _ _ _) (by omega)⟩
            | some ce =>
              refine iteF ?_
              refine ⟨_, rfl, _, rfl, p, _, dx, _, _, rfl, P5, T.cls_Step, T.na_Step_begin, rfl, c, _, rfl, eb ▸ d5.get st.beg, _, rfl, p, _, dx, _, _, rfl, P5, T.cls_Step, T.na_Step_cost, rfl, _, _, rfl, rfl, _, rfl, _, rfl, p, _, dx, _, _, rfl, P5, T.cls_Step, T.na_Step_end, rfl, c, _, rfl, ef ▸ d5.get st.fin, _, _, rfl, rfl, _, rfl, ?_⟩
              by_cases lt : cb + st.cost < ce
              · refine iteD lt ?_
                refine ⟨_, rfl, _, rfl, p, _, dx, _, _, rfl, P5, T.cls_Step, T.na_Step_begin, rfl, c, _, rfl, eb ▸ d5.get st.beg, _, rfl, p, _, dx, _, _, rfl, P5, T.cls_Step, T.na_Step_cost, rfl, _, _, rfl, rfl, _, rfl, _, rfl, p, _, dx, _, _, rfl, P5, T.cls_Step, T.na_Step_end, rfl, ?_⟩
                obtain ⟨kvc, hkc, ckc, szc⟩ := d5
                obtain ⟨kvd, hkd, ckd, szd⟩ := l5
                refine ⟨c, _, rfl, DPut.k (k := kN st.fin) hkc (Nat.lt_of_le_of_lt szc (by show _ < 16777216; omega)), ?_⟩
                generalize hu3 : upd H5 c _ = H6
                obtain ⟨h6, c6⟩ := upd_eq hu3
                have P6 := (e5.chg hc c6) _ _ hP
                refine ⟨_, rfl, _, rfl, _, rfl, p, _, dx, _, _, rfl, P6, T.cls_Step, T.na_Step_end, rfl, ?_⟩
                refine ⟨d, _, rfl, DPut.k (k := kN st.fin) ((c6 d ncd.symm).trans hkd) (Nat.lt_of_le_of_lt szd (by show _ < 16777216; omega)), ?_⟩
                generalize hu4 : upd H6 d _ = H7
                obtain ⟨h7, c7⟩ := upd_eq hu4
                have hh7 : H7 hh = some (.lst hs) := ((c7 hh (ne_of h5 hkd (by intro z; cases z))).trans (c6 hh (ne_of h5 hkc (by intro z; cases z)))).trans h5
                refine ⟨_, rfl, .inl ⟨rfl, _, SqL.of hh7⟩, _, rfl, hh, _, _, rfl, rfl, hh7, Nat.lt_of_le_of_lt lj (by show _ < 16777216; omega), ?_⟩
                generalize hu5 : upd H7 hh _ = H8
                obtain ⟨h8, c8⟩ := upd_eq hu5
                refine ⟨_, ⟨dd.costs.set st.fin (some (cb + st.cost)), dd.last.set st.fin (some j), dd.helped + 1⟩, hs ++ [.ref p], rfl, ((e5.chg hc c6).chg hd0 c7).chg hh0 c8, h8, by simp [lh], by simp; omega, by simpa using lc5, by simpa using ll5, ?_, ?_, by rw [← rr0, relax_yes eb ef lt]⟩
                · exact ⟨_, ((c8 c nch).trans (c7 c ncd)).trans h6, ckc.put (by omega), Nat.le_trans (length_putK _ _ _) (by omega)⟩
                · exact ⟨_, (c8 d ndh).trans h7, ckd.put (by omega) hp, Nat.le_trans (length_putK _ _ _) (by omega)⟩
              · refine iteN lt ?_
                exact ⟨_, dd, hs, rfl, e5, h5, lh, by omega, lc5, ll5, let ⟨k, a, b, c⟩ := d5; ⟨k, a, b, by omega⟩, let ⟨k, a, b, c⟩ := l5; ⟨k, a, b, by omega⟩, by rw [← rr0, relax_no eb ef lt]⟩
        · intro σ H5 ⟨z3, dd, hs, e, e5, h5, lh, lj, lc5, ll5, d5, l5, rr⟩
          subst e
          rw [List.length_map, paired_len hst, drop_len] at rr
          have rr0 : dd = relaxAll 0 sm ⟨cs, ls, 0⟩ := rr
          rw [List.length_map, paired_len hst] at d5 l5
          have go := distGo_step (f := n - i) rr0
          rw [show n - i + 1 = n + 1 - i by omega] at go
          rw [er] at go
          refine ⟨_, rfl, hh, _, rfl, .inl (SqL.of h5), rfl, _, rfl, ?_⟩
          obtain ⟨dc, dl, dh⟩ := dd
          cases hs with
          | nil =>
            have e0 : dh = 0 := by simpa using lh.symm
            subst e0
            refine iteT ?_
            exact ⟨_, rfl, _, rfl, (by show 2 ≤ 16777216; decide), key H5 dc dl _ e5 d5 l5 go⟩
          | cons y ys =>
            have e0 : dh = ys.length + 1 := by simpa using lh.symm
            subst e0
            refine iteN (by simp; omega) ?_
            exact ⟨_, _, _, dc, dl, rfl, e5, lc5, ll5, let ⟨k, a, b, c⟩ := d5; ⟨k, a, b, by omega⟩, let ⟨k, a, b, c⟩ := l5; ⟨k, a, b, by omega⟩, by rw [show n + 1 - (i + 1) = n - i by omega]; exact go.symm⟩
      · intro σ H3 ⟨z1, z2, z3, cs, ls, e, e3, lc, ll, d3, l3, er⟩
        subst e
        have er' : distS n sm src = (cs, ls) := by rw [← er, Nat.sub_self]; rfl
        exact ⟨_, rfl, _, rfl, (by show 2 ≤ 16777216; decide), key H3 cs ls _ e3 d3 l3 er'⟩
end
end K30

namespace K30
open PySem PySem.Spec PyProof.Rows L2
theorem DictL.get {H : Hp} {ps : List Addr} {d : Addr} {l : List (Option Nat)} {m : Nat} (h : DictL H ps d l m) {j i : Nat} (e : l.getD j none = some i) : ∃ p, ps[i]? = some p ∧ DGet H d (nV j) (some (.ref p)) := by
  obtain ⟨kvs, hk, k, _⟩ := h
  have := k j
  rw [e] at this
  obtain ⟨p, hp, hv⟩ := this
  exact ⟨p, hp, by rw [← hv]; exact DGet.k (k := kN j) hk⟩
theorem DictL.ext {H H' : Hp} {ps : List Addr} {d : Addr} {l : List (Option Nat)} {m : Nat} (h : DictL H ps d l m) (e : Ext H H') : DictL H' ps d l m := let ⟨kvs, hk, k⟩ := h; ⟨kvs, e _ _ hk, k⟩
theorem DictC.ext {H H' : Hp} {d : Addr} {l : List (Option Int)} {m : Nat} (h : DictC H d l m) (e : Ext H H') : DictC H' d l m := let ⟨kvs, hk, k⟩ := h; ⟨kvs, e _ _ hk, k⟩
section
variable {P : Program} {w : World} {K : PySem.W.Frag} {mg : Str → Option Value} {base : Heap}
/-! ### way_back -/
theorem scWay : FnScope ["last", "node", "source", "found"] ["last", "node", "source"] (defScope (topS 6)) := ⟨rfl, rfl, rfl, by decide +kernel, rfl, by decide +kernel, by decide +kernel⟩
abbrev WayAt (ps : List Addr) : List Addr → List Nat → Prop := Paired fun p i => ps[i]? = some p
def spWay (K : PySem.W.Frag) : Sp := fun vs H Q _ => ∃ (d : Addr) (v src : Nat) (as ps : List Addr) (sm : List StepM) (ls : List (Option Nat)) (m fuel : Nat) (way : List Nat), vs = [.ref d, nV v, nV src] ∧ DictL H ps d ls m ∧ StepsAt K H as ps sm ∧
  fuel ≤ 200 ∧ wayGo sm ls src fuel v [] = some way ∧ ∀ f rs H', Ext H H' → H f = none → H' f = some (.lst (rs.map V.ref)) → WayAt ps rs way → Q (.ref f) H'
theorem wayGo_eq {sm : List StepM} {ls : List (Option Nat)} {src f : Nat} {acc : List Nat} : wayGo sm ls src (f + 1) src acc = some acc := by simp [wayGo]
theorem wayGo_ne {sm : List StepM} {ls : List (Option Nat)} {src f v : Nat} {acc way : List Nat} (h : v ≠ src) (e : wayGo sm ls src (f + 1) v acc = some way) : ∃ i s, ls.getD v none = some i ∧ sm[i]? = some s ∧ wayGo sm ls src f s.beg (i :: acc) = some way := by
  unfold wayGo at e
  rw [if_neg h] at e
  cases e1 : ls.getD v none with
  | none => rw [e1] at e; cases e
  | some i =>
    rw [e1] at e
    cases e2 : sm[i]? with
    | none => simp only [e2] at e; cases e
    | some s =>
      simp only [e2] at e
      exact ⟨i, s, rfl, e2, e⟩
theorem cal_way (T : Txt K mg) : Cal P w K mg base 1 "way_back" ["last", "node", "source"] (spWay K) := by
  refine T.def_way_back.cal (fun _ _ _ _ _ _ us hl => match us, hl with | [_, _, _], _ => rfl) fun f fd F => F.ok scWay (fun vs H Q E h => ?_) fun cdv A outer s H vs Q E hr h => ?_
  · obtain ⟨d, v, src, as, ps, sm, ls, m, fuel, way, rfl, _⟩ := h
    rfl
  · obtain ⟨d, v, src, as, ps, sm, ls, m, fuel, way, rfl, hd, hst, hfu, hw, q⟩ := h
    have nd := scWay.nd
    have hu := hu_of hr
    refine ⟨_, PSs.nox (pss_cons (ps_set (i := 3) nd rfl (Or.inl rfl) (pe_lst pa_nil)) (pss_cons (ps_while PassesOwn.never (pt_cmpR op_ne (pv 1) (pv 2) (nomark _))
      (pss_cons (ps_set (i := 3) nd rfl (Or.inl rfl) (pe_lst (pa_cons (pe_dget hu (pv 0) (pv 1) (fun _ _ => rfl)) (StX.pa_star (pv 3) pa_nil))))
      (pss_one (ps_set (i := 1) nd rfl (Or.inl rfl) (pe_fld (pe_dget hu (pv 0) (pv 1) (fun _ _ => rfl)) rfl)))))
      (pss_one (ps_ret (pv 3))))), ?_⟩
    refine ⟨by decide, fun p np => ?_⟩
    generalize hu1 : upd H p _ = H1
    obtain ⟨h1, c1⟩ := upd_eq hu1
    refine ⟨fun m' σ H' => ∃ v acc rs f, σ = [some (.ref d), some (nV v), some (nV src), some (.ref f)] ∧ Ext H H' ∧ H f = none ∧ H' f = some (.lst (rs.map V.ref)) ∧ WayAt ps rs acc ∧ acc.length + m' ≤ 200 ∧ wayGo sm ls src m' v acc = some way,
      ⟨fuel, v, [], [], p, rfl, Ext.refl.chg np c1, np, h1, .nil, by simpa using hfu, hw⟩, ?_⟩
    rintro m' σ H2 ⟨v, acc, rs, f, e, ex, nf, h2, hrs, hsz, hgo⟩
    subst e
    refine ⟨_, rfl, _, rfl, rfl, _, rfl, ?_⟩
    cases m' with
    | zero => cases hgo
    | succ m' =>
      by_cases e : v = src
      · subst e
        rw [wayGo_eq] at hgo
        cases hgo
        refine iteNS rfl ?_
        exact ⟨_, rfl, q f rs H2 ex nf h2 hrs⟩
      · obtain ⟨i, s, e1, e2, e3⟩ := wayGo_ne e hgo
        rw [show decide (nV v = nV src) = false from decide_eq_false (fun c => e (by injection c with c; omega))]
        refine iteT ?_
        obtain ⟨pi, hpi, dg⟩ := (hd.ext ex).get e1
        obtain ⟨dx, a, ha, hP⟩ := paired_get hst hpi e2
        refine ⟨_, fun _ _ h => h, ?_⟩
        refine ⟨_, rfl, _, rfl, d, _, rfl, dg, _, rfl, f, _, rfl, .inr (SqL.of h2), ?_⟩
        have lrs : (rs.map V.ref).length = acc.length := by rw [List.length_map, paired_len hrs]
        refine ⟨by simp only [List.length_cons, List.length_append, List.length_nil, lrs]; show _ ≤ 16777216; omega, fun p3 np3 => ?_⟩
        generalize hu3 : upd H2 p3 _ = H3
        obtain ⟨h3, c3⟩ := upd_eq hu3
        have ex3 : Ext H H3 := ex.chg (ex.nil np3) c3
        obtain ⟨pj, hpj, dg3⟩ := (hd.ext ex3).get e1
        have epp : pj = pi := by rw [hpi] at hpj; exact (Option.some.inj hpj).symm
        subst epp
        refine ⟨_, rfl, _, rfl, d, _, rfl, dg3, pj, _, dx, _, _, rfl, ex3 _ _ hP, T.cls_Step, T.na_Step_begin, rfl, ?_⟩
        exact ⟨m', Nat.lt_succ_self _, s.beg, i :: acc, pj :: rs, p3, rfl, ex3, ex.nil np3, by rw [h3]; simp, .cons hpj hrs, by simp; omega, e3⟩
end
end K30

namespace K30
open PySem PySem.Spec PyProof.Rows L2
section
variable {X : Cx} {k : Nat} {C : Addr} {x m : Str} {ps : List Str} {sp : Sp} {p pos apos : Pos} {e o : Expr} {es : List Expr} {t : TA} {ta : TE}
theorem pe_mcal {pl : Sem Bool} (F : MCal X.prog X.w X.K X.mg X.base k C m ps sp) (c : Cls X.K C) (hr : Room k X.A) (he : PE X o ta) (ha : PA X (e :: es) t) (hst : starEach (e :: es) X.env = (false, eval e X.env) :: starEach es X.env := by rfl) (hpl : (backTo pos (starEach es X.env)).any (·.1) = false := by rfl)
    (ht : eval (.Call (.Attribute o m apos) (e :: es) [] pos) X.env = (do
      let ov ← eval o X.env
      standAt apos.atName
      let (f, first) ← holding [ov] (getMethod ov m pl)
      callWith pos f first (backTo pos (starEach (e :: es) X.env)) (backToKw pos (keywordEach [] X.env))) := by rfl) :
    PE X (.Call (.Attribute o m apos) (e :: es) [] pos) (tMeth C m sp [] E0 ta t) := by
  obtain ⟨f, fd, G, b, M⟩ := F
  exact pe_meth (pl := pl) he c M G hr b .nil pass0 ha hst hpl ht
theorem pe_mcal0 {pl : Sem Bool} (F : MCal X.prog X.w X.K X.mg X.base k C m ps sp) (c : Cls X.K C) (hr : Room k X.A) (he : PE X o ta)
    (ht : eval (.Call (.Attribute o m apos) [] [] pos) X.env = (do
      let ov ← eval o X.env
      standAt apos.atName
      let (f, first) ← holding [ov] (getMethod ov m pl)
      callWith pos f first (backTo pos (starEach [] X.env)) (backToKw pos (keywordEach [] X.env))) := by rfl) :
    PE X (.Call (.Attribute o m apos) [] [] pos) (tMeth C m sp [] E0 ta tNil) := by
  obtain ⟨f, fd, G, b, M⟩ := F
  exact pe_meth0 (pl := pl) he c M G hr b .nil pass0 ht
end
section
variable {P : Program} {w : World} {K : PySem.W.Frag} {mg : Str → Option Value} {base : Heap}
abbrev cTr (K : PySem.W.Frag) : Addr := He.ga K "Transport"
/-- the parts of a transport -/
structure Tr where
  n : Nat
  lh : Addr
  ls : Addr
  la : Addr
  lr : Addr
  as : List Addr
  ts : List Tri
def trF (r : Tr) : List (Str × V) := [("nodes", nV r.n), ("hard", .ref r.lh), ("softs", .ref r.ls), ("arcs", .ref r.la), ("rest", .ref r.lr)]
structure TrAt (K : PySem.W.Frag) (H : Hp) (p : Addr) (r : Tr) (fl rest : List Int) : Prop where
  self : ∃ dx, H p = some (.ins (cTr K) dx (trF r))
  arcs : H r.la = some (.lst (r.as.map V.ref))
  rst : H r.lr = some (.lst (rest.map V.int))
  ne : r.la ≠ r.lr
  at_ : ArcsAt K H r.as r.ts fl
  nd : r.as.Nodup
  len : rest.length = r.n
def Tr.S (r : Tr) (p : Addr) : Prop := p = r.lr ∨ p ∈ r.as
theorem TrAt.ext {H H' : Hp} {p : Addr} {r : Tr} {fl rest : List Int} (h : TrAt K H p r fl rest) (e : Ext H H') : TrAt K H' p r fl rest :=
  ⟨let ⟨dx, k⟩ := h.self; ⟨dx, e _ _ k⟩, e _ _ h.arcs, e _ _ h.rst, h.ne, h.at_.ext e, h.nd, h.len⟩
theorem pushM_some {ts : List Tri} {fl rest fl' rest' : List Int} {i : Nat} {a : Int} (h : pushM ts (fl, rest) i a = some (fl', rest')) :
    ∃ t f x y, ts[i]? = some t ∧ fl[i]? = some f ∧ rest[t.1]? = some x ∧ (rest.set t.1 (x - a))[t.2.1]? = some y ∧ fl' = fl.set i (f + a) ∧ rest' = (rest.set t.1 (x - a)).set t.2.1 (y + a) := by
  unfold pushM at h
  cases e1 : ts[i]? with
  | none => simp only [e1] at h; cases h
  | some t =>
    cases e2 : fl[i]? with
    | none => simp only [e1, e2] at h; cases h
    | some f =>
      simp only [e1, e2] at h
      cases e3 : rest[t.1]? with
      | none => simp only [e3] at h; cases h
      | some x =>
        simp only [e3] at h
        cases e4 : (rest.set t.1 (x - a))[t.2.1]? with
        | none => simp only [e4] at h; cases h
        | some y =>
          simp only [e4] at h
          cases h
          exact ⟨t, f, x, y, rfl, rfl, e3, e4, rfl, rfl⟩
/-! ### push -/
abbrev sPush : Stmt := inClass (topS 7) 1
theorem scPush : FnScope ["self", "arc", "amount"] ["self", "arc", "amount"] (defScope sPush) := ⟨rfl, rfl, rfl, by decide +kernel, rfl, by decide +kernel, by decide +kernel⟩
def spPush (K : PySem.W.Frag) : Sp := fun vs H Q _ => ∃ (p a : Addr) (r : Tr) (fl rest fl' rest' : List Int) (i : Nat) (am : Int), vs = [.ref p, .ref a, .int am] ∧ TrAt K H p r fl rest ∧ r.as[i]? = some a ∧ pushM r.ts (fl, rest) i am = some (fl', rest') ∧
  ∀ H', Frm r.S H H' → TrAt K H' p r fl' rest' → Q .non H'
theorem ixN_of {n j : Nat} (h : j < n) : ixN n (j : Int) = some j := by
  unfold ixN
  rw [if_pos (by omega), if_pos (by omega)]
  simp
theorem set_map {α β : Type} {f : α → β} {l : List α} {i : Nat} {x : α} : (l.map f).set i (f x) = (l.set i x).map f := by
  rw [List.map_set]
theorem cal_push (T : Txt K mg) : MCal P w K mg base 1 (cTr K) "push" ["self", "arc", "amount"] (spPush K) := by
  refine T.met_push.cal (fun _ _ _ _ _ _ us hl => match us, hl with | [_, _, _], _ => rfl) fun f fd F => F.ok scPush (fun vs H Q E h => ?_) fun cdv A outer s H vs Q E hr h => ?_
  · obtain ⟨p, a, r, fl, rest, fl', rest', i, am, rfl, _⟩ := h
    rfl
  · obtain ⟨p, a, r, fl, rest, fl', rest', i, am, rfl, ht, ha, hp, q⟩ := h
    have nd := scPush.nd
    refine ⟨_, PSs.nox (pss_cons (ps_fldaug (pv 1) (pv 2) in_add) (pss_cons (ps_augS (pe_fld (pv 0) rfl) (pe_fld (pv 1) rfl) get_list (pv 2) ip_sub set_list) (pss_one (ps_augS (pe_fld (pv 0) rfl) (pe_fld (pv 1) rfl) get_list (pv 2) ip_add set_list)))), ?_⟩
    obtain ⟨t, fv, x, y, e1, e2, e3, e4, rfl, rfl⟩ := pushM_some hp
    obtain ⟨dx, hA⟩ := ht.at_.at_ ha e1 e2
    obtain ⟨sx, hS⟩ := ht.self
    refine ⟨_, rfl, a, _, dx, _, _, rfl, hA, T.cls_Arc, T.na_Arc_flow, rfl, _, rfl, _, _, rfl, rfl, dx, _, hA, (by show 5 < 1000; decide), ?_⟩
    generalize hu1 : upd H a _ = H1
    obtain ⟨h1, c1⟩ := upd_eq hu1
    replace h1 : H1 a = some (.ins (cArc K) dx (arcF t (fv + am))) := h1
    have hS1 : H1 p = some (.ins (cTr K) sx (trF r)) := (c1 p (ne_of hS hA (by intro z; injection z with _ _ z; cases z))).trans hS
    have hR1 : H1 r.lr = some (.lst (rest.map V.int)) := (c1 _ (ne_of ht.rst hA (by intro z; cases z))).trans ht.rst
    refine ⟨_, rfl, p, _, sx, _, _, rfl, hS1, T.cls_Transport, T.na_Transport_rest, rfl, _, rfl, a, _, dx, _, _, rfl, h1, T.cls_Arc, T.na_Arc_tail, rfl, r.lr, _, t.1, .int x, rfl, rfl, SqL.of hR1, by rw [List.getElem?_map, e3]; rfl, _, rfl, _, _, rfl, rfl, r.lr, _, _, _, rfl, rfl, hR1, ixN_of (by rw [List.length_map]; exact (List.getElem?_eq_some_iff.mp e3).1), ?_⟩
    rw [set_map]
    generalize hu2 : upd H1 r.lr _ = H2
    obtain ⟨h2, c2⟩ := upd_eq hu2
    have hS2 : H2 p = some (.ins (cTr K) sx (trF r)) := (c2 p (ne_of hS1 hR1 (by intro z; cases z))).trans hS1
    have hA2 := (c2 a (ne_of h1 hR1 (by intro z; cases z))).trans h1
    refine ⟨_, rfl, p, _, sx, _, _, rfl, hS2, T.cls_Transport, T.na_Transport_rest, rfl, _, rfl, a, _, dx, _, _, rfl, hA2, T.cls_Arc, T.na_Arc_head, rfl, r.lr, _, t.2.1, .int y, rfl, rfl, SqL.of h2, by rw [List.getElem?_map, e4]; rfl, _, rfl, _, _, rfl, rfl, r.lr, _, _, _, rfl, rfl, h2, ixN_of (by rw [List.length_map]; exact (List.getElem?_eq_some_iff.mp e4).1), ?_⟩
    rw [set_map]
    generalize hu3 : upd H2 r.lr _ = H3
    obtain ⟨h3, c3⟩ := upd_eq hu3
    have ch : ∀ b, b ≠ a → b ≠ r.lr → H3 b = H b := fun b n1 n2 => (c3 b n2).trans ((c2 b n2).trans (c1 b n1))
    refine q H3 (fun b o hb n => by rw [ch b (fun c => n (.inr (by rw [c]; exact List.mem_of_getElem? ha))) (fun c => n (.inl c))]; exact hb) ⟨⟨sx, (c3 p (ne_of hS2 h2 (by intro z; cases z))).trans hS2⟩, ?_, h3, ht.ne, ⟨ht.at_.len, by simpa using ht.at_.lenf, ?_⟩, ht.nd, by simpa using ht.len⟩
    · rw [ch _ (ne_of ht.arcs hA (by intro z; cases z)) ht.ne]
      exact ht.arcs
    · intro j b t' f' hb ht' hf'
      by_cases e : j = i
      · subst e
        rw [ha] at hb
        cases hb
        rw [e1] at ht'
        cases ht'
        rw [List.getElem?_set_self (List.getElem?_eq_some_iff.mp e2).1] at hf'
        cases hf'
        exact ⟨dx, (c3 a (ne_of hA2 h2 (by intro z; cases z))).trans hA2⟩
      · rw [List.getElem?_set_ne (fun c => e c.symm)] at hf'
        obtain ⟨db, hB⟩ := ht.at_.at_ hb ht' hf'
        have nb : b ≠ a := fun c => e ((List.getElem?_inj (List.getElem?_eq_some_iff.mp hb).1 ht.nd).mp (by rw [hb, ha, c]))
        exact ⟨db, by rw [ch b nb (ne_of hB ht.rst (by intro z; cases z))]; exact hB⟩
/-! ### next_source -/
abbrev sSrc : Stmt := inClass (topS 7) 4
theorem scSrc : FnScope ["self", "node"] ["self"] (defScope sSrc) := ⟨rfl, rfl, rfl, by decide +kernel, rfl, by decide +kernel, by decide +kernel⟩
def spSrc (K : PySem.W.Frag) : Sp := fun vs H Q _ => ∃ (p : Addr) (r : Tr) (fl rest : List Int), vs = [.ref p] ∧ TrAt K H p r fl rest ∧ r.n ≤ 100 ∧ Q (srcV (srcGo rest r.n 0)) H
theorem srcGo_lt {rest : List Int} : ∀ {f i j : Nat}, srcGo rest f i = some j → j < i + f ∧ 0 < rest.getD j 0
  | f + 1, i, j, h => by
    unfold srcGo at h
    by_cases c : 0 < rest.getD i 0
    · rw [if_pos c] at h
      cases h
      exact ⟨by omega, c⟩
    · rw [if_neg c] at h
      have := srcGo_lt h
      exact ⟨by omega, this.2⟩
theorem cal_src (T : Txt K mg) : MCal P w K mg base 1 (cTr K) "next_source" ["self"] (spSrc K) := by
  refine T.met_next_source.cal (fun _ _ _ _ _ _ us hl => match us, hl with | [_], _ => rfl) fun f fd F => F.ok scSrc (fun vs H Q E h => ?_) fun cdv A outer s H vs Q E hr h => ?_
  · obtain ⟨p, r, fl, rest, rfl, _⟩ := h
    rfl
  · obtain ⟨p, r, fl, rest, rfl, ht, hn, q⟩ := h
    have nd := scSrc.nd
    refine ⟨_, PSs.nox (pss_cons (ps_for PassesOwn.never rfl (pi_range1 rfl T.fr_range (pa_cons (pe_fld (pv 0) rfl) pa_nil)) (pg_name (i := 1) nd rfl (Or.inl rfl))
      (pss_one (ps_if (pt_cmpR op_gt (pe_ix ix_list (pe_fld (pv 0) rfl) (pv 1) (fun _ _ => rfl)) pe_int (nomark _)) (pss_one (ps_ret (pv 1))) pss_nil))) (pss_one (ps_ret pe_non))), ?_⟩
    obtain ⟨sx, hS⟩ := ht.self
    refine ⟨_, rfl, p, _, sx, _, _, rfl, hS, T.cls_Transport, T.na_Transport_nodes, rfl, _, rfl, by omega, by omega, ?_⟩
    refine for_range (lo := 0) (n := r.n) (fun i σ H' => ∃ z, σ = [some (.ref p), z] ∧ H' = H ∧ srcGo rest (r.n - i) i = srcGo rest r.n 0) ⟨none, rfl, rfl, rfl⟩ ?_ ?_
    · intro i σ H' hi ⟨z, e, eh, g⟩
      subst e
      subst eh
      obtain ⟨x, hx⟩ := get_of_lt (l := rest) (i := i) (by rw [ht.len]; exact hi)
      refine ⟨_, rfl, p, _, sx, _, _, rfl, hS, T.cls_Transport, T.na_Transport_rest, rfl, _, rfl, r.lr, _, _, .int x, rfl, rfl, SqL.of ht.rst, (by rw [Int.zero_add]; exact atI_nat (by rw [List.getElem?_map, hx]; rfl)), _, _, rfl, rfl, _, rfl, ?_⟩
      rw [show r.n - i = (r.n - (i + 1)) + 1 by omega] at g
      rw [show srcGo rest (r.n - (i + 1) + 1) i = if 0 < rest.getD i 0 then some i else srcGo rest (r.n - (i + 1)) (i + 1) from rfl, getD_some hx] at g
      by_cases c : x > 0
      · rw [if_pos c] at g
        refine iteD c ?_
        rw [← g] at q
        refine ⟨_, rfl, ?_⟩
        rw [Int.zero_add]
        exact q
      · rw [if_neg c] at g
        exact iteN c ⟨_, rfl, rfl, g⟩
    · intro σ H' ⟨z, e, eh, g⟩
      subst e
      subst eh
      rw [Nat.sub_self] at g
      rw [← g] at q
      exact q
/-! ### spent -/
abbrev sSpent : Stmt := inClass (topS 7) 5
theorem scSpent : FnScope ["self", "arc"] ["self"] (defScope sSpent) := ⟨rfl, rfl, rfl, by decide +kernel, rfl, by decide +kernel, by decide +kernel⟩
/-- a carried transport -/
structure TrDone (K : PySem.W.Frag) (H : Hp) (p : Addr) (ts : List Tri) (fl : List Int) : Prop where
  ex : ∃ dx r, H p = some (.ins (cTr K) dx (trF r ++ [(("done" : PySem.Str), V.bl true)])) ∧ r.ts = ts ∧ H r.la = some (.lst (r.as.map V.ref)) ∧ ArcsAt K H r.as ts fl
def spSpent (K : PySem.W.Frag) : Sp := fun vs H Q _ => ∃ (p : Addr) (ts : List Tri) (fl : List Int), vs = [.ref p] ∧ TrDone K H p ts fl ∧ ts.length ≤ 100 ∧ (∀ t ∈ ts, -(2 ^ 64) < t.2.2 ∧ t.2.2 < 2 ^ 64) ∧ ∀ H', Ext H H' → Q (.int (spentM ts fl)) H'
theorem cal_spent (T : Txt K mg) : MCal P w K mg base 1 (cTr K) "spent" ["self"] (spSpent K) := by
  refine T.met_spent.cal (fun _ _ _ _ _ _ us hl => match us, hl with | [_], _ => rfl) fun f fd F => F.ok scSpent (fun vs H Q E h => ?_) fun cdv A outer s H vs Q E hr h => ?_
  · obtain ⟨p, ts, fl, rfl, _⟩ := h
    rfl
  · obtain ⟨p, ts, fl, rfl, ⟨dx, r, hS, rfl, hL, hA⟩, hl, hb, q⟩ := h
    have nd := scSpent.nd
    refine ⟨_, PSs.nox (pss_one (ps_ret (pe_callB (cr_sum rfl) (by rfl) T.fr_sum (by decide +kernel) (pa_cons (pe_lc (own := [("arc", 1)]) (g := gName 1) (tt := tYes) (te := tOp (rI CMul fun i j => V.int (i * j)) (tFld K (tVar 1) "cost") (tFld K (tVar 1) "flow")) rfl nd (pi_list (pe_fld (pv 0) rfl)) (blkOk_by (N := ["self", "arc"]) (sc := defScope sSpent) (by decide +kernel)) (fun _ _ _ _ _ => pg_name (i := 1) nd rfl (Or.inl rfl)) (fun _ _ _ _ _ => pts_nil)
      (fun _ _ _ _ _ => pe_op op_mul (pe_fld (pv 1) rfl) (pe_fld (pv 1) rfl))) pa_nil)))), ?_⟩
    refine ⟨_, rfl, p, _, dx, _, _, rfl, hS, T.cls_Transport, T.na_Transport_arcs, rfl, r.la, rfl, ⟨_, SqL.of hL⟩, fun D hD => ?_⟩
    let zs : List Int := (r.ts.zip fl).map fun z => z.1.2.2 * z.2
    refine lc_list (K := K) (a := r.la) (xs := r.as.map V.ref) (fun i H' => Ext H H' ∧ H' D = some (.lst ((zs.take i).map V.int))) ⟨Ext.one hD, upd_same⟩ ?_ ?_ ?_
    · intro i H' _ ⟨e, _⟩
      exact SqL.of (e _ _ hL)
    · intro i x H' hx ⟨e, hd⟩
      obtain ⟨a, ha, rfl⟩ := map_get hx
      obtain ⟨t, g, ht, hg, da, hP⟩ := hA.get ha
      have hP' := e _ _ hP
      refine ⟨rfl, ?_⟩
      refine ⟨_, rfl, a, _, da, _, _, rfl, hP', T.cls_Arc, T.na_Arc_cost, rfl, _, rfl, a, _, da, _, _, rfl, hP', T.cls_Arc, T.na_Arc_flow, rfl, _, _, rfl, rfl, .inl (hb t (List.mem_of_getElem? ht)), _, hd, ?_, e.put hD, ?_⟩
      · simp only [List.length_map, List.length_take]
        have : i < r.ts.length := (List.getElem?_eq_some_iff.mp ht).1
        show _ < 16777216
        omega
      · rw [upd_same]
        have hz : zs[i]? = some (t.2.2 * g) := by
          have hz2 : (r.ts.zip fl)[i]? = some (t, g) := by rw [List.getElem?_zip_eq_some]; exact ⟨ht, hg⟩
          simp only [zs, List.getElem?_map, hz2]
          rfl
        rw [List.take_add_one, hz]
        simp
    · intro H' ⟨e, hd⟩
      have hlen : (r.as.map V.ref).length = zs.length := by simp [zs, hA.len, hA.lenf]
      rw [hlen, List.take_length] at hd
      exact ⟨D, zs, rfl, SqL.of hd, q H' e⟩
end
end K30

namespace K30
open PySem PySem.Spec PyProof.Rows L2
theorem minL_spec : ∀ {l : List Int}, l ≠ [] → minL l ∈ l ∧ ∀ y ∈ l, minL l ≤ y
  | [], h => absurd rfl h
  | [x], _ => by simp [minL]
  | x :: y :: r, _ => by
    obtain ⟨h1, h2⟩ := minL_spec (l := y :: r) (by simp)
    unfold minL
    by_cases c : x ≤ minL (y :: r)
    · rw [if_pos c]
      refine ⟨by simp, fun z hz => ?_⟩
      rcases List.mem_cons.mp hz with rfl | hz
      · exact Int.le_refl _
      · exact Int.le_trans c (h2 z hz)
    · rw [if_neg c]
      refine ⟨List.mem_cons_of_mem _ h1, fun z hz => ?_⟩
      rcases List.mem_cons.mp hz with rfl | hz
      · omega
      · exact h2 z hz
theorem minL_is {l : List Int} {m : Int} (h : l ≠ []) (hm : m ∈ l) (hl : ∀ y ∈ l, m ≤ y) : m = minL l := by
  obtain ⟨h1, h2⟩ := minL_spec h
  have := hl _ h1
  have := h2 _ hm
  omega
theorem stepsGo_mem {n : Nat} : ∀ {ts : List Tri} {fl : List Int} {i : Nat}, (∀ t ∈ ts, t.1 < n ∧ t.2.1 < n) → ∀ s ∈ stepsGo i ts fl, (s.beg < n ∧ s.fin < n) ∧ (s.sign = 1 ∨ s.sign = -1)
  | [], _, _, _, s, hs => by simp [stepsGo] at hs
  | _ :: _, [], _, _, s, hs => by simp [stepsGo] at hs
  | t :: ts, f :: fl, i, h, s, hs => by
    rw [stepsGo_cons] at hs
    have ht := h t (by simp)
    rcases List.mem_cons.mp hs with rfl | hs
    · exact ⟨ht, .inl rfl⟩
    · rcases List.mem_append.mp hs with hs | hs
      · split at hs
        · rw [List.mem_singleton] at hs
          subst hs
          exact ⟨⟨ht.2, ht.1⟩, .inr rfl⟩
        · cases hs
      · exact stepsGo_mem (fun t' h' => h t' (List.mem_cons_of_mem _ h')) s hs
theorem carry_step {n : Nat} {ts : List Tri} {f src : Nat} {fl rest fl' : List Int} (h : carryGo n ts (f + 1) (fl, rest) = some fl') (hs : srcGo rest n 0 = some src) :
    ∃ snk sr way fr', sinkOf n rest (distS n (stepsGo 0 ts fl) (some src)).1 = snk :: sr ∧ wayGo (stepsGo 0 ts fl) (distS n (stepsGo 0 ts fl) (some src)).2 src (n + 1) snk [] = some way ∧
      pushAll ts (stepsGo 0 ts fl) (minL (rest.getD src 0 :: -(rest.getD snk 0) :: way.filterMap fun i => ((stepsGo 0 ts fl)[i]?).bind (·.rest))) way (fl, rest) = some fr' ∧ carryGo n ts f fr' = some fl' := by
  unfold carryGo at h
  simp only [hs] at h
  have e : distM n (stepsGo 0 ts fl) src = distS n (stepsGo 0 ts fl) (some src) := rfl
  rw [e] at h
  rcases hd : distS n (stepsGo 0 ts fl) (some src) with ⟨costs, last⟩
  rw [hd] at h
  simp only at h
  cases e1 : sinkOf n rest costs with
  | nil => simp only [e1] at h; cases h
  | cons snk sr =>
    simp only [e1] at h
    cases e2 : wayGo (stepsGo 0 ts fl) last src (n + 1) snk [] with
    | none => simp only [e2] at h; cases h
    | some way =>
      simp only [e2] at h
      cases e3 : pushAll ts (stepsGo 0 ts fl) (minL (rest.getD src 0 :: -(rest.getD snk 0) :: way.filterMap fun i => ((stepsGo 0 ts fl)[i]?).bind (·.rest))) way (fl, rest) with
      | none => simp only [e3] at h; cases h
      | some fr' =>
        simp only [e3] at h
        exact ⟨snk, sr, way, fr', rfl, e2, e3, h⟩
theorem carry_end {n : Nat} {ts : List Tri} {f : Nat} {fl rest fl' : List Int} (h : carryGo n ts (f + 1) (fl, rest) = some fl') (hs : srcGo rest n 0 = none) : fl = fl' := by
  unfold carryGo at h
  simp only [hs] at h
  exact Option.some.inj h
theorem pushAll_cons {ts : List Tri} {ss : List StepM} {a : Int} {i : Nat} {r : List Nat} {fr fr' : List Int × List Int} (h : pushAll ts ss a (i :: r) fr = some fr') :
    ∃ s fr1, ss[i]? = some s ∧ pushM ts fr s.arc (s.sign * a) = some fr1 ∧ pushAll ts ss a r fr1 = some fr' := by
  unfold pushAll at h
  cases e1 : ss[i]? with
  | none => simp only [e1] at h; cases h
  | some s =>
    simp only [e1] at h
    cases e2 : pushM ts fr s.arc (s.sign * a) with
    | none => simp only [e2] at h; cases h
    | some fr1 =>
      simp only [e2] at h
      exact ⟨s, fr1, rfl, e2, h⟩
theorem wayGo_len {ss : List StepM} {last : List (Option Nat)} {src : Nat} : ∀ {f v : Nat} {acc way : List Nat}, wayGo ss last src f v acc = some way → way.length ≤ acc.length + f
  | 0, _, _, _, h => by cases h
  | f + 1, v, acc, way, h => by
    by_cases e : v = src
    · subst e
      rw [wayGo_eq] at h
      cases h
      omega
    · obtain ⟨i, s, _, _, h3⟩ := wayGo_ne e h
      have := wayGo_len h3
      simp at this
      omega
section
variable {P : Program} {w : World} {K : PySem.W.Frag} {mg : Str → Option Value} {base : Heap}
theorem TrAt.notS_lst {H : Hp} {p q : Addr} {r : Tr} {fl rest : List Int} {xs : List V} (t : TrAt K H p r fl rest) (h : H q = some (.lst xs)) (n : q ≠ r.lr) : ¬ r.S q := fun s => by
  rcases s with s | s
  · exact n s
  · obtain ⟨i, hi⟩ := List.mem_iff_getElem?.mp s
    obtain ⟨_, _, _, _, dx, k⟩ := t.at_.get hi
    rw [h] at k
    cases k
theorem TrAt.notS_step {H : Hp} {p q C dx a : Addr} {r : Tr} {fl rest : List Int} {s : StepM} (t : TrAt K H p r fl rest) (h : H q = some (.ins C dx (stepF a s))) : ¬ r.S q := fun s => by
  rcases s with s | s
  · have := t.rst
    rw [← s, h] at this
    cases this
  · obtain ⟨i, hi⟩ := List.mem_iff_getElem?.mp s
    obtain ⟨_, _, _, _, dx, k⟩ := t.at_.get hi
    rw [h] at k
    injection k with k
    injection k with _ _ k
    injection k with k _
    injection k with k _
    revert k
    decide
/-! ### carry_all -/
abbrev sCarry : Stmt := inClass (topS 7) 3
abbrev nCarry : List Str := ["self", "source", "costs", "last", "sinks", "way", "rooms", "amount", "step", "node"]
theorem scCarry : FnScope nCarry ["self"] (defScope sCarry) := ⟨rfl, rfl, rfl, by decide +kernel, rfl, by decide +kernel, by decide +kernel⟩
def spCarry (K : PySem.W.Frag) : Sp := fun vs H Q _ => ∃ (p : Addr) (r : Tr) (fl rest fl' : List Int) (fuel : Nat), vs = [.ref p] ∧ TrAt K H p r fl rest ∧ r.n ≤ 100 ∧ r.as.length ≤ 100 ∧ (∀ t ∈ r.ts, t.1 < r.n ∧ t.2.1 < r.n) ∧ carryGo r.n r.ts fuel (fl, rest) = some fl' ∧
  ∀ H' rest', Frm r.S H H' → TrAt K H' p r fl' rest' → Q (.bl true) H'
theorem cal_carry (T : Txt K mg) : MCal P w K mg base 4 (cTr K) "carry_all" ["self"] (spCarry K) := by
  refine T.met_carry_all.cal (fun _ _ _ _ _ _ us hl => match us, hl with | [_], _ => rfl) fun f fd F => F.ok scCarry (fun vs H Q E h => ?_) fun cdv A outer s H vs Q E hr h => ?_
  · obtain ⟨p, r, fl, rest, fl', fuel, rfl, _⟩ := h
    rfl
  · obtain ⟨p, r, fl, rest, fl', fuel, rfl, ht, hn, hlen, hts, hc, q⟩ := h
    have nd := scCarry.nd
    have hu := hu_of hr
    have cSrc : MCal P w K mg base 1 (cTr K) "next_source" ["self"] (spSrc K) := cal_src T
    have cPush : MCal P w K mg base 1 (cTr K) "push" ["self", "arc", "amount"] (spPush K) := cal_push T
    have cDist : Cal P w K mg base 1 "distances" ["nodes", "steps", "source"] (spDist K) := cal_dist T
    have cWay : Cal P w K mg base 1 "way_back" ["last", "node", "source"] (spWay K) := cal_way T
    have cSteps : Cal P w K mg base 3 "steps_on" ["arcs"] (spSteps K) := cal_steps T
    have hr1 := hr.mono (show 1 ≤ 3 by decide)
    refine ⟨_, PSs.nox (pss_cons (ps_set (i := 1) nd rfl (Or.inl rfl) (pe_mcal0 cSrc T.cls_Transport hr1 (pv 0))) (pss_cons (ps_while PassesOwn.never (pt_cmpR op_notN (pv 1) pe_non (nomark _))
      (pss_cons (ps_asg (pe_cal cDist hr1 rfl (pa_cons (pe_fld (pv 0) rfl) (pa_cons (pe_cal cSteps hr rfl (pa_cons (pe_fld (pv 0) rfl) pa_nil)) (pa_cons (pv 1) pa_nil)))) (pg_tup (by rfl) (pgs_cons (pg_name (i := 2) nd rfl (Or.inr rfl)) (pgs_cons (pg_name (i := 3) nd rfl (Or.inl rfl)) pgs_nil))))
      (pss_cons (ps_setLc (i := 4) (own := [("node", 9)]) (g := gName 9) (tt := tAnd (tTest (tOp (rI0 fun i j => V.bl (decide (i < j))) (tOp (rIxL K) (tFld K (tVar 0) "rest") (tVar 9)) (tC (V.int 0)))) (tB (tDIn (tVar 9) (tVar 2)))) rfl nd rfl rfl (sw_true rfl rfl rfl (by decide +kernel)) (pi_range1 rfl T.fr_range (pa_cons (pe_fld (pv 0) rfl) pa_nil)) (blkOk_by (N := nCarry) (sc := defScope sCarry) (by decide +kernel)) (fun _ _ _ _ _ => pg_name (i := 9) nd rfl (Or.inl rfl)) (fun _ _ _ _ _ => pts_one (PW.pt (pw_and (pt_cmpR op_lt (pe_ix ix_list (pe_fld (pv 0) rfl) (pv 9) (fun _ _ => rfl)) pe_int (nomark _)) (pw_and1 (pt_cmp (pc_din hu (pv 9) (pv 2))))))) (fun _ _ _ _ _ => pv 9))
      (pss_cons (ps_if (pt_cmpR op_eq (pe_callB call_len_seq (by rfl) T.fr_len PySem.boot_len (pa_cons (pv 4) pa_nil)) pe_int (nomark _)) (pss_one ps_never) pss_nil)
      (pss_cons (ps_set (i := 5) nd rfl (Or.inl rfl) (pe_cal cWay hr1 rfl (pa_cons (pv 3) (pa_cons (pe_ix ix_list (pv 4) pe_int (fun _ _ => rfl)) (pa_cons (pv 1) pa_nil)))))
      (pss_cons (ps_setLc (i := 6) (own := [("step", 8)]) (g := gName 8) (tt := tTest (tOp (fun x y H Q => y = .non ∧ Q (.bl (!decide (x = .non))) H) (tFld K (tVar 8) "rest") (tC .non))) (te := tFld K (tVar 8) "rest") rfl nd rfl rfl (sw_true rfl rfl rfl (by decide +kernel)) (pi_list (pv 5)) (blkOk_by (N := nCarry) (sc := defScope sCarry) (by decide +kernel)) (fun _ _ _ _ _ => pg_name (i := 8) nd rfl (Or.inl rfl)) (fun _ _ _ _ _ => pts_one (pt_cmpR op_notN (pe_fld (pv 8) rfl) pe_non (nomark _))) (fun _ _ _ _ _ => pe_fld (pv 8) rfl))
      (pss_cons (ps_set (i := 7) nd rfl (Or.inl rfl) (pe_callB (cr_min rfl) (by rfl) T.fr_min (by decide +kernel) (pa_cons (pe_lst (pa_cons (pe_ix ix_list (pe_fld (pv 0) rfl) (pv 1) (fun _ _ => rfl)) (pa_cons (pe_un un_neg (pe_ix ix_list (pe_fld (pv 0) rfl) (pe_ix ix_list (pv 4) pe_int (fun _ _ => rfl)) (fun _ _ => rfl))) (StX.pa_star (pv 6) pa_nil)))) pa_nil)))
      (pss_cons (ps_for PassesOwn.never rfl (pi_list (pv 5)) (pg_name (i := 8) nd rfl (Or.inl rfl)) (pss_one (ps_expr (pe_mcal cPush T.cls_Transport hr1 (pv 0) (pa_cons (pe_fld (pv 8) rfl) (pa_cons (pe_op op_mul (pe_fld (pv 8) rfl) (pv 7)) pa_nil))))))
      (pss_one (ps_set (i := 1) nd rfl (Or.inl rfl) (pe_mcal0 cSrc T.cls_Transport hr1 (pv 0)))))))))))) (pss_one (ps_ret pe_bl)))), ?_⟩
    obtain ⟨sx, hS⟩ := ht.self
    refine ⟨_, rfl, p, sx, _, rfl, hS, rfl, p, r, fl, rest, rfl, ht, hn, ?_⟩
    refine ⟨fun m σ H' => ∃ fl1 rest1 z2 z3 z4 z5 z6 z7 z8, σ = [some (.ref p), some (srcV (srcGo rest1 r.n 0)), z2, z3, z4, z5, z6, z7, z8, none] ∧ Frm r.S H H' ∧ TrAt K H' p r fl1 rest1 ∧ carryGo r.n r.ts m (fl1, rest1) = some fl',
      ⟨fuel, fl, rest, none, none, none, none, none, none, none, rfl, fun _ _ h _ => h, ht, hc⟩, ?_⟩
    rintro m σ H1 ⟨fl1, rest1, z2, z3, z4, z5, z6, z7, z8, e, fr, t1, hc1⟩
    subst e
    refine ⟨_, rfl, rfl, _, rfl, ?_⟩
    cases m with
    | zero => cases hc1
    | succ m =>
      cases hsrc : srcGo rest1 r.n 0 with
      | none =>
        have e := carry_end hc1 hsrc
        subst e
        refine iteNS rfl ?_
        exact q H1 rest1 fr t1
      | some src =>
        obtain ⟨snk, sr, way, fr2, k1, k2, k3, k4⟩ := carry_step hc1 hsrc
        have hsl := srcGo_lt hsrc
        rw [show decide (srcV (some src) = V.non) = false from decide_eq_false (fun c => by cases c)]
        refine iteT ⟨_, fun _ _ h => h, ?_⟩
        obtain ⟨sx1, hS1⟩ := t1.self
        refine ⟨_, rfl, p, _, sx1, _, _, rfl, hS1, T.cls_Transport, T.na_Transport_nodes, rfl, ?_⟩
        refine ⟨_, rfl, p, _, sx1, _, _, rfl, hS1, T.cls_Transport, T.na_Transport_arcs, rfl, r.la, r.as, r.ts, fl1, rfl, t1.arcs, t1.at_, hlen, fun lp ps H2 e2 nlp hlp st2 => ?_⟩
        have sm_ok := stepsGo_mem (fl := fl1) (i := 0) hts
        refine ⟨_, rfl, r.n, lp, some src, r.as, ps, stepsGo 0 r.ts fl1, rfl, hlp, st2, hn, Nat.le_trans stepsGo_len (by have := t1.at_.len; omega), fun s hs => (sm_ok s hs).1, fun s hs => (by cases hs; omega), fun tt c d H3 md e3 htt ncc ndd dc dl => ?_⟩
        refine ⟨tt, _, rfl, SqT.of htt, rfl, _, _, rfl, _, _, rfl, rfl, ?_⟩
        have e13 : Ext H1 H3 := e2.trans e3
        have hS3 := e13 _ _ hS1
        have hR3 := e13 _ _ t1.rst
        refine ⟨_, rfl, p, _, sx1, _, _, rfl, hS3, T.cls_Transport, T.na_Transport_nodes, rfl, _, rfl, by omega, by omega, fun D hD => ?_⟩
        refine lc_range (lo := 0) (n := r.n) (fun i H' => Ext H3 H' ∧ H' D = some (.lst (((List.range i).filter fun v => decide (rest1.getD v 0 < 0) && ((distS r.n (stepsGo 0 r.ts fl1) (some src)).1.getD v none).isSome).map nV))) ⟨Ext.one hD, upd_same⟩ ?_ ?_
        · intro i H' hi ⟨e4, h4⟩
          obtain ⟨x, hx⟩ := get_of_lt (l := rest1) (i := i) (by rw [t1.len]; exact hi)
          rw [Int.zero_add]
          refine ⟨rfl, ?_⟩
          refine ⟨_, rfl, p, _, sx1, _, _, rfl, e4 _ _ hS3, T.cls_Transport, T.na_Transport_rest, rfl, _, rfl, r.lr, _, _, .int x, rfl, rfl, SqL.of (e4 _ _ hR3), (by exact atI_nat (by rw [List.getElem?_map, hx]; rfl)), _, _, rfl, rfl, _, rfl, ?_⟩
          have fin : ∀ b, (decide (rest1.getD i 0 < 0) && ((distS r.n (stepsGo 0 r.ts fl1) (some src)).1.getD i none).isSome) = b → ((List.range (i + 1)).filter fun v => decide (rest1.getD v 0 < 0) && ((distS r.n (stepsGo 0 r.ts fl1) (some src)).1.getD v none).isSome) =
              ((List.range i).filter fun v => decide (rest1.getD v 0 < 0) && ((distS r.n (stepsGo 0 r.ts fl1) (some src)).1.getD v none).isSome) ++ if b then [i] else [] := by
            intro b hb
            rw [List.range_succ, List.filter_append]
            congr 1
            simp only [List.filter_cons, List.filter_nil, hb]
          rw [getD_some hx] at fin
          by_cases cx : x < 0
          · refine iteD cx ?_
            refine ⟨_, rfl, _, rfl, c, _, rfl, (dc.ext e4).get i, _, rfl, ?_⟩
            cases ev : (distS r.n (stepsGo 0 r.ts fl1) (some src)).1.getD i none with
            | none =>
              refine iteF ⟨e4, ?_⟩
              rw [h4, fin false (by rw [ev]; simp)]
              simp
            | some cv =>
              refine iteT ⟨_, rfl, _, h4, ?_, e4.put hD, ?_⟩
              · have := List.length_filter_le (fun v => decide (rest1.getD v 0 < 0) && ((distS r.n (stepsGo 0 r.ts fl1) (some src)).1.getD v none).isSome) (List.range i)
                simp only [List.length_map, List.length_range] at this ⊢
                show _ < 16777216
                omega
              · rw [upd_same, fin true (by rw [ev]; simp [cx])]
                simp
          · refine iteN cx ?_
            refine iteF ⟨e4, ?_⟩
            rw [h4, fin false (by simp [cx])]
            simp
        · intro H4 ⟨e4, h4⟩
          rw [show ((List.range r.n).filter fun v => decide (rest1.getD v 0 < 0) && ((distS r.n (stepsGo 0 r.ts fl1) (some src)).1.getD v none).isSome) = snk :: sr from k1] at h4
          refine ⟨_, rfl, D, _, rfl, .inl (SqL.of h4), rfl, _, rfl, ?_⟩
          refine iteN (by simp; omega) ?_
          have hsnk : snk ∈ sinkOf r.n rest1 (distS r.n (stepsGo 0 r.ts fl1) (some src)).1 := by rw [k1]; simp
          have hsnk2 : snk < r.n := by
            have := (List.mem_filter.mp hsnk).1
            simpa using this
          have at0 : atI ((snk :: sr).map nV) 0 = some (nV snk) := atI_nat (j := 0) rfl
          refine ⟨_, rfl, _, rfl, D, _, _, _, rfl, rfl, SqL.of h4, at0, _, rfl, d, snk, src, r.as, ps, stepsGo 0 r.ts fl1, _, md, r.n + 1, way, rfl, dl.ext e4, pairedMono (fun b s hb => stepP_mono (fun q dq fs hq => (e3.trans e4) _ _ hq) hb) st2, by omega, k2, fun wl rs H5 e5 nwl hwl hrs => ?_⟩
          have e15 : Ext H1 H5 := (e13.trans e4).trans e5
          have st5 : StepsAt K H5 r.as ps (stepsGo 0 r.ts fl1) := pairedMono (fun b s hb => stepP_mono (fun q dq fs hq => ((e3.trans e4).trans e5) _ _ hq) hb) st2
          refine ⟨_, rfl, wl, rfl, ⟨_, SqL.of hwl⟩, fun D2 hD2 => ?_⟩
          let rm : List Nat → List Int := fun l => l.filterMap fun i => ((stepsGo 0 r.ts fl1)[i]?).bind (·.rest)
          have lway : rs.length = way.length := paired_len hrs
          refine lc_list (K := K) (a := wl) (xs := rs.map V.ref) (fun i H' => Ext H5 H' ∧ H' D2 = some (.lst ((rm (way.take i)).map V.int))) ⟨Ext.one hD2, upd_same⟩ ?_ ?_ ?_
          · intro i H' _ ⟨e6, _⟩
            exact SqL.of (e6 _ _ hwl)
          · intro i x H' hx ⟨e6, h6⟩
            obtain ⟨a, ha, rfl⟩ := map_get hx
            obtain ⟨wi, hwi⟩ := get_of_lt (l := way) (i := i) (by rw [← lway]; exact (List.getElem?_eq_some_iff.mp ha).1)
            have hpw : ps[wi]? = some a := paired_get hrs ha hwi
            obtain ⟨st, hsw⟩ := get_of_lt (l := stepsGo 0 r.ts fl1) (i := wi) (by rw [← paired_len st5]; exact (List.getElem?_eq_some_iff.mp hpw).1)
            obtain ⟨dx, ar, har, hP⟩ := paired_get st5 hpw hsw
            have hP6 := e6 _ _ hP
            have tk : rm (way.take (i + 1)) = rm (way.take i) ++ (match st.rest with | none => [] | some y => [y]) := by
              simp only [rm]
              rw [List.take_add_one, hwi, List.filterMap_append]
              congr 1
              simp only [Option.toList, List.filterMap_cons, List.filterMap_nil, hsw, Option.bind_some]
              cases st.rest <;> rfl
            refine ⟨rfl, ?_⟩
            refine ⟨_, rfl, a, _, dx, _, _, rfl, hP6, T.cls_Step, T.na_Step_rest, rfl, rfl, _, rfl, ?_⟩
            cases er : st.rest with
            | none =>
              refine iteNS rfl ?_
              rw [tk, er]
              exact ⟨e6, by simpa using h6⟩
            | some y =>
              refine iteT ⟨_, rfl, a, _, dx, _, oV st.rest, rfl, hP6, T.cls_Step, T.na_Step_rest, rfl, _, h6, ?_, e6.put hD2, ?_⟩
              · have h1 := List.length_filterMap_le (fun i => ((stepsGo 0 r.ts fl1)[i]?).bind (·.rest)) (way.take i)
                have h2 : (way.take i).length ≤ i := by simp; omega
                have h3 := (List.getElem?_eq_some_iff.mp hwi).1
                have h4 := wayGo_len k2
                simp only [List.length_map]
                show (List.filterMap _ _).length < 16777216
                simp at h4
                omega
              · rw [upd_same, tk, er]
                simp [oV]
          · intro H6 ⟨e6, h6⟩
            rw [List.length_map, lway, List.take_length] at h6
            have e16 := e15.trans e6
            obtain ⟨xs, hxs⟩ := get_of_lt (l := rest1) (i := src) (by rw [t1.len]; omega)
            obtain ⟨xk, hxk⟩ := get_of_lt (l := rest1) (i := snk) (by rw [t1.len]; omega)
            have hS6 := e16 _ _ hS1
            have hR6 := e16 _ _ t1.rst
            have h46 := (e5.trans e6) _ _ h4
            refine ⟨_, rfl, p, _, sx1, _, _, rfl, hS6, T.cls_Transport, T.na_Transport_rest, rfl, _, rfl, r.lr, _, _, .int xs, rfl, rfl, SqL.of hR6, atI_nat (by rw [List.getElem?_map, hxs]; rfl), ?_⟩
            refine ⟨_, rfl, p, _, sx1, _, _, rfl, hS6, T.cls_Transport, T.na_Transport_rest, rfl, _, rfl, D, _, _, _, rfl, rfl, SqL.of h46, at0, r.lr, _, _, .int xk, rfl, rfl, SqL.of hR6, atI_nat (by rw [List.getElem?_map, hxk]; rfl), _, rfl, ?_⟩
            refine ⟨_, rfl, D2, _, rfl, .inr (SqL.of h6), ?_⟩
            have hrm : (rm way).length ≤ way.length := List.length_filterMap_le _ _
            have hwl2 := wayGo_len k2
            simp at hwl2
            refine ⟨by simp only [List.length_cons, List.length_append, List.length_map, List.length_nil]; show _ ≤ 16777216; omega, fun lm hlm => ?_⟩
            generalize hu7 : upd H6 lm _ = H7
            obtain ⟨h7, c7⟩ := upd_eq hu7
            have e67 : Ext H6 H7 := Ext.refl.chg hlm c7
            refine ⟨lm, xs :: -xk :: rm way, rfl, SqL.of (by rw [h7]; simp), by simp, fun am ham hle => ?_⟩
            have eam := minL_is (by simp) ham hle
            have k3' : pushAll r.ts (stepsGo 0 r.ts fl1) am way (fl1, rest1) = some fr2 := by
              rw [getD_some hxs, getD_some hxk] at k3
              rw [eam]
              exact k3
            have e17 : Ext H1 H7 := e16.trans e67
            have t7 : TrAt K H7 p r fl1 rest1 := t1.ext e17
            have hwl7 : H7 wl = some (.lst (rs.map V.ref)) := (e6.trans e67) _ _ hwl
            have nwl7 : ¬ r.S wl := t7.notS_lst hwl7 (ne_of_none (h := (e13.trans e4) _ _ t1.rst) nwl).symm
            have st7 : StepsAt K H7 r.as ps (stepsGo 0 r.ts fl1) := pairedMono (fun b s hb => stepP_mono (fun q dq fs hq => (e6.trans e67) _ _ hq) hb) st5
            refine ⟨_, rfl, wl, rfl, ⟨_, SqL.of hwl7⟩, ?_⟩
            refine for_list (xs := rs.map V.ref) (fun i σ H' => ∃ z flc restc, σ = [some (.ref p), some (srcV (some src)), some (.ref c), some (.ref d), some (.ref D), some (.ref wl), some (.ref D2), some (.int am), z, none] ∧ Frm r.S H7 H' ∧ TrAt K H' p r flc restc ∧
              pushAll r.ts (stepsGo 0 r.ts fl1) am (way.drop i) (flc, restc) = some fr2) ⟨z8, fl1, rest1, rfl, fun _ _ h _ => h, t7, k3'⟩ ?_ ?_ ?_
            · intro i σ H' _ ⟨z, flc, restc, _, f8, _⟩
              exact SqL.of (f8 _ _ hwl7 nwl7)
            · intro i x σ H8 hx ⟨z, flc, restc, e, f8, t8, p8⟩
              subst e
              obtain ⟨a, ha, rfl⟩ := map_get hx
              obtain ⟨wi, hwi⟩ := get_of_lt (l := way) (i := i) (by rw [← lway]; exact (List.getElem?_eq_some_iff.mp ha).1)
              rw [drop_cons hwi] at p8
              obtain ⟨st, ⟨fl9, rest9⟩, hsw, hpm, p9⟩ := pushAll_cons p8
              have hpw : ps[wi]? = some a := paired_get hrs ha hwi
              obtain ⟨dx, ar, har, hP⟩ := paired_get st7 hpw hsw
              have hP8 := f8 _ _ hP (t7.notS_step hP)
              obtain ⟨sx8, hS8⟩ := t8.self
              have sgn := (sm_ok st (List.mem_of_getElem? hsw)).2
              refine ⟨_, rfl, p, sx8, _, rfl, hS8, rfl, _, rfl, a, _, dx, _, _, rfl, hP8, T.cls_Step, T.na_Step_arc, rfl, _, rfl, a, _, dx, _, _, rfl, hP8, T.cls_Step, T.na_Step_sign, rfl, _, rfl, _, _, rfl, rfl, .inl (by rcases sgn with g | g <;> rw [g] <;> decide), ?_⟩
              exact ⟨p, ar, r, flc, restc, fl9, rest9, st.arc, _, rfl, t8, har, hpm, fun H9 f9 t9 => ⟨_, fl9, rest9, rfl, f8.trans f9, t9, p9⟩⟩
            · intro σ H8 ⟨z, flc, restc, e, f8, t8, p8⟩
              subst e
              rw [List.length_map, lway, drop_len] at p8
              have p9 : (flc, restc) = fr2 := by simpa [pushAll] using p8
              subst p9
              obtain ⟨sx8, hS8⟩ := t8.self
              refine ⟨_, rfl, p, sx8, _, rfl, hS8, rfl, p, r, flc, restc, rfl, t8, hn, ?_⟩
              exact ⟨m, Nat.lt_succ_self _, flc, restc, _, _, _, _, _, _, _, rfl, (fr.trans e17.frm).trans f8, t8, k4⟩
end
end K30

namespace K30
open PySem PySem.Spec PyProof.Rows L2
section
theorem ArcsAt.snoc {K : PySem.W.Frag} {H : Hp} {as : List Addr} {ts : List Tri} {fl : List Int} {a : Addr} {t : Tri} {f : Int} (h : ArcsAt K H as ts fl) (k : ArcP K H a t f) : ArcsAt K H (as ++ [a]) (ts ++ [t]) (fl ++ [f]) := by
  refine ⟨by simp [h.len], by simp [h.lenf], fun {i b u g} hb hu hg => ?_⟩
  by_cases c : i < as.length
  · rw [List.getElem?_append_left c] at hb
    rw [List.getElem?_append_left (by rw [← h.len]; exact c)] at hu
    rw [List.getElem?_append_left (by rw [h.lenf, ← h.len]; exact c)] at hg
    exact h.at_ hb hu hg
  · have e : i = as.length := by
      have := (List.getElem?_eq_some_iff.mp hb).1
      simp at this
      omega
    subst e
    rw [List.getElem?_append_right (Nat.le_refl _)] at hb
    rw [List.getElem?_append_right (by rw [h.len]; exact Nat.le_refl _)] at hu
    rw [List.getElem?_append_right (by rw [h.lenf, h.len]; exact Nat.le_refl _)] at hg
    simp at hb
    simp [h.len] at hu
    simp [h.lenf, h.len] at hg
    subst hb
    subst hu
    subst hg
    exact k
variable {P : Program} {w : World} {K : PySem.W.Frag} {mg : Str → Option Value} {base : Heap}
/-! ### fill_softs -/
abbrev sFill : Stmt := inClass (topS 7) 2
theorem scFill : FnScope ["self", "costs", "last", "arc"] ["self"] (defScope sFill) := ⟨rfl, rfl, rfl, by decide +kernel, rfl, by decide +kernel, by decide +kernel⟩
def spFill (K : PySem.W.Frag) : Sp := fun vs H Q _ => ∃ (p : Addr) (r : Tr) (fl rest : List Int), vs = [.ref p] ∧ TrAt K H p r fl rest ∧ r.n ≤ 100 ∧ r.as.length ≤ 100 ∧ (∀ t ∈ r.ts, t.1 < r.n ∧ t.2.1 < r.n) ∧ H r.lh = some (.lst (r.as.map V.ref)) ∧ H r.ls = some (.lst []) ∧
  ∀ H', Ext H H' → Q .non H'
theorem cal_fill (T : Txt K mg) : MCal P w K mg base 4 (cTr K) "fill_softs" ["self"] (spFill K) := by
  refine T.met_fill_softs.cal (fun _ _ _ _ _ _ us hl => match us, hl with | [_], _ => rfl) fun f fd F => F.ok scFill (fun vs H Q E h => ?_) fun cdv A outer s H vs Q E hr h => ?_
  · obtain ⟨p, r, fl, rest, rfl, _⟩ := h
    rfl
  · obtain ⟨p, r, fl, rest, rfl, ht, hn, hlen, hts, hlh, hls, q⟩ := h
    have nd := scFill.nd
    have cDist : Cal P w K mg base 1 "distances" ["nodes", "steps", "source"] (spDist K) := cal_dist T
    have cSteps : Cal P w K mg base 3 "steps_on" ["arcs"] (spSteps K) := cal_steps T
    have hr1 := hr.mono (show 1 ≤ 3 by decide)
    refine ⟨_, PSs.nox (pss_cons (ps_asg (pe_cal cDist hr1 rfl (pa_cons (pe_fld (pv 0) rfl) (pa_cons (pe_cal cSteps hr rfl (pa_cons (pe_fld (pv 0) rfl) pa_nil)) (pa_cons pe_non pa_nil)))) (pg_tup (by rfl) (pgs_cons (pg_name (i := 1) nd rfl (Or.inl rfl)) (pgs_cons (pg_name (i := 2) nd rfl (Or.inl rfl)) pgs_nil))))
      (pss_one (ps_for PassesOwn.never rfl (pi_list (pe_fld (pv 0) rfl)) (pg_name (i := 3) nd rfl (Or.inl rfl)) (pss_one ps_never)))), ?_⟩
    obtain ⟨sx1, hS1⟩ := ht.self
    refine ⟨_, rfl, p, _, sx1, _, _, rfl, hS1, T.cls_Transport, T.na_Transport_nodes, rfl, ?_⟩
    refine ⟨_, rfl, p, _, sx1, _, _, rfl, hS1, T.cls_Transport, T.na_Transport_hard, rfl, r.lh, r.as, r.ts, fl, rfl, hlh, ht.at_, hlen, fun lp ps H2 e2 nlp hlp st2 => ?_⟩
    have sm_ok := stepsGo_mem (fl := fl) (i := 0) hts
    refine ⟨r.n, lp, none, r.as, ps, stepsGo 0 r.ts fl, rfl, hlp, st2, hn, Nat.le_trans stepsGo_len (by have := ht.at_.len; omega), fun s hs => (sm_ok s hs).1, fun s hs => (by cases hs), fun tt c d H3 md e3 htt ncc ndd dc dl => ?_⟩
    refine ⟨tt, _, rfl, SqT.of htt, rfl, _, _, rfl, _, _, rfl, rfl, ?_⟩
    have e13 : Ext H H3 := e2.trans e3
    refine ⟨_, rfl, p, _, sx1, _, _, rfl, e13 _ _ hS1, T.cls_Transport, T.na_Transport_softs, rfl, r.ls, rfl, ⟨_, SqL.of (e13 _ _ hls)⟩, ?_⟩
    refine for_list (xs := []) (fun i σ H' => H' = H3) rfl ?_ ?_ ?_
    · intro i σ H' _ e
      subst e
      exact SqL.of (e13 _ _ hls)
    · intro i x σ H' hx e
      simp at hx
    · intro σ H' e
      subst e
      exact q _ e13
/-! ### Transport -/
abbrev sTr : Stmt := inClass (topS 7) 0
abbrev nTr : List Str := ["self", "nodes", "triples", "softs", "balances", "tail", "head", "cost", "room"]
theorem scTr : FnScope nTr ["self", "nodes", "triples", "softs", "balances"] (defScope sTr) := ⟨rfl, rfl, rfl, by decide +kernel, rfl, by decide +kernel, by decide +kernel⟩
abbrev TrisAt (H : Hp) : List Addr → List Tri → Prop := Paired fun p t => H p = some (.tup [nV t.1, nV t.2.1, .int t.2.2])
def spTr (K : PySem.W.Frag) : Sp := fun vs H Q _ => ∃ (p dx lt lsf lb : Addr) (n : Nat) (tps : List Addr) (ts : List Tri) (bal fl : List Int) (fuel : Nat), vs = [.ref p, nV n, .ref lt, .ref lsf, .ref lb] ∧ H p = some (.ins (cTr K) dx []) ∧
  H lt = some (.lst (tps.map V.ref)) ∧ TrisAt H tps ts ∧ H lsf = some (.lst []) ∧ H lb = some (.lst (bal.map V.int)) ∧ bal.length = n ∧ n ≤ 100 ∧ ts.length ≤ 100 ∧ (∀ t ∈ ts, t.1 < n ∧ t.2.1 < n) ∧
  carryGo n ts fuel (List.replicate ts.length 0, bal) = some fl ∧ ∀ H', (∀ q o, q ≠ p → H q = some o → H' q = some o) → TrDone K H' p ts fl → Q .non H'
theorem cal_tr (T : Txt K mg) : ICal P w K mg base 5 "Transport" (cTr K) ["self", "nodes", "triples", "softs", "balances"] (spTr K) := by
  refine T.ini_Transport.cal (fun _ _ _ _ _ _ us hl => match us, hl with | [_, _, _, _, _], _ => rfl) fun f fd F => F.ok scTr (fun vs H Q E h => ?_) fun cdv A outer s H vs Q E hr h => ?_
  · obtain ⟨p, dx, lt, lsf, lb, n, tps, ts, bal, fl, fuel, rfl, _⟩ := h
    rfl
  · obtain ⟨p, dx, lt, lsf, lb, n, tps, ts, bal, fl, fuel, rfl, hp, hlt, htp, hlsf, hlb, hbl, hn, hlen, hts, hc, q⟩ := h
    have nd := scTr.nd
    have cA : ICal P w K mg base 1 "Arc" (cArc K) ["self", "tail", "head", "cost", "room"] (spArc K) := cal_arc T
    have cFill : MCal P w K mg base 4 (cTr K) "fill_softs" ["self"] (spFill K) := cal_fill T
    have cCarry : MCal P w K mg base 4 (cTr K) "carry_all" ["self"] (spCarry K) := cal_carry T
    have hr2 := hr.mono (show 1 + 1 ≤ 4 by decide)
    refine ⟨_, PSs.nox (pss_cons (ps_fld (pv 0) (pv 1) rfl)
      (pss_cons (ps_fld (pv 0) (pe_lc (own := [("tail", 5), ("head", 6), ("cost", 7)]) (g := gTup K 3 (gCons (gName 5) (gCons (gName 6) (gCons (gName 7) gNil)))) (tt := tYes) (te := tMake (cArc K) (spArc K) [] E0 (tCons (tVar 5) (tCons (tVar 6) (tCons (tVar 7) (tCons (tC .non) tNil))))) rfl nd (pi_list (pv 2)) (blkOk_by (N := nTr) (sc := defScope sTr) (by decide +kernel))
        (fun _ _ _ _ _ => pg_tup rfl (pgs_cons (pg_name (i := 5) nd rfl (Or.inl rfl)) (pgs_cons (pg_name (i := 6) nd rfl (Or.inl rfl)) (pgs_cons (pg_name (i := 7) nd rfl (Or.inl rfl)) pgs_nil)))) (fun _ _ _ _ _ => pts_nil) (fun _ _ _ _ _ => pe_ical cA hr2 rfl (pa_cons (pv 5) (pa_cons (pv 6) (pa_cons (pv 7) (pa_cons pe_non pa_nil)))))) rfl)
      (pss_cons (ps_fld (pv 0) (pe_lc (own := [("tail", 5), ("head", 6), ("cost", 7), ("room", 8)]) (g := gTup K 4 (gCons (gName 5) (gCons (gName 6) (gCons (gName 7) (gCons (gName 8) gNil))))) (tt := tYes) (te := tMake (cArc K) (spArc K) [] E0 (tCons (tVar 5) (tCons (tVar 6) (tCons (tVar 7) (tCons (tVar 8) tNil))))) rfl nd (pi_list (pv 3)) (blkOk_by (N := nTr) (sc := defScope sTr) (by decide +kernel))
        (fun _ _ _ _ _ => pg_tup rfl (pgs_cons (pg_name (i := 5) nd rfl (Or.inl rfl)) (pgs_cons (pg_name (i := 6) nd rfl (Or.inl rfl)) (pgs_cons (pg_name (i := 7) nd rfl (Or.inl rfl)) (pgs_cons (pg_name (i := 8) nd rfl (Or.inl rfl)) pgs_nil))))) (fun _ _ _ _ _ => pts_nil) (fun _ _ _ _ _ => pe_ical cA hr2 rfl (pa_cons (pv 5) (pa_cons (pv 6) (pa_cons (pv 7) (pa_cons (pv 8) pa_nil)))))) rfl)
      (pss_cons (ps_fld (pv 0) (pe_lst (StX.pa_star (pe_fld (pv 0) rfl) (StX.pa_star (pe_fld (pv 0) rfl) pa_nil))) rfl)
      (pss_cons (ps_fld (pv 0) (pe_callTy call_list_of (by rfl) T.fr_list (by decide +kernel) (pa_cons (pv 4) pa_nil)) rfl)
      (pss_cons (ps_expr (pe_mcal0 cFill T.cls_Transport hr (pv 0)))
      (pss_one (ps_fld (pv 0) (pe_mcal0 cCarry T.cls_Transport hr (pv 0)) rfl)))))))), ?_⟩
    refine ⟨_, rfl, _, rfl, p, _, dx, _, rfl, hp, T.cls_Transport, T.na_Transport_nodes, (by show 0 < 1000; decide), ?_⟩
    generalize hu1 : upd H p _ = H1
    obtain ⟨h1, c1⟩ := upd_eq hu1
    have f1 : Frm (fun q => q = p) H H1 := Frm.chg (fun _ _ h _ => h) (.inl rfl) c1
    have np : ∀ {q : Addr} {o : HO}, H q = some o → (∀ C d fs, o ≠ .ins C d fs) → ¬ q = p := fun h n e => by
      subst e
      rw [hp] at h
      cases h
      exact n _ _ _ rfl
    have hlt1 := f1 _ _ hlt (np hlt (by intro _ _ _ z; cases z))
    have htp1 : TrisAt H1 tps ts := pairedMono (fun a t h => f1 _ _ h (np h (by intro _ _ _ z; cases z))) htp
    refine ⟨_, rfl, lt, rfl, ⟨_, SqL.of hlt1⟩, fun D hD => ?_⟩
    refine lc_list (K := K) (a := lt) (xs := tps.map V.ref) (fun i H' => Ext H1 H' ∧ ∃ as, H' D = some (.lst (as.map V.ref)) ∧ as.Nodup ∧ (∀ a ∈ as, H1 a = none) ∧ ArcsAt K H' as (ts.take i) (List.replicate i 0)) ⟨Ext.one hD, [], upd_same, List.nodup_nil, by simp, ⟨rfl, by simp, by simp⟩⟩ ?_ ?_ ?_
    · intro i H' _ ⟨e, _⟩
      exact SqL.of (e _ _ hlt1)
    · intro i x H' hx ⟨e2, as, h2, nd2, nn2, a2⟩
      obtain ⟨tp, htp0, rfl⟩ := map_get hx
      obtain ⟨t, ht⟩ := get_of_lt (l := ts) (i := i) (by rw [← paired_len htp1]; exact (List.getElem?_eq_some_iff.mp htp0).1)
      have hi : i < ts.length := (List.getElem?_eq_some_iff.mp ht).1
      have hT := e2 _ _ (paired_get htp1 htp0 ht)
      have la : as.length = i := by rw [a2.len, List.length_take]; omega
      refine ⟨tp, _, rfl, SqT.of hT, rfl, _, _, rfl, _, _, rfl, _, _, rfl, rfl, rfl, ?_⟩
      refine ⟨_, rfl, _, rfl, _, rfl, fun x dxx nx ndx nex => spArc_mk (t := t) nx ndx fun H3 e3 hx3 => ⟨_, e3 _ _ h2, ?_, (e2.trans e3).put hD, as ++ [x], ?_, ?_, ?_, ?_⟩⟩
      · rw [List.length_map, la]
        show _ < 16777216
        omega
      · rw [upd_same]
        simp
      · rw [List.nodup_append]
        refine ⟨nd2, by simp, fun a ha b hb => ?_⟩
        rw [List.mem_singleton] at hb
        subst hb
        intro e
        subst e
        obtain ⟨j, hj⟩ := List.mem_iff_getElem?.mp ha
        obtain ⟨_, _, _, _, d, k⟩ := a2.get hj
        rw [nx] at k
        cases k
      · intro a ha
        rcases List.mem_append.mp ha with ha | ha
        · exact nn2 a ha
        · rw [List.mem_singleton] at ha
          subst ha
          exact e2.nil nx
      · rw [List.take_add_one, ht, List.replicate_succ']
        refine ArcsAt.snoc ((a2.ext e3).mono fun a ha o ho => ?_) ⟨dxx, ?_⟩
        · obtain ⟨j, hj⟩ := List.mem_iff_getElem?.mp ha
          obtain ⟨_, _, _, _, d, k⟩ := a2.get hj
          rw [upd_ne (ne_of k h2 (by intro z; cases z))]
          exact ho
        · rw [upd_ne (ne_of_none h2 nx).symm]
          exact hx3
    · intro H2 ⟨e2, as, h2, nd2, nn2, a2⟩
      have lts : (tps.map V.ref).length = ts.length := by rw [List.length_map, paired_len htp1]
      rw [lts, List.take_length] at a2
      have las : as.length = ts.length := a2.len
      have h12 := e2 _ _ h1
      refine ⟨_, rfl, p, _, dx, _, rfl, h12, T.cls_Transport, T.na_Transport_hard, (by show 1 < 1000; decide), ?_⟩
      generalize hu3 : upd H2 p _ = H3
      obtain ⟨h3, c3⟩ := upd_eq hu3
      have f3 : Frm (fun q => q = p) H H3 := (f1.trans e2.frm).chg (.inl rfl) c3
      have hD3 : H3 D = some (.lst (as.map V.ref)) := (c3 D (ne_of h2 h12 (by intro z; cases z))).trans h2
      have hD0 : H1 D = none := hD
      have nas : ∀ a ∈ as, a ≠ p := fun a ha e => by
        have := nn2 a ha
        rw [e, h1] at this
        cases this
      have a3 : ArcsAt K H3 as ts (List.replicate ts.length 0) := a2.mono fun a ha o ho => (c3 a (nas a ha)).trans ho
      refine ⟨_, rfl, lsf, rfl, ⟨_, SqL.of (f3 _ _ hlsf (np hlsf (by intro _ _ _ z; cases z)))⟩, fun D2 hD2 => ?_⟩
      refine lc_list (K := K) (a := lsf) (xs := []) (fun i H' => H' = upd H3 D2 (.lst [])) rfl ?_ ?_ ?_
      · intro i H' _ e
        subst e
        exact SqL.of ((Ext.one hD2) _ _ (f3 _ _ hlsf (np hlsf (by intro _ _ _ z; cases z))))
      · intro i x H' hx _
        simp at hx
      · intro H4 hu4
        obtain ⟨h4, c4⟩ := upd_eq hu4.symm
        have e34 : Ext H3 H4 := Ext.refl.chg hD2 c4
        have h34 := e34 _ _ h3
        refine ⟨_, rfl, p, _, dx, _, rfl, h34, T.cls_Transport, T.na_Transport_softs, (by show 2 < 1000; decide), ?_⟩
        generalize hu5 : upd H4 p _ = H5
        obtain ⟨h5, c5⟩ := upd_eq hu5
        have f5 : Frm (fun q => q = p) H H5 := (f3.trans e34.frm).chg (.inl rfl) c5
        have nDp : D ≠ p := ne_of h2 h12 (by intro z; cases z)
        have nD2p : D2 ≠ p := ne_of h4 h34 (by intro z; cases z)
        have hD5 : H5 D = some (.lst (as.map V.ref)) := (c5 D nDp).trans (e34 _ _ hD3)
        have hD25 : H5 D2 = some (.lst []) := (c5 D2 nD2p).trans h4
        have a5 : ArcsAt K H5 as ts (List.replicate ts.length 0) := (a3.ext e34).mono fun a ha o ho => (c5 a (nas a ha)).trans ho
        refine ⟨_, rfl, p, _, dx, _, _, rfl, h5, T.cls_Transport, T.na_Transport_hard, rfl, D, _, rfl, .inr (SqL.of hD5), ?_⟩
        refine ⟨_, rfl, p, _, dx, _, _, rfl, h5, T.cls_Transport, T.na_Transport_softs, rfl, D2, _, rfl, .inr (SqL.of hD25), ?_⟩
        refine ⟨by simp only [List.append_nil, List.length_map]; show _ ≤ 16777216; omega, fun la hla => ?_⟩
        generalize hu6 : upd H5 la _ = H6
        obtain ⟨h6, c6⟩ := upd_eq hu6
        rw [List.append_nil, List.append_nil] at h6
        have e56 : Ext H5 H6 := Ext.refl.chg hla c6
        have h56 := e56 _ _ h5
        refine ⟨_, rfl, p, _, dx, _, rfl, h56, T.cls_Transport, T.na_Transport_arcs, (by show 3 < 1000; decide), ?_⟩
        generalize hu7 : upd H6 p _ = H7
        obtain ⟨h7, c7⟩ := upd_eq hu7
        have f7 : Frm (fun q => q = p) H H7 := (f5.trans e56.frm).chg (.inl rfl) c7
        have nlap : la ≠ p := ne_of h6 h56 (by intro z; cases z)
        refine ⟨_, rfl, lb, _, rfl, .inl (SqL.of (f7 _ _ hlb (np hlb (by intro _ _ _ z; cases z)))), fun lr hlr => ?_⟩
        generalize hu8 : upd H7 lr _ = H8
        obtain ⟨h8, c8⟩ := upd_eq hu8
        have e78 : Ext H7 H8 := Ext.refl.chg hlr c8
        have h78 := e78 _ _ h7
        refine ⟨_, rfl, p, _, dx, _, rfl, h78, T.cls_Transport, T.na_Transport_rest, (by show 4 < 1000; decide), ?_⟩
        generalize hu9 : upd H8 p _ = H9
        obtain ⟨h9, c9⟩ := upd_eq hu9
        have f9 : Frm (fun q => q = p) H H9 := (f7.trans e78.frm).chg (.inl rfl) c9
        have nlrp : lr ≠ p := ne_of h8 h78 (by intro z; cases z)
        have to9 : ∀ {q : Addr} {o : HO}, H5 q = some o → q ≠ p → H9 q = some o := fun {q o} h n => (c9 q n).trans (e78 _ _ ((c7 q n).trans (e56 _ _ h)))
        have hla9 : H9 la = some (.lst (as.map V.ref)) := (c9 la nlap).trans (e78 _ _ ((c7 la nlap).trans h6))
        have hlr9 : H9 lr = some (.lst (bal.map V.int)) := (c9 lr nlrp).trans h8
        have nlalr : la ≠ lr := fun e => by
          have := (c7 la nlap).trans h6
          rw [e, hlr] at this
          cases this
        let r : Tr := ⟨n, D, D2, la, lr, as, ts⟩
        have t9 : TrAt K H9 p r (List.replicate ts.length 0) bal := ⟨⟨dx, h9⟩, hla9, hlr9, nlalr, a5.mono fun a ha o ho => to9 ho (nas a ha), nd2, hbl⟩
        refine ⟨_, rfl, p, dx, _, rfl, h9, rfl, p, r, _, bal, rfl, t9, hn, (by show as.length ≤ 100; omega), hts, to9 hD5 nDp, to9 hD25 nD2p, fun H10 e10 => ?_⟩
        have t10 := t9.ext e10
        have h10 := e10 _ _ h9
        refine ⟨_, rfl, p, dx, _, rfl, h10, rfl, p, r, _, bal, fl, fuel, rfl, t10, hn, (by show as.length ≤ 100; omega), hts, hc, fun H11 rest' f11 t11 => ?_⟩
        obtain ⟨dx11, h11⟩ := t11.self
        refine ⟨_, rfl, p, _, dx11, _, rfl, h11, T.cls_Transport, T.na_Transport_done, (by show 5 < 1000; decide), ?_⟩
        generalize hu12 : upd H11 p _ = H12
        obtain ⟨h12, c12⟩ := upd_eq hu12
        refine q H12 (fun q' o nq ho => ?_) ⟨dx11, r, h12, rfl, (c12 la (ne_of t11.arcs h11 (by intro z; cases z))).trans t11.arcs, t11.at_.mono fun a ha o ho => ?_⟩
        · have n1 : ¬ r.S q' := fun s => by
            rcases s with s | s
            · have s' : q' = lr := s
              have := f7 _ _ ho nq
              rw [s', hlr] at this
              cases this
            · have := f1 _ _ ho nq
              rw [nn2 q' s] at this
              cases this
          exact (c12 q' nq).trans (f11 _ _ (e10 _ _ (f9 _ _ ho nq)) n1)
        · have : a ≠ p := nas a ha
          exact (c12 a this).trans ho
end
end K30

namespace K30
open PySem PySem.Spec PyProof.Rows L2
section
variable {P : Program} {w : World} {K : PySem.W.Frag} {mg : Str → Option Value} {base : Heap}
/-! ### is_integer, is_count -/
theorem scIsInt : FnScope ["value"] ["value"] (defScope (topS 25)) := ⟨rfl, rfl, rfl, by decide +kernel, rfl, by decide +kernel, by decide +kernel⟩
def spIsInt : Sp := fun vs H Q _ => ∃ i : Int, vs = [.int i] ∧ Q (.bl true) H
theorem cal_isInt (T : Txt K mg) : Cal P w K mg base 1 "is_integer" ["value"] spIsInt := by
  refine T.def_is_integer.cal (fun _ _ _ _ _ _ us hl => match us, hl with | [_], _ => rfl) fun f fd F => F.ok scIsInt (fun vs H Q E h => ?_) fun cdv A outer s H vs Q E hr h => ?_
  · obtain ⟨i, rfl, _⟩ := h
    rfl
  · obtain ⟨i, rfl, q⟩ := h
    refine ⟨_, PSs.nox (pss_one (ps_ret (pe_and (pe_callB call_isi (by rfl) T.fr_isinstance (by decide +kernel) (pa_cons (pv 0) (pa_cons (pe_bltn (v := .ty "int") (by rfl) T.fr_int (by decide +kernel) rfl) pa_nil)))
      (pe_one (pe_not (pe_callB call_isi (by rfl) T.fr_isinstance (by decide +kernel) (pa_cons (pv 0) (pa_cons (pe_bltn (v := .ty "bool") (by rfl) T.fr_bool (by decide +kernel) rfl) pa_nil)))))))), ?_⟩
    refine ⟨_, rfl, _, _, _, _, true, rfl, .ty "int", .base (.int i), kit_ty (by decide +kernel), true, rfl, iteT ?_⟩
    exact ⟨_, rfl, _, _, _, _, false, rfl, .ty "bool", .base (.int i), kit_ty (by decide +kernel), false, rfl, q⟩
theorem scIsCount : FnScope ["value"] ["value"] (defScope (topS 26)) := ⟨rfl, rfl, rfl, by decide +kernel, rfl, by decide +kernel, by decide +kernel⟩
def spIsCount : Sp := fun vs H Q _ => ∃ i : Int, vs = [.int i] ∧ 0 ≤ i ∧ Q (.bl true) H
theorem cal_isCount (T : Txt K mg) : Cal P w K mg base 2 "is_count" ["value"] spIsCount := by
  refine T.def_is_count.cal (fun _ _ _ _ _ _ us hl => match us, hl with | [_], _ => rfl) fun f fd F => F.ok scIsCount (fun vs H Q E h => ?_) fun cdv A outer s H vs Q E hr h => ?_
  · obtain ⟨i, rfl, _⟩ := h
    rfl
  · obtain ⟨i, rfl, hi, q⟩ := h
    refine ⟨_, PSs.nox (pss_one (ps_ret (pe_and (pe_cal (cal_isInt T) hr rfl (pa_cons (pv 0) pa_nil)) (pe_one (pe_cmpR op_ge (pv 0) pe_int (nomark _)))))), ?_⟩
    refine ⟨_, rfl, i, rfl, true, rfl, iteT ?_⟩
    refine ⟨_, rfl, _, _, rfl, rfl, ?_⟩
    show Q (.bl (decide (0 ≤ i))) H
    rw [decide_eq_true hi]
    exact q
/-! ### is_name -/
def inL (c : Nat) : Bool := decide (c ∈ ("abcdefghijklmnopqrstuvwxyz" : Str).cps.toList)
def inD (c : Nat) : Bool := decide (c ∈ ("0123456789" : Str).cps.toList)
def nameOk (s : Str) : Bool := decide (1 ≤ s.length) && decide (s.length ≤ 8) && decide (s.cps.size ≤ 8) && (match s.cps[0]? with | some c => inL c | none => false) && (List.range s.cps.size).all fun i => match s.cps[i]? with | some c => inL c || inD c | none => false
abbrev nName : List Str := ["value", "sign"]
theorem scIsName : FnScope nName ["value"] (defScope (topS 27)) := ⟨rfl, rfl, rfl, by decide +kernel, rfl, by decide +kernel, by decide +kernel⟩
def spIsName : Sp := fun vs H Q _ => ∃ s : Str, vs = [.str s] ∧ nameOk s = true ∧ ∀ H', Ext H H' → Q (.bl true) H'
theorem cal_isName (T : Txt K mg) : Cal P w K mg base 1 "is_name" ["value"] spIsName := by
  refine T.def_is_name.cal (fun _ _ _ _ _ _ us hl => match us, hl with | [_], _ => rfl) fun f fd F => F.ok scIsName (fun vs H Q E h => ?_) fun cdv A outer s H vs Q E hr h => ?_
  · obtain ⟨i, rfl, _⟩ := h
    rfl
  · obtain ⟨z, rfl, hz, q⟩ := h
    have nd := scIsName.nd
    obtain ⟨tl, hL⟩ := T.str_LETTERS
    obtain ⟨td, hD⟩ := T.str_DIGITS
    refine ⟨_, PSs.nox (pss_cons (ps_if (PW.pt (pw_or (pt_not (pt_val (pe_callB call_isi (by rfl) T.fr_isinstance (by decide +kernel) (pa_cons (pv 0) (pa_cons (pe_bltn (v := .ty "str") (by rfl) T.fr_str (by decide +kernel) rfl) pa_nil)))))
        (pw_or (pt_not (pt_chain op_le op_le pe_int (pe_callB call_len_str (by rfl) T.fr_len PySem.boot_len (pa_cons (pv 0) pa_nil)) pe_int)) (pw_or1 (pt_cmpR op_notIn_sign (pe_item_str (pv 0) pe_int (fun _ _ => rfl)) (pe_glob (v := .str "abcdefghijklmnopqrstuvwxyz") rfl hL ⟨_, rfl⟩) rfl))))) (pss_one ps_never) pss_nil)
      (pss_one (ps_ret (pe_callB (cr_all rfl) (by rfl) T.fr_all (by decide +kernel) (pa_cons (pe_lc (own := [("sign", 1)]) (g := gName 1) (tt := tYes) rfl nd (pi_str (pv 0)) (blkOk_by (N := nName) (sc := defScope (topS 27)) (by decide +kernel)) (fun _ _ _ _ _ => pg_name (i := 1) nd rfl (Or.inl rfl)) (fun _ _ _ _ _ => pts_nil)
        (fun _ _ _ _ _ => pe_or (pe_cmpR op_in_sign (pv 1) (pe_glob (v := .str "abcdefghijklmnopqrstuvwxyz") rfl hL ⟨_, rfl⟩) rfl) (pe_one (pe_cmpR op_in_sign (pv 1) (pe_glob (v := .str "0123456789") rfl hD ⟨_, rfl⟩) rfl)))) pa_nil))))), ?_⟩
    unfold nameOk at hz
    simp only [Bool.and_eq_true, decide_eq_true_eq] at hz
    obtain ⟨⟨⟨⟨h1, h8⟩, hs⟩, h0⟩, hall⟩ := hz
    refine ⟨_, rfl, _, _, _, _, true, rfl, .ty "str", .base (.str z), kit_ty (by decide +kernel), true, rfl, iteF ?_⟩
    refine ⟨_, rfl, z, rfl, Nat.le_trans h8 (by show 8 ≤ 16777216; decide), _, _, rfl, rfl, _, rfl, ?_⟩
    refine iteD (by omega) ⟨_, _, rfl, rfl, _, rfl, ?_⟩
    refine iteNS (by omega) ?_
    cases e0 : z.cps[0]? with
    | none => rw [e0] at h0; cases h0
    | some c0 =>
      rw [e0] at h0
      refine ⟨_, rfl, z, 0, c0, rfl, rfl, by decide, by decide, by omega, e0, c0, _, rfl, rfl, _, rfl, ?_⟩
      rw [show decide (c0 ∈ ("abcdefghijklmnopqrstuvwxyz" : Str).cps.toList) = true from h0]
      refine iteF ?_
      refine ⟨_, rfl, z, rfl, fun D hD => ?_⟩
      refine lc_it walk_str (fun i H' => Ext H H' ∧ H' D = some (.lst ((List.replicate i true).map V.bl))) ⟨Ext.one hD, upd_same⟩ (fun _ _ _ _ => trivial) ?_ ?_
      · intro i x H1 H' hi ⟨e1, h1'⟩ ⟨eh, c, hc, ex⟩
        subst eh
        subst ex
        have hc2 := List.all_eq_true.mp hall i (by simpa using hi)
        rw [hc] at hc2
        refine ⟨rfl, ?_⟩
        have fin : ∃ acc, H' D = some (.lst acc) ∧ acc.length < sizeLine ∧ Ext H (upd H' D (.lst (acc ++ [V.bl true]))) ∧ upd H' D (.lst (acc ++ [V.bl true])) D = some (.lst ((List.replicate (i + 1) true).map V.bl)) := by
          refine ⟨_, h1', ?_, e1.put hD, ?_⟩
          · simp only [List.length_map, List.length_replicate]
            show _ < 16777216
            omega
          · rw [upd_same, List.replicate_succ']
            simp
        refine ⟨_, rfl, c, _, rfl, rfl, _, rfl, ?_⟩
        cases el : inL c with
        | true =>
          rw [show decide (c ∈ ("abcdefghijklmnopqrstuvwxyz" : Str).cps.toList) = true from el]
          exact iteT fin
        | false =>
          rw [show decide (c ∈ ("abcdefghijklmnopqrstuvwxyz" : Str).cps.toList) = false from el]
          refine iteF ⟨_, rfl, c, _, rfl, rfl, ?_⟩
          have ed : inD c = true := by simpa [el] using hc2
          rw [show decide (c ∈ ("0123456789" : Str).cps.toList) = true from ed]
          exact fin
      · intro H' ⟨e1, h1'⟩
        refine ⟨D, _, rfl, SqL.of h1', ?_⟩
        have : (List.replicate z.cps.size true).all id = true := by simp
        rw [this]
        exact q H' e1
end
end K30

namespace K30
open PySem PySem.Spec PyProof.Rows L2
theorem GridT.ext {H H' : Hp} {a : Addr} {g : Grid} (h : GridT H a g) (e : Ext H H') : GridT H' a g := h.keep fun b xs k => e b _ k
theorem GridT.row {H : Hp} {a : Addr} {g : Grid} (h : GridT H a g) : ∃ ras : List Addr, H a = some (.tup (ras.map V.ref)) ∧ ras.length = g.length ∧ ∀ (i : Nat) (r : Addr), ras[i]? = some r → ∃ row, g[i]? = some row ∧ H r = some (.tup (row.map V.int)) := by
  obtain ⟨ras, h1, h2⟩ := h
  refine ⟨ras, h1, paired_len h2, fun i r hr => ?_⟩
  obtain ⟨row, hrow⟩ := get_of_lt (l := g) (i := i) (by rw [← paired_len h2]; exact (List.getElem?_eq_some_iff.mp hr).1)
  exact ⟨row, hrow, paired_get h2 hr hrow⟩
section
variable {X : Cx} {k : Nat} {C : Addr} {x m : Str} {ps : List Str} {sp : Sp} {p pos apos : Pos} {e o : Expr} {es : List Expr} {t : TA} {ta : TE}
theorem pe_mcalS0 {pl : Sem Bool} (F : MCal X.prog X.w X.K X.mg X.base k C m ps sp) (c : SlX.SCls X.K C) (hr : Room k X.A) (he : PE X o ta)
    (ht : eval (.Call (.Attribute o m apos) [] [] pos) X.env = (do
      let ov ← eval o X.env
      standAt apos.atName
      let (f, first) ← holding [ov] (getMethod ov m pl)
      callWith pos f first (backTo pos (starEach [] X.env)) (backToKw pos (keywordEach [] X.env))) := by rfl) :
    PE X (.Call (.Attribute o m apos) [] [] pos) (SlX.tMethSl C (fun vs H Q E => sp (vs ++ []) H Q E) E0 ta tNil) := by
  obtain ⟨f, fd, G, b, M⟩ := F
  exact SlX.pe_methSl0 (pl := pl) he c M (G.raw b .nil) hr pass0 ht
end
section
variable {P : Program} {w : World} {K : PySem.W.Frag} {mg : Str → Option Value} {base : Heap}
/-! ### check_kinds -/
def kindsOk (ks : List Str) : Bool := decide (2 ≤ ks.length) && decide (ks.length ≤ 4) && (List.range ks.length).all fun i => match ks[i]? with
  | some k => nameOk k && !inV (.str k) (cutV (ks.map V.str) none (some (i : Int))) && decide (¬ (HT.sIx (ks.map V.str).length 0 none = 0 ∧ HT.sIx (ks.map V.str).length (ks.map V.str).length (some (i : Int)) = (ks.map V.str).length)) && (cutV (ks.map V.str) none (some (i : Int))).all flatV
  | none => false
abbrev nCK : List Str := ["value", "at", "kind"]
theorem scCK : FnScope nCK ["value"] (defScope (topS 32)) := ⟨rfl, rfl, rfl, by decide +kernel, rfl, by decide +kernel, by decide +kernel⟩
def spCK : Sp := fun vs H Q _ => ∃ (a : Addr) (ks : List Str), vs = [.ref a] ∧ H a = some (.tup (ks.map V.str)) ∧ kindsOk ks = true ∧ ∀ H', Ext H H' → Q .non H'
theorem cal_ck (T : Txt K mg) : Cal P w K mg base 2 "check_kinds" ["value"] spCK := by
  refine T.def_check_kinds.cal (fun _ _ _ _ _ _ us hl => match us, hl with | [_], _ => rfl) fun f fd F => F.ok scCK (fun vs H Q E h => ?_) fun cdv A outer s H vs Q E hr h => ?_
  · obtain ⟨a, ks, rfl, _⟩ := h
    rfl
  · obtain ⟨a, ks, rfl, ha, hk, q⟩ := h
    have nd := scCK.nd
    obtain ⟨tm, hM⟩ := T.int_MOST_KINDS
    refine ⟨_, PSs.nox (pss_cons (ps_if (PW.pt (pw_or (pt_not (pt_val (pe_callB call_isi (by rfl) T.fr_isinstance (by decide +kernel) (pa_cons (pv 0) (pa_cons (pe_bltn (v := .ty "tuple") (by rfl) T.fr_tuple (by decide +kernel) rfl) pa_nil)))))
        (pw_or1 (pt_cmpR op_lt (pe_callB call_len_seq (by rfl) T.fr_len PySem.boot_len (pa_cons (pv 0) pa_nil)) pe_int (nomark _))))) (pss_one ps_never) pss_nil)
      (pss_one (ps_for PassesOwn.never rfl (pi_enumT rfl T.fr_enumerate (pa_cons (pv 0) pa_nil)) (pg_tup rfl (pgs_cons (pg_name (i := 1) nd rfl (Or.inl rfl)) (pgs_cons (pg_name (i := 2) nd rfl (Or.inl rfl)) pgs_nil)))
        (pss_one (ps_if (PW.pt (pw_or (pt_cmpR op_eq (pv 1) (pe_glob (v := .int 4) rfl hM ⟨_, rfl⟩) (nomark _)) (pw_or (pt_not (pt_val (pe_cal (cal_isName T) hr rfl (pa_cons (pv 2) pa_nil)))) (pw_or1 (pt_cmpR op_in_seq (pv 2) (pe_slice sl_tup (pv 0) po_none (po_some (pv 1))) rfl)))))
          (pss_one ps_never) pss_nil))))), ?_⟩
    unfold kindsOk at hk
    simp only [Bool.and_eq_true, decide_eq_true_eq] at hk
    obtain ⟨⟨h2, h4⟩, hall⟩ := hk
    refine ⟨_, rfl, _, _, _, _, true, rfl, .ty "tuple", .base (.tup ha), kit_ty (by decide +kernel), true, rfl, iteF ?_⟩
    refine ⟨_, rfl, a, _, rfl, .inr (SqT.of ha), _, _, rfl, rfl, _, rfl, ?_⟩
    refine iteN (by simp only [List.length_map]; omega) ?_
    refine ⟨_, rfl, a, _, rfl, SqT.of ha, ?_⟩
    refine for_it (walk_enumT (xs := ks.map V.str)) (fun i σ H' => ∃ z1 z2, σ = [some (.ref a), z1, z2] ∧ Ext H H') ⟨none, none, rfl, Ext.refl⟩ (fun i σ H' _ ⟨_, _, _, e⟩ => SqT.of (e _ _ ha)) ?_ ?_
    · rintro i x σ H1 H' hi ⟨z1, z2, e, e1⟩ ⟨TT, x1, y1, ex, hT, rfl, ei, ey⟩
      subst e
      subst ex
      injection ei with ei
      subst ei
      obtain ⟨kk, hkk, rfl⟩ := map_get ey
      have hi2 : i < ks.length := by simpa using hi
      have hc := List.all_eq_true.mp hall i (by simpa using hi2)
      rw [hkk] at hc
      simp only [Bool.and_eq_true, decide_eq_true_eq, Bool.not_eq_true'] at hc
      obtain ⟨⟨⟨c1, c2⟩, c3⟩, c4⟩ := hc
      have e2 : Ext H (upd H1 TT (.tup [.int (i : Nat), .str kk])) := e1.new hT
      refine ⟨TT, _, rfl, SqT.of upd_same, rfl, _, _, rfl, _, _, rfl, rfl, ?_⟩
      refine ⟨_, rfl, rfl, _, rfl, ?_⟩
      refine iteN (by intro c; injection c with c; omega) ?_
      refine ⟨_, rfl, kk, rfl, c1, fun H3 e3 => ⟨true, rfl, iteF ?_⟩⟩
      have hA3 := e3 _ _ (e2 _ _ ha)
      refine ⟨_, rfl, _, rfl, _, rfl, _, rfl, a, _, rfl, SqT.of hA3, c3, fun p hp => ⟨p, _, rfl, .inr (SqT.of upd_same), rfl, c4, _, rfl, ?_⟩⟩
      show if inV (V.str kk) (cutV (ks.map V.str) none (some (i : Int))) = true then _ else _
      rw [c2]
      exact iteF ⟨_, _, rfl, (e2.trans e3).new hp⟩
    · rintro σ H' ⟨z1, z2, e, e1⟩
      exact q H' e1
/-! ### is_row, check_rows -/
abbrev nRow : List Str := ["value", "size", "number"]
theorem scIsRow : FnScope nRow ["value", "size"] (defScope (topS 33)) := ⟨rfl, rfl, rfl, by decide +kernel, rfl, by decide +kernel, by decide +kernel⟩
def rowOk (n : Nat) (row : List Int) : Prop := row.length = n ∧ ∀ x ∈ row, 0 ≤ x ∧ x ≤ 1000000000000000000000000000000
def spIsRow : Sp := fun vs H Q _ => ∃ (a : Addr) (n : Nat) (row : List Int), vs = [.ref a, nV n] ∧ H a = some (.tup (row.map V.int)) ∧ rowOk n row ∧ n ≤ 100 ∧ ∀ H', Ext H H' → Q (.bl true) H'
theorem cal_isRow (T : Txt K mg) : Cal P w K mg base 3 "is_row" ["value", "size"] spIsRow := by
  refine T.def_is_row.cal (fun _ _ _ _ _ _ us hl => match us, hl with | [_, _], _ => rfl) fun f fd F => F.ok scIsRow (fun vs H Q E h => ?_) fun cdv A outer s H vs Q E hr h => ?_
  · obtain ⟨a, n, row, rfl, _⟩ := h
    rfl
  · obtain ⟨a, n, row, rfl, ha, ⟨hn, hx⟩, h100, q⟩ := h
    have nd := scIsRow.nd
    obtain ⟨tm, hM⟩ := T.int_MOST_COUNT
    refine ⟨_, PSs.nox (pss_cons (ps_if (PW.pt (pw_or (pt_not (pt_val (pe_callB call_isi (by rfl) T.fr_isinstance (by decide +kernel) (pa_cons (pv 0) (pa_cons (pe_bltn (v := .ty "tuple") (by rfl) T.fr_tuple (by decide +kernel) rfl) pa_nil)))))
        (pw_or1 (pt_cmpR op_ne (pe_callB call_len_seq (by rfl) T.fr_len PySem.boot_len (pa_cons (pv 0) pa_nil)) (pv 1) (nomark _))))) (pss_one ps_never) pss_nil)
      (pss_one (ps_ret (pe_callB (cr_all rfl) (by rfl) T.fr_all (by decide +kernel) (pa_cons (pe_lc (own := [("number", 2)]) (g := gName 2) (tt := tYes) rfl nd (pi_tup (pv 0)) (blkOk_by (N := nRow) (sc := defScope (topS 33)) (by decide +kernel)) (fun _ _ _ _ _ => pg_name (i := 2) nd rfl (Or.inl rfl)) (fun _ _ _ _ _ => pts_nil)
        (fun _ _ _ _ _ => pe_and (pe_cal (cal_isCount T) hr rfl (pa_cons (pv 2) pa_nil)) (pe_one (pe_cmpR op_le (pv 2) (pe_glob (v := .int 1000000000000000000000000000000) rfl hM ⟨_, rfl⟩) (nomark _))))) pa_nil))))), ?_⟩
    refine ⟨_, rfl, _, _, _, _, true, rfl, .ty "tuple", .base (.tup ha), kit_ty (by decide +kernel), true, rfl, iteF ?_⟩
    refine ⟨_, rfl, a, _, rfl, .inr (SqT.of ha), _, rfl, rfl, _, rfl, ?_⟩
    refine iteNS (by rw [List.length_map, hn]) ?_
    refine ⟨_, rfl, a, rfl, ⟨_, SqT.of ha⟩, fun D hD => ?_⟩
    refine lc_tup (K := K) (a := a) (xs := row.map V.int) (fun i H' => Ext H H' ∧ H' D = some (.lst ((List.replicate i true).map V.bl))) ⟨Ext.one hD, upd_same⟩ (fun i H' _ ⟨e, _⟩ => SqT.of (e _ _ ha)) ?_ ?_
    · intro i x H1 hi ⟨e1, h1⟩
      obtain ⟨y, hy, rfl⟩ := map_get hi
      obtain ⟨y0, y1⟩ := hx y (List.mem_of_getElem? hy)
      refine ⟨rfl, ?_⟩
      refine ⟨_, rfl, y, rfl, y0, true, rfl, iteT ⟨_, rfl, _, _, rfl, rfl, _, h1, ?_, e1.put hD, ?_⟩⟩
      · simp only [List.length_map, List.length_replicate]
        have := (List.getElem?_eq_some_iff.mp hy).1
        show _ < 16777216
        omega
      · rw [upd_same, List.replicate_succ']
        simp [y1]
    · intro H' ⟨e1, h1⟩
      refine ⟨D, _, rfl, SqL.of h1, ?_⟩
      rw [show (List.replicate (row.map V.int).length true).all id = true by simp]
      exact q H' e1
theorem scCR : FnScope ["kinds", "value", "at", "row"] ["kinds", "value"] (defScope (topS 34)) := ⟨rfl, rfl, rfl, by decide +kernel, rfl, by decide +kernel, by decide +kernel⟩
def spCR : Sp := fun vs H Q _ => ∃ (ka a : Addr) (ks : List V) (g : Grid), vs = [.ref ka, .ref a] ∧ H ka = some (.tup ks) ∧ GridT H a g ∧ g.length = ks.length ∧ (∀ row ∈ g, rowOk ks.length row) ∧ ks.length ≤ 100 ∧ ∀ H', Ext H H' → Q .non H'
theorem cal_cr (T : Txt K mg) : Cal P w K mg base 4 "check_rows" ["kinds", "value"] spCR := by
  refine T.def_check_rows.cal (fun _ _ _ _ _ _ us hl => match us, hl with | [_, _], _ => rfl) fun f fd F => F.ok scCR (fun vs H Q E h => ?_) fun cdv A outer s H vs Q E hr h => ?_
  · obtain ⟨ka, a, ks, g, rfl, _⟩ := h
    rfl
  · obtain ⟨ka, a, ks, g, rfl, hka, hg, hgl, hrow, h100, q⟩ := h
    have nd := scCR.nd
    obtain ⟨ras, ha, hras, hget⟩ := hg.row
    refine ⟨_, PSs.nox (pss_cons (ps_if (PW.pt (pw_or (pt_not (pt_val (pe_callB call_isi (by rfl) T.fr_isinstance (by decide +kernel) (pa_cons (pv 1) (pa_cons (pe_bltn (v := .ty "tuple") (by rfl) T.fr_tuple (by decide +kernel) rfl) pa_nil)))))
        (pw_or1 (pt_cmpR op_ne (pe_callB call_len_seq (by rfl) T.fr_len PySem.boot_len (pa_cons (pv 1) pa_nil)) (pe_callB call_len_seq (by rfl) T.fr_len PySem.boot_len (pa_cons (pv 0) pa_nil)) (nomark _))))) (pss_one ps_never) pss_nil)
      (pss_one (ps_for PassesOwn.never rfl (pi_enumT rfl T.fr_enumerate (pa_cons (pv 1) pa_nil)) (pg_tup rfl (pgs_cons (pg_name (i := 2) nd rfl (Or.inl rfl)) (pgs_cons (pg_name (i := 3) nd rfl (Or.inl rfl)) pgs_nil)))
        (pss_one (ps_if (pt_not (pt_val (pe_cal (cal_isRow T) hr rfl (pa_cons (pv 3) (pa_cons (pe_callB call_len_seq (by rfl) T.fr_len PySem.boot_len (pa_cons (pv 0) pa_nil)) pa_nil))))) (pss_one ps_never) pss_nil))))), ?_⟩
    refine ⟨_, rfl, _, _, _, _, true, rfl, .ty "tuple", .base (.tup ha), kit_ty (by decide +kernel), true, rfl, iteF ?_⟩
    refine ⟨_, rfl, a, _, rfl, .inr (SqT.of ha), _, rfl, ka, _, rfl, .inr (SqT.of hka), rfl, _, rfl, ?_⟩
    refine iteNS (by rw [List.length_map, hras, hgl]) ?_
    refine ⟨_, rfl, a, _, rfl, SqT.of ha, ?_⟩
    refine for_it (walk_enumT (xs := ras.map V.ref)) (fun i σ H' => ∃ z1 z2, σ = [some (.ref ka), some (.ref a), z1, z2] ∧ Ext H H') ⟨none, none, rfl, Ext.refl⟩ (fun i σ H' _ ⟨_, _, _, e⟩ => SqT.of (e _ _ ha)) ?_ ?_
    · rintro i x σ H1 H' hi ⟨z1, z2, e, e1⟩ ⟨TT, x1, y1, ex, hT, rfl, ei, ey⟩
      subst e
      subst ex
      injection ei with ei
      subst ei
      obtain ⟨r, hr0, rfl⟩ := map_get ey
      obtain ⟨row, hrw, hR⟩ := hget i r hr0
      have e2 : Ext H (upd H1 TT (.tup [.int (i : Nat), .ref r])) := e1.new hT
      refine ⟨TT, _, rfl, SqT.of upd_same, rfl, _, _, rfl, _, _, rfl, rfl, ?_⟩
      exact ⟨_, rfl, _, rfl, ka, _, rfl, .inr (SqT.of (e2 _ _ hka)), r, ks.length, row, rfl, e2 _ _ hR, hrow row (List.mem_of_getElem? hrw), h100, fun H3 e3 => ⟨true, rfl, iteF ⟨_, _, rfl, e2.trans e3⟩⟩⟩
    · rintro σ H' ⟨z1, z2, e, e1⟩
      exact q H' e1
/-! ### lopsided -/
def evenOk (g : Grid) : Bool := (List.range g.length).all fun i => decide ((g.getD i []).length = g.length) && decide ((g.getD i []).sum = (g.map fun r => r.getD i 0).sum)
abbrev nLop : List Str := ["rows", "at", "row", "other"]
theorem scLop : FnScope nLop ["rows"] (defScope (topS 35)) := ⟨rfl, rfl, rfl, by decide +kernel, rfl, by decide +kernel, by decide +kernel⟩
def spLop : Sp := fun vs H Q _ => ∃ (a : Addr) (g : Grid), vs = [.ref a] ∧ GridT H a g ∧ evenOk g = true ∧ g.length ≤ 100 ∧ ∀ H', Ext H H' → Q .non H'
theorem cal_lop (T : Txt K mg) : Cal P w K mg base 1 "lopsided" ["rows"] spLop := by
  refine T.def_lopsided.cal (fun _ _ _ _ _ _ us hl => match us, hl with | [_], _ => rfl) fun f fd F => F.ok scLop (fun vs H Q E h => ?_) fun cdv A outer s H vs Q E hr h => ?_
  · obtain ⟨a, g, rfl, _⟩ := h
    rfl
  · obtain ⟨a, g, rfl, hg, hev, h100, q⟩ := h
    have nd := scLop.nd
    obtain ⟨ras, ha, hras, hget⟩ := hg.row
    refine ⟨_, PSs.nox (pss_cons (ps_for PassesOwn.never rfl (pi_enumT rfl T.fr_enumerate (pa_cons (pv 0) pa_nil)) (pg_tup rfl (pgs_cons (pg_name (i := 1) nd rfl (Or.inr rfl)) (pgs_cons (pg_name (i := 2) nd rfl (Or.inl rfl)) pgs_nil)))
        (pss_one (ps_if (pt_cmpR op_ne (pe_callB (cr_sumT rfl) (by rfl) T.fr_sum (by decide +kernel) (pa_cons (pv 2) pa_nil)) (pe_callB (cr_sum rfl) (by rfl) T.fr_sum (by decide +kernel) (pa_cons
          (pe_lc (own := [("other", 3)]) (g := gName 3) (tt := tYes) (te := tOp (rIxT K) (tVar 3) (tVar 1)) rfl nd (pi_tup (pv 0)) (blkOk_by (N := nLop) (sc := defScope (topS 35)) (by decide +kernel)) (fun _ _ _ _ _ => pg_name (i := 3) nd rfl (Or.inl rfl)) (fun _ _ _ _ _ => pts_nil)
            (fun _ _ _ _ _ => pe_ix ix_tup (pv 3) (pv 1) (fun _ _ => rfl))) pa_nil)) (nomark _)) (pss_one ps_never) pss_nil))) (pss_one (ps_ret pe_non))), ?_⟩
    refine ⟨_, rfl, a, _, rfl, SqT.of ha, ?_⟩
    refine for_it (walk_enumT (xs := ras.map V.ref)) (fun i σ H' => ∃ z1 z2, σ = [some (.ref a), z1, z2, none] ∧ Ext H H') ⟨none, none, rfl, Ext.refl⟩ (fun i σ H' _ ⟨_, _, _, e⟩ => SqT.of (e _ _ ha)) ?_ ?_
    · rintro i x σ H1 H' hi ⟨z1, z2, e, e1⟩ ⟨TT, x1, y1, ex, hT, rfl, ei, ey⟩
      subst e
      subst ex
      injection ei with ei
      subst ei
      obtain ⟨r, hr0, rfl⟩ := map_get ey
      obtain ⟨row, hrw, hR⟩ := hget i r hr0
      have e2 : Ext H (upd H1 TT (.tup [.int (i : Nat), .ref r])) := e1.new hT
      have hil : i < g.length := by rw [← hras]; simpa using hi
      have hsum := List.all_eq_true.mp hev i (by simpa using hil)
      rw [getD_some hrw] at hsum
      simp only [Bool.and_eq_true, decide_eq_true_eq] at hsum
      generalize hu : upd H1 TT (.tup [.int (i : Nat), .ref r]) = H2 at *
      refine ⟨TT, _, rfl, SqT.of (by rw [← hu]; exact upd_same), rfl, _, _, rfl, _, _, rfl, rfl, ?_⟩
      refine ⟨_, rfl, r, row, rfl, SqT.of (e2 _ _ hR), _, rfl, a, rfl, ⟨_, SqT.of (e2 _ _ ha)⟩, fun D hD => ?_⟩
      refine lc_tup (K := K) (a := a) (xs := ras.map V.ref) (fun j H' => Ext H2 H' ∧ H' D = some (.lst (((g.take j).map fun r => r.getD i 0).map V.int))) ⟨Ext.one hD, upd_same⟩ (fun j H' _ ⟨e, _⟩ => SqT.of (e _ _ (e2 _ _ ha))) ?_ ?_
      · intro j x H3 hj ⟨e3, h3⟩
        obtain ⟨rj, hrj, rfl⟩ := map_get hj
        obtain ⟨rowj, hrwj, hRj⟩ := hget j rj hrj
        have hjl : j < g.length := (List.getElem?_eq_some_iff.mp hrwj).1
        have hlen := List.all_eq_true.mp hev j (by simpa using hjl)
        rw [getD_some hrwj] at hlen
        simp only [Bool.and_eq_true, decide_eq_true_eq] at hlen
        obtain ⟨y, hy⟩ := get_of_lt (l := rowj) (i := i) (by rw [hlen.1]; exact hil)
        refine ⟨rfl, ?_⟩
        refine ⟨_, rfl, _, rfl, rj, _, _, .int y, rfl, rfl, SqT.of (e3 _ _ (e2 _ _ hRj)), atI_nat (by rw [List.getElem?_map, hy]; rfl), _, h3, ?_, e3.put hD, ?_⟩
        · simp only [List.length_map, List.length_take]
          show _ < 16777216
          omega
        · rw [upd_same, List.take_add_one, hrwj]
          simp [hy]
      · intro H3 ⟨e3, h3⟩
        rw [List.length_map, hras, List.take_length] at h3
        refine ⟨D, _, rfl, SqL.of h3, rfl, _, rfl, ?_⟩
        refine iteNS (by rw [hsum.2]) ⟨_, _, rfl, e2.trans e3⟩
    · rintro σ H' ⟨z1, z2, e, e1⟩
      exact q H' e1
/-! ### Yard -/
abbrev cY (K : PySem.W.Frag) : Addr := He.ga K "Yard"
def YardAt (K : PySem.W.Frag) (H : Hp) (p ka ga : Addr) : Prop := ∃ dx, H p = some (SlX.SlO p (cY K) dx [some (.ref ga), some (.ref ka)]) ∧ H dx = some (.xd [])
theorem YardAt.ext {H H' : Hp} {p ka ga : Addr} (y : YardAt K H p ka ga) (e : Ext H H') : YardAt K H' p ka ga := let ⟨dx, a, b⟩ := y; ⟨dx, e _ _ a, e _ _ b⟩
theorem YardAt.slt {H : Hp} {p ka ga : Addr} (y : YardAt K H p ka ga) : ∃ dx, SlX.Slt H p (cY K) dx [some (.ref ga), some (.ref ka)] := let ⟨dx, a, b⟩ := y; ⟨dx, .inr ⟨a, b⟩⟩
abbrev sYard : Stmt := inClass (topS 46) 1
theorem scYard : FnScope ["self", "kinds", "rows", "at"] ["self", "kinds", "rows"] (defScope sYard) := ⟨rfl, rfl, rfl, by decide +kernel, rfl, by decide +kernel, by decide +kernel⟩
def spYard (K : PySem.W.Frag) : Sp := fun vs H Q _ => ∃ (p dx ka ga : Addr) (ks : List Str) (g : Grid), vs = [.ref p, .ref ka, .ref ga] ∧ H p = some (.ins (cY K) dx []) ∧ dx ≠ p ∧ H ka = some (.tup (ks.map V.str)) ∧ kindsOk ks = true ∧ GridT H ga g ∧ g.length = ks.length ∧ (∀ row ∈ g, rowOk ks.length row) ∧ evenOk g = true ∧
  ∀ H', (∀ q o, q ≠ p → q ≠ dx → H q = some o → H' q = some o) → YardAt K H' p ka ga → Q .non H'
theorem cal_yard (T : Txt K mg) : ICal P w K mg base 5 "Yard" (cY K) ["self", "kinds", "rows"] (spYard K) := by
  refine T.ini_Yard.cal (fun _ _ _ _ _ _ us hl => match us, hl with | [_, _, _], _ => rfl) fun f fd F => F.ok scYard (fun vs H Q E h => ?_) fun cdv A outer s H vs Q E hr h => ?_
  · obtain ⟨p, dx, ka, ga, ks, g, rfl, _⟩ := h
    rfl
  · obtain ⟨p, dx, ka, ga, ks, g, rfl, hp, ndx, hka, hks, hg, hgl, hrow, hev, q⟩ := h
    have nd := scYard.nd
    have k4 : ks.length ≤ 4 := by
      have h := hks
      unfold kindsOk at h
      simp only [Bool.and_eq_true, decide_eq_true_eq] at h
      exact h.1.2
    refine ⟨_, PSs.nox (pss_cons (ps_expr (pe_cal (cal_ck T) (hr.mono (by decide)) rfl (pa_cons (pv 1) pa_nil))) (pss_cons (ps_expr (pe_cal (cal_cr T) hr rfl (pa_cons (pv 1) (pa_cons (pv 2) pa_nil)))) (pss_cons (ps_set (i := 3) nd rfl (Or.inl rfl) (pe_cal (cal_lop T) (hr.mono (by decide)) rfl (pa_cons (pv 2) pa_nil)))
      (pss_cons (ps_if (pt_cmpR op_notN (pv 3) pe_non (nomark _)) (pss_one ps_never) pss_nil)
      (pss_cons (SlX.ps_sl (pv 0) (pv 1)) (pss_one (SlX.ps_sl (pv 0) (pv 2)))))))), ?_⟩
    refine ⟨_, rfl, ka, ks, rfl, hka, hks, fun H1 e1 => ?_⟩
    refine ⟨_, rfl, _, rfl, ka, ga, ks.map V.str, g, rfl, e1 _ _ hka, hg.ext e1, by rw [List.length_map]; exact hgl, by rw [List.length_map]; exact hrow, by rw [List.length_map]; omega, fun H2 e2 => ?_⟩
    have e12 := e1.trans e2
    refine ⟨_, rfl, ga, g, rfl, hg.ext e12, hev, by omega, fun H3 e3 => ?_⟩
    have e13 := e12.trans e3
    refine ⟨_, rfl, rfl, _, rfl, iteNS rfl ?_⟩
    have s1 : SlX.Slt H3 p (cY K) dx [] := .inl ⟨e13 _ _ hp, rfl⟩
    refine ⟨_, rfl, _, rfl, p, _, dx, _, _, _, rfl, s1, T.scls, T.slot0, ?_⟩
    have s2 := SlX.slH_slt (H := H3) (C := cY K) (vs := SlX.putS 1 (.ref ka) []) ndx
    refine ⟨_, rfl, _, rfl, p, _, dx, _, _, _, rfl, s2, T.scls, T.slot1, ?_⟩
    rw [SlX.slH_twice ndx]
    have s3 := SlX.slH_slt (H := H3) (C := cY K) (vs := SlX.putS 0 (.ref ga) (SlX.putS 1 (.ref ka) [])) ndx
    refine q _ (fun q' o n1 n2 ho => (SlX.slH_ne n1 n2).trans (e13 _ _ ho)) ⟨dx, ?_, ?_⟩
    · exact upd_same
    · show upd (upd H3 dx (.xd [])) p _ dx = _
      rw [upd_ne ndx, upd_same]
end
end K30

namespace K30
open PySem PySem.Spec PyProof.Rows L2
section
variable {P : Program} {w : World} {K : PySem.W.Frag} {mg : Str → Option Value} {base : Heap}
theorem spYard_mk {H : Hp} {x dx ka ga : Addr} {ks : List Str} {g : Grid} {Q : Hp → Prop} {E : XK} (nx : H x = none) (ndx : H dx = none) (ne : dx ≠ x) (hka : H ka = some (.tup (ks.map V.str))) (hks : kindsOk ks = true) (hg : GridT H ga g) (hgl : g.length = ks.length)
    (hrow : ∀ row ∈ g, rowOk ks.length row) (hev : evenOk g = true) (k : ∀ H', Ext H H' → YardAt K H' x ka ga → Q H') :
    spYard K [.ref x, .ref ka, .ref ga] (upd (upd H dx (.own x)) x (.ins (cY K) dx [])) (fun v H2 => v = .non ∧ Q H2) E := by
  have e : Ext H (upd (upd H dx (.own x)) x (.ins (cY K) dx [])) := (Ext.one ndx).put nx
  refine ⟨x, dx, ka, ga, ks, g, rfl, upd_same, ne, e _ _ hka, hks, hg.ext e, hgl, hrow, hev, fun H' fr y => ⟨rfl, k H' (fun q o ho => ?_) y⟩⟩
  exact fr q o (ne_of_none ho nx) (ne_of_none ho ndx) (e _ _ ho)
/-! ### size, out -/
abbrev sSize : Stmt := inClass (topS 46) 7
abbrev sOut : Stmt := inClass (topS 46) 6
theorem scSize : FnScope ["self", "row"] ["self"] (defScope sSize) := ⟨rfl, rfl, rfl, by decide +kernel, rfl, by decide +kernel, by decide +kernel⟩
def sumG (g : Grid) : Int := (g.map List.sum).sum
def diagG (g : Grid) : Int := ((List.range g.length).map fun k => cell g k k).sum
def spSize (K : PySem.W.Frag) : Sp := fun vs H Q _ => ∃ (p ka ga : Addr) (g : Grid), vs = [.ref p] ∧ YardAt K H p ka ga ∧ GridT H ga g ∧ g.length ≤ 100 ∧ ∀ H', Ext H H' → Q (.int (sumG g)) H'
theorem cal_size (T : Txt K mg) : MCal P w K mg base 1 (cY K) "size" ["self"] (spSize K) := by
  refine T.met_size.cal (fun _ _ _ _ _ _ us hl => match us, hl with | [_], _ => rfl) fun f fd F => F.ok scSize (fun vs H Q E h => ?_) fun cdv A outer s H vs Q E hr h => ?_
  · obtain ⟨p, ka, ga, g, rfl, _⟩ := h
    rfl
  · obtain ⟨p, ka, ga, g, rfl, hy, hg, h100, q⟩ := h
    have nd := scSize.nd
    obtain ⟨ras, ha, hras, hget⟩ := hg.row
    obtain ⟨dx, hs⟩ := hy.slt
    refine ⟨_, PSs.nox (pss_one (ps_ret (pe_callB (cr_sum rfl) (by rfl) T.fr_sum (by decide +kernel) (pa_cons (pe_lc (own := [("row", 1)]) (g := gName 1) (tt := tYes) (te := tCB (rSumT K) (tCons (tVar 1) tNil)) rfl nd (pi_tup (SlX.pe_sl (pv 0))) (blkOk_by (N := ["self", "row"]) (sc := defScope sSize) (by decide +kernel)) (fun _ _ _ _ _ => pg_name (i := 1) nd rfl (Or.inl rfl)) (fun _ _ _ _ _ => pts_nil)
      (fun _ _ _ _ _ => pe_callB (cr_sumT rfl) (by rfl) T.fr_sum (by decide +kernel) (pa_cons (pv 1) pa_nil))) pa_nil)))), ?_⟩
    refine ⟨_, rfl, p, _, dx, _, _, _, _, rfl, hs, T.scls, T.slot1, rfl, ga, rfl, ⟨_, SqT.of ha⟩, fun D hD => ?_⟩
    refine lc_tup (K := K) (a := ga) (xs := ras.map V.ref) (fun j H' => Ext H H' ∧ H' D = some (.lst (((g.take j).map List.sum).map V.int))) ⟨Ext.one hD, upd_same⟩ (fun j H' _ ⟨e, _⟩ => SqT.of (e _ _ ha)) ?_ ?_
    · intro j x H3 hj ⟨e3, h3⟩
      obtain ⟨rj, hrj, rfl⟩ := map_get hj
      obtain ⟨rowj, hrwj, hRj⟩ := hget j rj hrj
      have hjl : j < g.length := (List.getElem?_eq_some_iff.mp hrwj).1
      refine ⟨rfl, ?_⟩
      refine ⟨_, rfl, rj, rowj, rfl, SqT.of (e3 _ _ hRj), _, h3, ?_, e3.put hD, ?_⟩
      · simp only [List.length_map, List.length_take]
        show _ < 16777216
        omega
      · rw [upd_same, List.take_add_one, hrwj]
        simp
    · intro H3 ⟨e3, h3⟩
      rw [List.length_map, hras, List.take_length] at h3
      exact ⟨D, _, rfl, SqL.of h3, q H3 e3⟩
abbrev nOut : List Str := ["self", "at", "row"]
theorem scOut : FnScope nOut ["self"] (defScope sOut) := ⟨rfl, rfl, rfl, by decide +kernel, rfl, by decide +kernel, by decide +kernel⟩
def spOut (K : PySem.W.Frag) : Sp := fun vs H Q _ => ∃ (p ka ga : Addr) (g : Grid), vs = [.ref p] ∧ YardAt K H p ka ga ∧ GridT H ga g ∧ (∀ row ∈ g, row.length = g.length) ∧ g.length ≤ 100 ∧ ∀ H', Ext H H' → Q (.int (sumG g - diagG g)) H'
theorem cal_out (T : Txt K mg) : MCal P w K mg base 2 (cY K) "out" ["self"] (spOut K) := by
  refine T.met_out.cal (fun _ _ _ _ _ _ us hl => match us, hl with | [_], _ => rfl) fun f fd F => F.ok scOut (fun vs H Q E h => ?_) fun cdv A outer s H vs Q E hr h => ?_
  · obtain ⟨p, ka, ga, g, rfl, _⟩ := h
    rfl
  · obtain ⟨p, ka, ga, g, rfl, hy, hg, hsq, h100, q⟩ := h
    have nd := scOut.nd
    refine ⟨_, PSs.nox (pss_one (ps_ret (pe_op op_sub (pe_mcalS0 (cal_size T) T.scls hr (pv 0)) (pe_callB (cr_sum rfl) (by rfl) T.fr_sum (by decide +kernel) (pa_cons (pe_lc (own := [("at", 1), ("row", 2)]) (g := gTup K 2 (gCons (gName 1) (gCons (gName 2) gNil))) (tt := tYes) (te := tOp (rIxT K) (tVar 2) (tVar 1)) rfl nd (pi_enumT rfl T.fr_enumerate (pa_cons (SlX.pe_sl (pv 0)) pa_nil)) (blkOk_by (N := nOut) (sc := defScope sOut) (by decide +kernel))
      (fun _ _ _ _ _ => pg_tup rfl (pgs_cons (pg_name (i := 1) nd rfl (Or.inl rfl)) (pgs_cons (pg_name (i := 2) nd rfl (Or.inl rfl)) pgs_nil))) (fun _ _ _ _ _ => pts_nil)
      (fun _ _ _ _ _ => pe_ix ix_tup (pv 2) (pv 1) (fun _ _ => rfl))) pa_nil))))), ?_⟩
    obtain ⟨dx0, hs0⟩ := hy.slt
    refine ⟨_, rfl, p, dx0, _, rfl, hs0, p, ka, ga, g, rfl, hy, hg, h100, fun H1 e1 => ?_⟩
    obtain ⟨dx, hs⟩ := (hy.ext e1).slt
    obtain ⟨ras, ha, hras, hget⟩ := (hg.ext e1).row
    refine ⟨_, rfl, p, _, dx, _, _, _, _, rfl, hs, T.scls, T.slot1, rfl, ga, _, rfl, SqT.of ha, fun D hD => ?_⟩
    refine lc_it (walk_enumT (xs := ras.map V.ref)) (fun j H' => Ext H1 H' ∧ H' D = some (.lst (((List.range j).map fun k => cell g k k).map V.int))) ⟨Ext.one hD, upd_same⟩ (fun j H' _ ⟨e, _⟩ => SqT.of (e _ _ ha)) ?_ ?_
    · rintro j x H2 H3 hj ⟨e2, h2⟩ ⟨TT, x1, y1, ex, hT, rfl, ei, ey⟩
      subst ex
      injection ei with ei
      subst ei
      obtain ⟨rj, hrj, rfl⟩ := map_get ey
      obtain ⟨rowj, hrwj, hRj⟩ := hget j rj hrj
      have hjl : j < g.length := (List.getElem?_eq_some_iff.mp hrwj).1
      obtain ⟨y, hy⟩ := get_of_lt (l := rowj) (i := j) (by rw [hsq rowj (List.mem_of_getElem? hrwj)]; exact hjl)
      have e3 : Ext H1 (upd H2 TT (.tup [.int (j : Nat), .ref rj])) := e2.new hT
      have hTD : TT ≠ D := (ne_of_none h2 hT).symm
      refine ⟨TT, _, rfl, SqT.of upd_same, rfl, _, _, rfl, _, _, rfl, rfl, rfl, ?_⟩
      refine ⟨_, rfl, _, rfl, rj, _, _, .int y, rfl, rfl, SqT.of (e3 _ _ hRj), atI_nat (by rw [List.getElem?_map, hy]; rfl), _, (upd_ne hTD.symm).trans h2, ?_, e3.put hD, ?_⟩
      · simp only [List.length_map, List.length_range]
        show _ < 16777216
        omega
      · rw [upd_same, List.range_succ]
        simp [cell, hrwj, hy]
    · intro H3 ⟨e3, h3⟩
      rw [List.length_map, hras] at h3
      exact ⟨D, _, rfl, SqL.of h3, _, _, rfl, rfl, q H3 (e1.trans e3)⟩
/-! ### check_yard -/
theorem scChk : FnScope ["value"] ["value"] (defScope (topS 51)) := ⟨rfl, rfl, rfl, by decide +kernel, rfl, by decide +kernel, by decide +kernel⟩
def spChk (K : PySem.W.Frag) : Sp := fun vs H Q _ => ∃ (p ka ga : Addr), vs = [.ref p] ∧ YardAt K H p ka ga ∧ Q .non H
theorem cal_chk (T : Txt K mg) : Cal P w K mg base 1 "check_yard" ["value"] (spChk K) := by
  refine T.def_check_yard.cal (fun _ _ _ _ _ _ us hl => match us, hl with | [_], _ => rfl) fun f fd F => F.ok scChk (fun vs H Q E h => ?_) fun cdv A outer s H vs Q E hr h => ?_
  · obtain ⟨p, ka, ga, rfl, _⟩ := h
    rfl
  · obtain ⟨p, ka, ga, rfl, hy, q⟩ := h
    refine ⟨_, PSs.nox (pss_one (ps_if (pt_not (pt_val (pe_callB (SlX.call_isiSl (.ref (cY K))) (by rfl) T.fr_isinstance (by decide +kernel) (pa_cons (pv 0) (pa_cons (pe_glob (v := .ref (cY K)) rfl T.mg_Yard rfl) pa_nil))))) (pss_one ps_never) pss_nil)), ?_⟩
    obtain ⟨dx, hs⟩ := hy.slt
    exact ⟨_, rfl, p, _, dx, _, _, true, rfl, rfl, fun w h => h, hs, T.scls, T.sisi, T.kit_Yard, true, rfl, iteF q⟩
end
end K30

namespace K30
open PySem PySem.Spec PyProof.Rows L2
/-- a clause within a block, over any walk: Bd is what one turn asks, from what is wanted behind it -/
theorem lc_in {J : It} {n : Nat} {G : Hp → Prop} {Y : Nat → Hp → V → Hp → Prop} (wk : Walk J n G Y) {Bd : (Hp → Prop) → V → Hp → Prop} {HS : Hp} {Qe : Hp → Prop} (I : Nat → Hp → Prop) (h0 : I 0 HS)
    (hG : ∀ j H, j ≤ n → I j H → G H) (turn : ∀ j x H H', j < n → I j H → Y j H x H' → Bd (I (j + 1)) x H') (last : ∀ H, I n H → Qe H) :
    ∃ W1 : Nat → Nat → Hp → Prop, (∃ m, W1 0 m HS) ∧ ∀ j k H, W1 j k H → (J.stop j H ∧ Qe H) ∨
      (J.go j H ∧ ∃ N1 : Hp → Prop, (∀ H', N1 H' → ∃ k', k' < k ∧ W1 (j + 1) k' H') ∧ ∀ x H', J.yld j H x H' → Bd N1 x H') := by
  refine ⟨fun j k H => k = n - j ∧ j ≤ n ∧ I j H, ⟨n, rfl, Nat.zero_le n, h0⟩, fun j k H ⟨ek, hj, hi⟩ => ?_⟩
  subst ek
  have g := hG j H hj hi
  rcases Nat.lt_or_ge j n with c | c
  · exact .inr ⟨wk.goes j H c g, I (j + 1), fun H' h => ⟨n - (j + 1), by omega, rfl, c, h⟩, fun x H' y => turn j x H H' c hi (wk.yields j H x H' c g y)⟩
  · obtain rfl : j = n := by omega
    exact .inl ⟨wk.stops H g, last H hi⟩
abbrev rV (r : List Nat) : List V := r.map nV
abbrev RingsAt (H : Hp) : List Addr → List (List Nat) → Prop := Paired fun p r => H p = some (.tup (rV r))
theorem inV_nat (a : Nat) : ∀ r : List Nat, inV (nV a) (rV r) = r.contains a
  | [] => rfl
  | x :: r => by
    have h := inV_nat a r
    show (eqV (nV x) (nV a) || inV (nV a) (rV r)) = _
    rw [h, List.contains_cons]
    congr 1
    show ((x : Int) == (a : Int)) = (a == x)
    by_cases c : a = x
    · subst c; simp
    · have c2 : ¬ (x : Int) = (a : Int) := fun e => c (by omega)
      rw [beq_eq_false_iff_ne.mpr c2, beq_eq_false_iff_ne.mpr c]
theorem flat_nats (r : List Nat) : (rV r).all flatV = true := by
  induction r with
  | nil => rfl
  | cons x r ih => simpa [rV, flatV] using ih
section
variable {P : Program} {w : World} {K : PySem.W.Frag} {mg : Str → Option Value} {base : Heap}
/-! ### rings_of -/
abbrev nRo : List Str := ["size", "length", "found", "turn", "at", "ring"]
theorem scRo : FnScope nRo ["size", "length"] (defScope (topS 55)) := ⟨rfl, rfl, rfl, by decide +kernel, rfl, by decide +kernel, by decide +kernel⟩
def spRo : Sp := fun vs H Q _ => ∃ (n t : Nat), vs = [nV n, nV (t + 1)] ∧ n ≤ 100 ∧ t ≤ 100 ∧ (∀ s, s ≤ t → (ringsGo n s).length ≤ 1000) ∧ ∀ f rs H', Ext H H' → H f = none → H' f = some (.lst (rs.map V.ref)) → RingsAt H' rs (ringsGo n t) → Q (.ref f) H'
theorem ringsGo_ne {n : Nat} : ∀ {t : Nat}, ∀ r ∈ ringsGo n t, r ≠ []
  | 0, r, h => by
    obtain ⟨a, _, rfl⟩ := List.mem_map.mp h
    simp
  | t + 1, r, h => by
    obtain ⟨q, _, h2⟩ := List.mem_flatMap.mp h
    obtain ⟨a, _, rfl⟩ := List.mem_map.mp h2
    simp
theorem ringsGo_ok {n : Nat} : ∀ {t : Nat}, ∀ r ∈ ringsGo n t, (∀ a ∈ r, a < n) ∧ r.length = t + 1
  | 0, r, h => by
    obtain ⟨a, ha, rfl⟩ := List.mem_map.mp h
    exact ⟨fun b hb => by rw [List.mem_singleton] at hb; rw [hb]; exact List.mem_range.mp ha, rfl⟩
  | t + 1, r, h => by
    obtain ⟨q, hq, h2⟩ := List.mem_flatMap.mp h
    obtain ⟨a, ha, rfl⟩ := List.mem_map.mp h2
    obtain ⟨q1, q2⟩ := ringsGo_ok q hq
    have ha2 := (List.mem_filter.mp ha).1
    rw [List.mem_range'_1] at ha2
    refine ⟨fun b hb => ?_, by simp [q2]⟩
    rcases List.mem_append.mp hb with hb | hb
    · exact q1 b hb
    · rw [List.mem_singleton] at hb
      omega
theorem cal_ro (T : Txt K mg) : Cal P w K mg base 1 "rings_of" ["size", "length"] spRo := by
  refine T.def_rings_of.cal (fun _ _ _ _ _ _ us hl => match us, hl with | [_, _], _ => rfl) fun f fd F => F.ok scRo (fun vs H Q E h => ?_) fun cdv A outer s H vs Q E hr h => ?_
  · obtain ⟨n, t, rfl, _⟩ := h
    rfl
  · obtain ⟨n, t, rfl, hn, ht, hsz, q⟩ := h
    have nd := scRo.nd
    refine ⟨_, PSs.nox (pss_cons (ps_setLc (i := 2) (own := [("at", 4)]) (g := gName 4) (tt := tYes) rfl nd rfl rfl (sw_true rfl rfl rfl (by decide +kernel)) (pi_range1 rfl T.fr_range (pa_cons (pv 0) pa_nil)) (blkOk_by (N := nRo) (sc := defScope (topS 55)) (by decide +kernel)) (fun _ _ _ _ _ => pg_name (i := 4) nd rfl (Or.inl rfl)) (fun _ _ _ _ _ => pts_nil) (fun _ _ _ _ _ => pe_tup (pa_cons (pv 4) pa_nil)))
      (pss_cons (ps_for PassesOwn.never rfl (pi_range1 rfl T.fr_range (pa_cons (pe_op op_sub (pv 1) pe_int) pa_nil)) (pg_name (i := 3) nd rfl (Or.inl rfl))
        (pss_one (ps_setLc2 (i := 2) (own := [("ring", 5), ("at", 4)]) (vs1 := [4]) (g := gName 5) (g1 := gName 4) (tt := tYes) (tt1 := tTest (tOp (rIn K true) (tVar 4) (tVar 5))) (te := tTup (StX.tStar K (tVar 5) (tCons (tVar 4) tNil))) rfl nd rfl rfl (sw_true rfl rfl rfl (by decide +kernel)) (pi_list (pv 2)) (blkOk_by (N := nRo) (sc := defScope (topS 55)) (by decide +kernel)) (by decide)
          (fun _ _ _ _ _ => pg_name (i := 5) nd rfl (Or.inl rfl)) (fun _ _ _ _ _ => pts_nil) (wi1 := iRng2 (tCons (tOp (rI0 fun i j => V.int (i + j)) (tOp (rIxT K) (tVar 5) (tC (V.int 0))) (tC (V.int 1))) (tCons (tVar 0) tNil))) (fun _ _ _ _ _ => pi_range2 (by rfl) T.fr_range (pa_cons (pe_op op_add (pe_ix ix_tup (pv 5) pe_int (fun _ _ => rfl)) pe_int) (pa_cons (pv 0) pa_nil)))
          (fun _ _ _ _ _ => pg_name (i := 4) nd rfl (Or.inl rfl)) (fun _ _ _ _ _ => pts_one (pt_cmpR op_notIn_seq (pv 4) (pv 5) rfl)) (fun _ _ _ _ _ => pe_tup (StX.pa_star (pv 5) (pa_cons (pv 4) pa_nil))))))
      (pss_one (ps_ret (pv 2))))), ?_⟩
    refine ⟨_, rfl, _, rfl, by omega, by omega, fun D hD => ?_⟩
    refine lc_range (lo := 0) (n := n) (fun i H' => Ext H H' ∧ ∃ rs, H' D = some (.lst (rs.map V.ref)) ∧ RingsAt H' rs ((List.range i).map fun a => [a])) ⟨Ext.one hD, [], upd_same, .nil⟩ ?_ ?_
    · intro i H1 hi ⟨e1, rs, h1, r1⟩
      rw [Int.zero_add]
      refine ⟨rfl, ?_⟩
      refine ⟨_, rfl, (by show 1 ≤ 16777216; decide), fun p hp => ⟨_, (upd_ne (ne_of_none h1 hp)).trans h1, ?_, (e1.new hp).put hD, rs ++ [p], ?_, ?_⟩⟩
      · have := paired_len r1
        simp at this
        rw [List.length_map, this]
        show _ < 16777216
        omega
      · rw [upd_same]
        simp
      · rw [List.range_succ, List.map_append]
        have npD : p ≠ D := (ne_of_none h1 hp).symm
        refine paired_snoc (by rw [upd_ne npD]; exact upd_same) (pairedMono (fun a b k => ?_) r1)
        rw [upd_ne (ne_of k h1 (by intro z; cases z)), upd_ne (ne_of_none k hp)]
        exact k
    · intro H1 ⟨e1, rs, h1, r1⟩
      have tt : ((t + 1 : Nat) : Int) - 1 = (t : Int) := by omega
      refine ⟨_, rfl, _, _, rfl, rfl, _, rfl, by rw [tt]; omega, by rw [tt]; omega, ?_⟩
      rw [tt]
      refine for_range (lo := 0) (n := t) (fun i σ H' => ∃ z D' rs', σ = [some (nV n), some (nV (t + 1)), some (.ref D'), z, none, none] ∧ Ext H H' ∧ H D' = none ∧ H' D' = some (.lst (rs'.map V.ref)) ∧ RingsAt H' rs' (ringsGo n i)) ⟨none, D, rs, rfl, e1, hD, h1, r1⟩ ?_ ?_
      · intro i σ H2 hi ⟨z, D', rs', e, e2, nD', h2, r2⟩
        subst e
        have l2 : rs'.length = (ringsGo n i).length := paired_len r2
        have l2b := hsz i (by omega)
        refine ⟨_, rfl, D', rfl, ⟨_, SqL.of h2⟩, fun D2 hD2 => ?_⟩
        refine lc_in (walk_list (xs := rs'.map V.ref)) (fun j H' => Ext H2 H' ∧ ∃ rs2, H' D2 = some (.lst (rs2.map V.ref)) ∧ rs2.length ≤ 100 * j ∧ RingsAt H' rs2 (((ringsGo n i).take j).flatMap (extR n))) ⟨Ext.one hD2, [], upd_same, by simp, .nil⟩ (fun j H' _ ⟨e, _⟩ => SqL.of (e _ _ h2)) ?_ ?_
        · rintro j x H3 H3' hj ⟨e3, rs2, h3, l3, r3⟩ ⟨eh, hx⟩
          subst eh
          obtain ⟨p, hp, rfl⟩ := map_get hx
          obtain ⟨r, hr0⟩ := get_of_lt (l := ringsGo n i) (i := j) (by rw [← l2]; exact (List.getElem?_eq_some_iff.mp hp).1)
          have hP : H2 p = some (.tup (rV r)) := paired_get r2 hp hr0
          have rne := ringsGo_ne r (List.mem_of_getElem? hr0)
          obtain ⟨a0, r', er⟩ := List.exists_cons_of_ne_nil rne
          have hhd : r.headD 0 = a0 := by rw [er]; rfl
          obtain ⟨rlt, rlen⟩ := ringsGo_ok r (List.mem_of_getElem? hr0)
          have ha0 : a0 < n := rlt a0 (by rw [er]; simp)
          have jb : j < 1000 := by
            have := (List.getElem?_eq_some_iff.mp hr0).1
            omega
          refine ⟨rfl, ?_⟩
          refine ⟨_, rfl, p, _, _, nV a0, rfl, rfl, SqT.of (e3 _ _ hP), by rw [er]; exact atI_nat (j := 0) rfl, _, _, rfl, rfl, _, rfl, _, _, rfl, ⟨by omega, by omega, by omega, by omega⟩, ?_⟩
          have a0n : (((n : Int) - ((a0 : Int) + 1)).toNat) = n - (a0 + 1) := by omega
          rw [a0n]
          let keep : Nat → List Nat := fun m => (((List.range' (a0 + 1) (n - (a0 + 1))).take m).filter fun a => !r.contains a)
          refine lc_in (walk_range (lo := (a0 : Int) + 1) (n := n - (a0 + 1))) (fun m H' => Ext H2 H' ∧ ∃ rs2, H' D2 = some (.lst (rs2.map V.ref)) ∧ rs2.length ≤ 100 * j + m ∧ RingsAt H' rs2 (((ringsGo n i).take j).flatMap (extR n) ++ (keep m).map fun a => r ++ [a])) ⟨e3, rs2, h3, by omega, by simpa [keep] using r3⟩ (fun _ _ _ _ => trivial) ?_ ?_
          · rintro m x H4 H4' hm ⟨e4, rs3, h4, l4, r4⟩ ⟨eh, hx⟩
            subst eh
            have hx' : x = nV (a0 + 1 + m) := hx.trans (congrArg V.int (by omega))
            subst hx'
            have hP4 := e4 _ _ hP
            have hk : (List.range' (a0 + 1) (n - (a0 + 1)))[m]? = some (a0 + 1 + m) := by simp [List.getElem?_range', hm]
            have kp : keep (m + 1) = keep m ++ if r.contains (a0 + 1 + m) then [] else [a0 + 1 + m] := by
              simp only [keep]
              rw [List.take_add_one, hk, List.filter_append]
              congr 1
              show List.filter (fun a => !r.contains a) [a0 + 1 + m] = _
              rw [List.filter_cons, List.filter_nil]
              cases r.contains (a0 + 1 + m) <;> rfl
            refine ⟨rfl, ?_⟩
            refine ⟨_, rfl, _, rfl, p, _, rfl, .inr (SqT.of hP4), rfl, flat_nats r, _, rfl, ?_⟩
            show if (!inV (nV (a0 + 1 + m)) (rV r)) = true then _ else _
            rw [inV_nat]
            cases hc : r.contains (a0 + 1 + m) with
            | true =>
              refine iteF ⟨e4, rs3, h4, by omega, ?_⟩
              rw [kp, hc]
              simpa using r4
            | false =>
              refine iteT ⟨_, rfl, p, _, rfl, .inl (SqT.of hP4), _, rfl, ?_, fun p4 np4 => ⟨_, (upd_ne (ne_of_none h4 np4)).trans h4, ?_, (e4.new np4).put hD2, rs3 ++ [p4], ?_, ?_, ?_⟩⟩
              · simp only [List.length_append, List.length_map, List.length_cons, List.length_nil, rV, rlen]
                show _ ≤ 16777216
                omega
              · rw [List.length_map]
                show _ < 16777216
                omega
              · rw [upd_same]
                simp
              · simp
                omega
              · rw [kp, hc]
                have npD : p4 ≠ D2 := (ne_of_none h4 np4).symm
                rw [show (keep m ++ if false = true then [] else [a0 + 1 + m]).map (fun a => r ++ [a]) = (keep m).map (fun a => r ++ [a]) ++ [r ++ [a0 + 1 + m]] by simp, ← List.append_assoc]
                refine paired_snoc ?_ (pairedMono (fun a b k => ?_) r4)
                · rw [upd_ne npD, upd_same]
                  simp
                · rw [upd_ne (ne_of k h4 (by intro z; cases z)), upd_ne (ne_of_none k np4)]
                  exact k
          · intro H4 ⟨e4, rs3, h4, l4, r4⟩
            have hlen : (List.range' (a0 + 1) (n - (a0 + 1))).length = n - (a0 + 1) := by simp
            refine ⟨e4, rs3, h4, by omega, ?_⟩
            rw [List.take_add_one, hr0, List.flatMap_append]
            simp only [keep] at r4
            rw [show (List.range' (a0 + 1) (n - (a0 + 1))).take (n - (a0 + 1)) = List.range' (a0 + 1) (n - (a0 + 1)) from List.take_of_length_le (by omega)] at r4
            have e5 : (some r).toList.flatMap (extR n) = ((List.range' (a0 + 1) (n - (a0 + 1))).filter fun a => !r.contains a).map fun a => r ++ [a] := by
              simp only [Option.toList, List.flatMap_cons, List.flatMap_nil, List.append_nil]
              unfold extR
              rw [hhd]
            rw [e5]
            exact r4
        · intro H3 ⟨e3, rs2, h3, l3, r3⟩
          rw [List.length_map, l2, List.take_length] at r3
          exact ⟨_, D2, rs2, rfl, e2.trans e3, e2.nil hD2, h3, r3⟩
      · intro σ H2 ⟨z, D', rs', e, e2, nD', h2, r2⟩
        subst e
        exact ⟨_, rfl, q D' rs' H2 e2 nD' h2 r2⟩
end
end K30

namespace K30
open PySem PySem.Spec PyProof.Rows L2
abbrev PairV (H : Hp) (a : Addr) (z : Nat × Nat) : Prop := H a = some (.tup [nV z.1, nV z.2])
abbrev PairsV (H : Hp) : List Addr → List (Nat × Nat) → Prop := Paired (PairV H)
theorem cut1 {xs : List V} (h : 1 ≤ xs.length) : cutV xs (some 1) none = xs.drop 1 := by
  have e1 : HT.sIx xs.length 0 (some 1) = 1 := by
    have := HT.sIx_nat xs.length 0 1
    rw [show ((1 : Nat) : Int) = 1 from rfl] at this
    rw [this]
    omega
  unfold cutV
  rw [e1, HT.sIx_none, List.take_of_length_le (by simp)]
theorem pairs_of {H : Hp} : ∀ {as : List Addr} {zs : List (Nat × Nat)}, as.length = zs.length → (∀ (j : Nat) a z, as[j]? = some a → zs[j]? = some z → PairV H a z) → PairsV H as zs
  | [], [], _, _ => .nil
  | a :: as, z :: zs, h, f => .cons (f 0 a z rfl rfl) (pairs_of (by simpa using h) fun j b y hb hy => f (j + 1) b y (by simpa using hb) (by simpa using hy))
section
variable {P : Program} {w : World} {K : PySem.W.Frag} {mg : Str → Option Value} {base : Heap}
/-! ### steps_of -/
theorem scSo : FnScope ["ring"] ["ring"] (defScope (topS 56)) := ⟨rfl, rfl, rfl, by decide +kernel, rfl, by decide +kernel, by decide +kernel⟩
def spSo : Sp := fun vs H Q _ => ∃ (p : Addr) (r : List Nat), vs = [.ref p] ∧ H p = some (.tup (rV r)) ∧ 2 ≤ r.length ∧ r.length ≤ 100 ∧ ∀ L as H', Ext H H' → H L = none → H' L = some (.lst (as.map V.ref)) → PairsV H' as (stepsR r) → Q (.ref L) H'
theorem cal_so (T : Txt K mg) : Cal P w K mg base 1 "steps_of" ["ring"] spSo := by
  refine T.def_steps_of.cal (fun _ _ _ _ _ _ us hl => match us, hl with | [_], _ => rfl) fun f fd F => F.ok scSo (fun vs H Q E h => ?_) fun cdv A outer s H vs Q E hr h => ?_
  · obtain ⟨p, r, rfl, _⟩ := h
    rfl
  · obtain ⟨p, r, rfl, hp, h2, h100, q⟩ := h
    have nd := scSo.nd
    refine ⟨_, PSs.nox (pss_one (ps_ret (pe_listZip rfl rfl T.fr_zip rfl T.fr_list (pa_cons (pv 0) (pa_cons (pe_lst (StX.pa_star (pe_slice sl_tup (pv 0) (po_some pe_int) po_none) (pa_cons (pe_ix ix_tup (pv 0) pe_int (fun _ _ => rfl)) pa_nil))) pa_nil))))), ?_⟩
    have lr : (rV r).length = r.length := List.length_map _
    obtain ⟨a0, r', er⟩ := List.exists_cons_of_ne_nil (l := r) (by intro c; rw [c] at h2; simp at h2)
    refine ⟨_, rfl, _, rfl, _, rfl, p, _, rfl, SqT.of hp, ?_, fun t ht => ?_⟩
    · have := HT.sIx_nat (rV r).length 0 1
      rw [show ((1 : Nat) : Int) = 1 from rfl] at this
      rw [this]
      omega
    · rw [cut1 (by omega)]
      generalize hu1 : upd H t _ = H1
      obtain ⟨h1, c1⟩ := upd_eq hu1
      have e1 : Ext H H1 := Ext.refl.chg ht c1
      refine ⟨t, _, rfl, .inl (SqT.of h1), _, rfl, p, _, _, nV a0, rfl, rfl, SqT.of (e1 _ _ hp), by rw [er]; exact atI_nat (j := 0) rfl, ?_⟩
      refine ⟨by simp only [List.length_append, List.length_drop, List.length_cons, List.length_nil, lr]; show _ ≤ 16777216; omega, fun l hl => ?_⟩
      generalize hu2 : upd H1 l _ = H2
      obtain ⟨h2', c2⟩ := upd_eq hu2
      have e2 : Ext H H2 := e1.chg (e1.nil hl) c2
      refine ⟨p, l, _, _, rfl, SqT.of (e2 _ _ hp), SqL.of h2', by simp; omega, by rw [lr]; show _ < 16777216; omega, fun H' L as sm nL hL hpr => ?_⟩
      refine q L as H' (e2.trans sm) (e2.nil nL) hL ?_
      obtain ⟨q1, q2⟩ := hpr
      have lst : (stepsR r).length = r.length := by
        unfold stepsR
        simp
        omega
      refine pairs_of (by rw [q1, lst, lr]) fun j a z ha hz => ?_
      obtain ⟨x, y, hx, hy, hA⟩ := q2 j a ha
      unfold stepsR at hz
      rw [List.getElem?_zip_eq_some] at hz
      obtain ⟨z1, z2⟩ := hz
      have ex : x = nV z.1 := by
        rw [List.getElem?_map, z1] at hx
        exact (Option.some.inj hx).symm
      have ey : y = nV z.2 := by
        have : (rV r).drop 1 ++ [nV a0] = (r.drop 1 ++ [r.headD 0]).map nV := by rw [er]; simp [rV]
        rw [this, List.getElem?_map, z2] at hy
        exact (Option.some.inj hy).symm
      show H' a = some (.tup [nV z.1, nV z.2])
      rw [hA, ex, ey]
/-! ### is_upper -/
abbrev nUp : List Str := ["ring", "missing", "at"]
theorem scUp : FnScope nUp ["ring"] (defScope (topS 58)) := ⟨rfl, rfl, rfl, by decide +kernel, rfl, by decide +kernel, by decide +kernel⟩
def upOk (r : List Nat) : Bool := decide (r.length = 3) && !((List.range 4).filter fun a => !r.contains a).isEmpty
def spUp : Sp := fun vs H Q _ => ∃ (p : Addr) (r : List Nat), vs = [.ref p] ∧ H p = some (.tup (rV r)) ∧ upOk r = true ∧ ∀ H', Ext H H' → Q (.bl (isUp r)) H'
theorem cal_up (T : Txt K mg) : Cal P w K mg base 1 "is_upper" ["ring"] spUp := by
  refine T.def_is_upper.cal (fun _ _ _ _ _ _ us hl => match us, hl with | [_], _ => rfl) fun f fd F => F.ok scUp (fun vs H Q E h => ?_) fun cdv A outer s H vs Q E hr h => ?_
  · obtain ⟨p, r, rfl, _⟩ := h
    rfl
  · obtain ⟨p, r, rfl, hp, hup, q⟩ := h
    have nd := scUp.nd
    refine ⟨_, PSs.nox (pss_cons (ps_set (i := 1) nd rfl (Or.inl rfl) (pe_ix ix_list (pe_lc (own := [("at", 2)]) (g := gName 2) (tt := tTest (tOp (rIn K true) (tVar 2) (tVar 0))) rfl nd (pi_range1 rfl T.fr_range (pa_cons pe_int pa_nil)) (blkOk_by (N := nUp) (sc := defScope (topS 58)) (by decide +kernel)) (fun _ _ _ _ _ => pg_name (i := 2) nd rfl (Or.inl rfl)) (fun _ _ _ _ _ => pts_one (pt_cmpR op_notIn_seq (pv 2) (pv 0) rfl)) (fun _ _ _ _ _ => pv 2)) pe_int (fun _ _ => rfl)))
      (pss_one (ps_ret (pe_cmpR op_eq (pe_op op_mod (pe_op op_add (pv 1) (pe_ifExp (pt_cmpR op_lt (pe_ix ix_tup (pv 0) pe_int (fun _ _ => rfl)) (pe_ix ix_tup (pv 0) pe_int (fun _ _ => rfl)) (nomark _)) pe_int pe_int)) pe_int) pe_int (nomark _))))), ?_⟩
    unfold upOk at hup
    simp only [Bool.and_eq_true, decide_eq_true_eq, Bool.not_eq_true'] at hup
    obtain ⟨h3, hne⟩ := hup
    let kp : Nat → List Nat := fun m => (List.range m).filter fun a => !r.contains a
    refine ⟨4, rfl, by decide, by decide, fun D hD => ?_⟩
    refine lc_range (lo := 0) (n := 4) (fun i H' => Ext H H' ∧ H' D = some (.lst ((kp i).map nV))) ⟨Ext.one hD, upd_same⟩ ?_ ?_
    · intro i H1 hi ⟨e1, h1⟩
      rw [Int.zero_add]
      have ek : kp (i + 1) = kp i ++ if r.contains i then [] else [i] := by
        simp only [kp]
        rw [List.range_succ, List.filter_append]
        congr 1
        rw [List.filter_cons, List.filter_nil]
        cases r.contains i <;> rfl
      refine ⟨rfl, ?_⟩
      refine ⟨_, rfl, _, rfl, p, _, rfl, .inr (SqT.of (e1 _ _ hp)), rfl, flat_nats r, _, rfl, ?_⟩
      show if (!inV (nV i) (rV r)) = true then _ else _
      rw [inV_nat]
      cases hc : r.contains i with
      | true =>
        refine iteF ⟨e1, ?_⟩
        rw [ek, hc]
        simpa using h1
      | false =>
        refine iteT ⟨_, rfl, _, h1, ?_, e1.put hD, ?_⟩
        · have := List.length_filter_le (fun a => !r.contains a) (List.range i)
          rw [List.length_range] at this
          rw [List.length_map]
          show (List.filter _ _).length < 16777216
          omega
        · rw [upd_same, ek, hc]
          simp
    · intro H1 ⟨e1, h1⟩
      obtain ⟨m0, ml, em⟩ := List.exists_cons_of_ne_nil (l := kp 4) (by intro c; rw [show ((List.range 4).filter fun a => !r.contains a) = [] from c] at hne; cases hne)
      have emis : missing r = m0 := by
        show (kp 4).headD 0 = m0
        rw [em]
        rfl
      rw [em] at h1
      match r, h3 with
      | [x, y, z], _ =>
        have hp1 := e1 _ _ hp
        refine ⟨D, _, _, nV m0, rfl, rfl, SqL.of h1, atI_nat (j := 0) rfl, ?_⟩
        refine ⟨_, rfl, _, rfl, p, _, _, nV y, rfl, rfl, SqT.of hp1, atI_nat (j := 1) rfl, _, rfl, p, _, _, nV z, rfl, rfl, SqT.of hp1, atI_nat (j := 2) rfl, _, _, rfl, rfl, _, rfl, ?_⟩
        have fin : ∀ (b : Bool) (v : Nat), (if y < z then 1 else 0) = v → Q (.bl (decide (V.int (((m0 : Int) + (v : Int)) % 2) = V.int 0))) H1 := by
          intro b v hv
          have : isUp [x, y, z] = decide (V.int (((m0 : Int) + (v : Int)) % 2) = V.int 0) := by
            unfold isUp
            rw [emis]
            have e2 : (if ([x, y, z] : List Nat).getD 1 0 < ([x, y, z] : List Nat).getD 2 0 then 1 else 0) = v := hv
            rw [e2]
            by_cases c : (m0 + v) % 2 = 0
            · rw [decide_eq_true c, decide_eq_true (by rw [show ((m0 : Int) + (v : Int)) % 2 = 0 by omega])]
            · rw [decide_eq_false c, decide_eq_false (by intro k; injection k with k; omega)]
          rw [← this]
          exact q H1 e1
        by_cases c : y < z
        · refine iteD (by omega) ⟨_, _, rfl, rfl, _, _, rfl, rfl, (by show (0 : Int) < 2; decide), rfl, ?_⟩
          exact fin true 1 (if_pos c)
        · refine iteN (by omega) ⟨_, _, rfl, rfl, _, _, rfl, rfl, (by show (0 : Int) < 2; decide), rfl, ?_⟩
          exact fin false 0 (if_neg c)
end
end K30

namespace K30
open PySem PySem.Spec PyProof.Rows L2
theorem hu65 {k : Nat} {A : Around} (hr : Room k A) : A.units + 65 < cLine := by
  have := hr.un
  omega
def dz (z : Nat × Nat) : PyData := .tuple [.int z.1, .int z.2]
theorem eqv_dz (a b : Nat × Nat) : PyData.eqv (dz a) (dz b) = (b == a) := by
  have h : PyData.eqv (dz a) (dz b) = (((a.1 : Int) == (b.1 : Int)) && (((a.2 : Int) == (b.2 : Int)) && true)) := by simp only [dz, PyData.eqv, PyData.eqvAll]
  rw [h]
  obtain ⟨a1, a2⟩ := a
  obtain ⟨b1, b2⟩ := b
  by_cases c : (b1, b2) = (a1, a2)
  · rw [beq_iff_eq.mpr c]
    injection c with c1 c2
    subst c1
    subst c2
    simp
  · rw [beq_eq_false_iff_ne.mpr c]
    by_cases c1 : a1 = b1
    · subst c1
      have c2 : ¬ (a2 : Int) = (b2 : Int) := fun e => c (by rw [show b2 = a2 by omega])
      simp [c2]
    · have c1' : ¬ (a1 : Int) = (b1 : Int) := fun e => c1 (by omega)
      simp [c1']
theorem shaped_dz (z : Nat × Nat) : SeqAt.shaped (dz z) = true := by
  simp [SeqAt.shaped, dz, PyData.canLay0, PyData.canLayAll0, PyData.depth, PyData.depthAll]
theorem canAll_dz : ∀ zs : List (Nat × Nat), PyData.canLayAll0 (zs.map dz) = true
  | [] => by simp [PyData.canLayAll0]
  | z :: zs => by simp [PyData.canLayAll0, canAll_dz zs, dz, PyData.canLay0]
theorem depthAll_dz : ∀ zs : List (Nat × Nat), PyData.depthAll (zs.map dz) ≤ 1
  | [] => by simp [PyData.depthAll]
  | z :: zs => by
    have := depthAll_dz zs
    simp [PyData.depthAll, dz, PyData.depth]
    omega
theorem shaped_dzs (zs : List (Nat × Nat)) : SeqAt.shaped (.list (zs.map dz)) = true := by
  have := depthAll_dz zs
  simp [SeqAt.shaped, PyData.canLay0, canAll_dz zs, PyData.depth]
  omega
theorem any_dz (z : Nat × Nat) : ∀ zs : List (Nat × Nat), ((zs.map dz).any fun d => PyData.eqv d (dz z)) = zs.contains z
  | [] => rfl
  | y :: zs => by
    rw [List.map_cons, List.any_cons, eqv_dz, any_dz z zs, List.contains_cons]
section
variable {P : Program} {w : World} {K : PySem.W.Frag} {mg : Str → Option Value} {base : Heap}
theorem dp_pair {H : Hp} {a : Addr} {z : Nat × Nat} (h : PairV H a z) : Dp K H (.ref a) (dz z) := .tup (SqT.of h) (.cons (.int _) (.cons (.int _) .nil))
theorem dp_pairs {H : Hp} : ∀ {as : List Addr} {zs : List (Nat × Nat)}, PairsV H as zs → DpAll K H (as.map V.ref) (zs.map dz)
  | _, _, .nil => .nil
  | _, _, .cons h r => .cons (dp_pair h) (dp_pairs r)
theorem dp_two {H : Hp} {a : Addr} {x y : Nat} (h : H a = some (.lst [nV x, nV y])) : Dp K H (.ref a) (.list [.int x, .int y]) := .lst (SqL.of h) (.cons (.int _) (.cons (.int _) .nil))
theorem eqv_two (x y : Nat) : PyData.eqv (.list [.int x, .int y]) (.list [.int (0 : Nat), .int (0 : Nat)]) = decide ((x, y) = (0, 0)) := by
  have h : PyData.eqv (.list [.int x, .int y]) (.list [.int (0 : Nat), .int (0 : Nat)]) = (((x : Int) == ((0 : Nat) : Int)) && (((y : Int) == ((0 : Nat) : Int)) && true)) := by simp only [PyData.eqv, PyData.eqvAll]
  rw [h]
  cases x <;> cases y <;> simp <;> omega
theorem shaped_two (x y : Nat) : SeqAt.shaped (.list [.int x, .int y]) = true := by
  simp [SeqAt.shaped, PyData.canLay0, PyData.canLayAll0, PyData.depth, PyData.depthAll]
/-! ### ends_of -/
abbrev cTh (K : PySem.W.Frag) : Addr := He.ga K "Threes"
def thF (lr ls : Addr) : List (Str × V) := [("rings", .ref lr), ("steps", .ref ls)]
abbrev sEnds : Stmt := inClass (topS 59) 1
abbrev nEnds : List Str := ["self", "step", "ends", "at", "ring"]
theorem scEnds : FnScope nEnds ["self", "step"] (defScope sEnds) := ⟨rfl, rfl, rfl, by decide +kernel, rfl, by decide +kernel, by decide +kernel⟩
def endsV (e : Nat × Nat) : List V := if e = (0, 0) then [] else [nV e.1, nV e.2]
def spEnds (K : PySem.W.Frag) : Sp := fun vs H Q _ => ∃ (p dx st lr ls : Addr) (rs : List Addr) (L : List (List Nat)) (z : Nat × Nat), vs = [.ref p, .ref st] ∧ H p = some (.ins (cTh K) dx (thF lr ls)) ∧ H lr = some (.lst (rs.map V.ref)) ∧ RingsAt H rs L ∧ PairV H st z ∧
  (∀ r ∈ L, upOk r = true) ∧ L.length ≤ 100 ∧ ∀ e H', Ext H H' → H e = none → H' e = some (.lst (endsV (endsGo z 0 L (0, 0)))) → Q (.ref e) H'
theorem endsGo_cons {z : Nat × Nat} {i : Nat} {r : List Nat} {L : List (List Nat)} {e : Nat × Nat} : endsGo z i (r :: L) e = endsGo z (i + 1) L (if (stepsR r).contains z then (if isUp r then (i + 1, e.2) else (e.1, i + 1)) else e) := rfl
theorem cal_ends (T : Txt K mg) : MCal P w K mg base 2 (cTh K) "ends_of" ["self", "step"] (spEnds K) := by
  refine T.met_ends_of.cal (fun _ _ _ _ _ _ us hl => match us, hl with | [_, _], _ => rfl) fun f fd F => F.ok scEnds (fun vs H Q E h => ?_) fun cdv A outer s H vs Q E hr h => ?_
  · obtain ⟨p, dx, st, lr, ls, rs, L, z, rfl, _⟩ := h
    rfl
  · obtain ⟨p, dx, st, lr, ls, rs, L, z, rfl, hp, hlr, hrs, hst, hup, hlen, q⟩ := h
    have nd := scEnds.nd
    refine ⟨_, PSs.nox (pss_cons (ps_set (i := 2) nd rfl (Or.inl rfl) (pe_lst (pa_cons pe_int (pa_cons pe_int pa_nil))))
      (pss_cons (ps_for PassesOwn.never rfl (pi_enum rfl T.fr_enumerate (pa_cons (pe_fld (pv 0) rfl) pa_nil)) (pg_tup rfl (pgs_cons (pg_name (i := 3) nd rfl (Or.inl rfl)) (pgs_cons (pg_name (i := 4) nd rfl (Or.inl rfl)) pgs_nil)))
        (pss_one (ps_if (pt_cmpR (op_inD (hu65 hr)) (pv 1) (pe_cal (cal_so T) hr rfl (pa_cons (pv 4) pa_nil)) rfl)
          (pss_one (ps_asg (pe_op op_add (pv 3) pe_int) (pg_sub (pv 2) (pe_ifExp (pt_val (pe_cal (cal_up T) hr rfl (pa_cons (pv 4) pa_nil))) pe_int pe_int) set_list))) pss_nil)))
      (pss_one (ps_ret (pe_ifExp (pt_cmpR (op_neD hr.units) (pv 2) (pe_lst (pa_cons pe_int (pa_cons pe_int pa_nil))) (nomark _)) (pv 2) (pe_lst pa_nil)))))), ?_⟩
    refine ⟨by show 2 ≤ 16777216; decide, fun d hd => ?_⟩
    generalize hu1 : upd H d _ = H1
    obtain ⟨h1, c1⟩ := upd_eq hu1
    have e1 : Ext H H1 := Ext.refl.chg hd c1
    refine ⟨_, rfl, p, _, dx, _, _, rfl, e1 _ _ hp, T.cls_Threes, T.na_Threes_rings, rfl, lr, _, rfl, SqL.of (e1 _ _ hlr), ?_⟩
    have lrs : rs.length = L.length := paired_len hrs
    refine for_it (walk_enum (xs := rs.map V.ref)) (fun i σ H' => ∃ z1 z2 e, σ = [some (.ref p), some (.ref st), some (.ref d), z1, z2] ∧ Ext H H' ∧ H' d = some (.lst [nV e.1, nV e.2]) ∧ endsGo z i (L.drop i) e = endsGo z 0 L (0, 0)) ⟨none, none, (0, 0), rfl, e1, h1, rfl⟩ (fun i σ H' _ ⟨_, _, _, _, e, _⟩ => SqL.of (e _ _ hlr)) ?_ ?_
    · rintro i x σ H2 H3 hi ⟨z1, z2, e, eσ, e2, h2, hg⟩ ⟨TT, x1, y1, ex, hT, rfl, ei, ey⟩
      subst eσ
      subst ex
      injection ei with ei
      subst ei
      obtain ⟨ra, hra, rfl⟩ := map_get ey
      obtain ⟨r, hr0⟩ := get_of_lt (l := L) (i := i) (by rw [← lrs]; exact (List.getElem?_eq_some_iff.mp hra).1)
      have hR : H ra = some (.tup (rV r)) := paired_get hrs hra hr0
      have hupr := hup r (List.mem_of_getElem? hr0)
      have h3 : r.length = 3 := by
        have h := hupr
        unfold upOk at h
        simp only [Bool.and_eq_true, decide_eq_true_eq] at h
        exact h.1
      rw [drop_cons hr0, endsGo_cons] at hg
      have e3 : Ext H (upd H2 TT (.tup [.int (i : Nat), .ref ra])) := e2.new hT
      have hd3 : upd H2 TT (.tup [.int (i : Nat), .ref ra]) d = some (.lst [nV e.1, nV e.2]) := (upd_ne (ne_of_none h2 hT)).trans h2
      refine ⟨TT, _, rfl, SqT.of upd_same, rfl, _, _, rfl, _, _, rfl, rfl, ?_⟩
      refine ⟨_, rfl, _, rfl, ra, r, rfl, e3 _ _ hR, by omega, by omega, fun Lq as H4 e4 nL hL hps => ?_⟩
      refine ⟨dz z, (stepsR r).map dz, dp_pair ((e3.trans e4) _ _ hst), .lst (SqL.of hL) (dp_pairs hps), shaped_dz z, shaped_dzs _, _, rfl, ?_⟩
      rw [any_dz]
      cases hc : (stepsR r).contains z with
      | false =>
        rw [hc] at hg
        exact iteF ⟨_, _, e, rfl, e3.trans e4, e4 _ _ hd3, hg⟩
      | true =>
        rw [hc] at hg
        refine iteT ?_
        refine ⟨_, rfl, _, _, rfl, rfl, _, rfl, _, rfl, ra, r, rfl, (e3.trans e4) _ _ hR, hupr, fun H5 e5 => ?_⟩
        have hd5 := e5 _ _ (e4 _ _ hd3)
        cases hb : isUp r with
        | true =>
          rw [hb] at hg
          refine ⟨true, rfl, iteT ⟨d, _, 0, 0, rfl, rfl, hd5, rfl, ?_⟩⟩
          exact ⟨_, _, (i + 1, e.2), rfl, ((e3.trans e4).trans e5).put hd, upd_same, hg⟩
        | false =>
          rw [hb] at hg
          refine ⟨false, rfl, iteF ⟨d, _, 1, 1, rfl, rfl, hd5, rfl, ?_⟩⟩
          exact ⟨_, _, (e.1, i + 1), rfl, ((e3.trans e4).trans e5).put hd, upd_same, hg⟩
    · rintro σ H2 ⟨z1, z2, e, eσ, e2, h2, hg⟩
      subst eσ
      rw [List.length_map, lrs, drop_len] at hg
      have he : e = endsGo z 0 L (0, 0) := hg
      refine ⟨_, rfl, by show 2 ≤ 16777216; decide, fun d2 hd2 => ?_⟩
      generalize hu2 : upd H2 d2 _ = H3
      obtain ⟨h3, c3⟩ := upd_eq hu2
      have e3 : Ext H H3 := e2.chg (e2.nil hd2) c3
      have hd3 : H3 d = some (.lst [nV e.1, nV e.2]) := (c3 d (ne_of_none h2 hd2)).trans h2
      refine ⟨_, _, dp_two hd3, dp_two (x := 0) (y := 0) h3, shaped_two _ _, shaped_two _ _, _, rfl, ?_⟩
      rw [eqv_two]
      by_cases c : e = (0, 0)
      · rw [show decide ((e.1, e.2) = (0, 0)) = true from decide_eq_true c]
        refine iteF ⟨by decide, fun d4 hd4 => ?_⟩
        refine q d4 _ (e3.new hd4) (e3.nil hd4) ?_
        rw [upd_same, ← he, endsV, if_pos c]
      · rw [show decide ((e.1, e.2) = (0, 0)) = false from decide_eq_false c]
        refine iteT ⟨_, rfl, q d H3 e3 hd ?_⟩
        rw [hd3, ← he, endsV, if_neg c]
end
end K30

namespace K30
open PySem PySem.Spec PyProof.Rows L2
/-- what a table must hold for the walk -/
def triAll (g : Grid) : List Tri := triRings 0 (ringsGo g.length 2) ++ triSteps (ringsGo g.length 2) g
def thOk (g : Grid) : Bool :=
  decide (g.length ≤ 10) && (g.all fun r => decide (r.length = g.length)) && ((List.range 3).all fun s => decide ((ringsGo g.length s).length ≤ 50)) && ((ringsGo g.length 2).all upOk) &&
  decide ((triAll g).length ≤ 100) && ((triAll g).all fun t => decide (t.1 < (balOf (ringsGo g.length 2)).length) && decide (t.2.1 < (balOf (ringsGo g.length 2)).length) && decide (-(2 ^ 64) < t.2.2) && decide (t.2.2 < 2 ^ 64))
def stepF3 (L : List (List Nat)) (g : Grid) (p t : Nat) : List Tri :=
  let e := endsGo (p, t) 0 L (0, 0)
  if p ≠ t ∧ e ≠ (0, 0) then [(e.1, e.2, cell g p t)] else []
theorem triSteps_eq (L : List (List Nat)) (g : Grid) : triSteps L g = (List.range g.length).flatMap fun p => (List.range g.length).flatMap (stepF3 L g p) := rfl
section
variable {P : Program} {w : World} {K : PySem.W.Frag} {mg : Str → Option Value} {base : Heap}
/-! ### Threes -/
abbrev sTh : Stmt := inClass (topS 59) 0
abbrev nTh : List Str := ["self", "rows", "triples", "at", "ring", "place", "thing", "ends", "balances"]
theorem scTh : FnScope nTh ["self", "rows"] (defScope sTh) := ⟨rfl, rfl, rfl, by decide +kernel, rfl, by decide +kernel, by decide +kernel⟩
def spTh (K : PySem.W.Frag) : Sp := fun vs H Q _ => ∃ (p dx ga : Addr) (g : Grid) (fl : List Int) (fuel : Nat), vs = [.ref p, .ref ga] ∧ H p = some (.ins (cTh K) dx []) ∧ GridT H ga g ∧ thOk g = true ∧
  carryGo (balOf (ringsGo g.length 2)).length (triAll g) fuel (List.replicate (triAll g).length 0, balOf (ringsGo g.length 2)) = some fl ∧
  ∀ H' dx' lr ls tp, (∀ q o, q ≠ p → H q = some o → H' q = some o) → H' p = some (.ins (cTh K) dx' (thF lr ls ++ [(("transport" : PySem.Str), V.ref tp)])) → TrDone K H' tp (triAll g) fl → Q .non H'
theorem spTr_mk {H : Hp} {x dx lt lsf lb : Addr} {n : Nat} {tps : List Addr} {ts : List Tri} {bal fl : List Int} {fuel : Nat} {Q : Hp → Prop} {E : XK} (nx : H x = none) (ndx : H dx = none)
    (hlt : H lt = some (.lst (tps.map V.ref))) (htp : TrisAt H tps ts) (hls : H lsf = some (.lst [])) (hlb : H lb = some (.lst (bal.map V.int))) (hbl : bal.length = n) (hn : n ≤ 100) (hl : ts.length ≤ 100) (hts : ∀ t ∈ ts, t.1 < n ∧ t.2.1 < n)
    (hc : carryGo n ts fuel (List.replicate ts.length 0, bal) = some fl) (k : ∀ H', Ext H H' → TrDone K H' x ts fl → Q H') :
    spTr K [.ref x, nV n, .ref lt, .ref lsf, .ref lb] (upd (upd H dx (.own x)) x (.ins (cTr K) dx [])) (fun v H2 => v = .non ∧ Q H2) E := by
  have e : Ext H (upd (upd H dx (.own x)) x (.ins (cTr K) dx [])) := (Ext.one ndx).put nx
  exact ⟨x, dx, lt, lsf, lb, n, tps, ts, bal, fl, fuel, rfl, upd_same, e _ _ hlt, pairedMono (fun a t h => e _ _ h) htp, e _ _ hls, e _ _ hlb, hbl, hn, hl, hts, hc, fun H' fr d => ⟨rfl, k H' (fun q o ho => fr q o (ne_of_none ho nx) (e _ _ ho)) d⟩⟩
theorem cal_th (T : Txt K mg) : ICal P w K mg base 7 "Threes" (cTh K) ["self", "rows"] (spTh K) := by
  refine T.ini_Threes.cal (fun _ _ _ _ _ _ us hl => match us, hl with | [_, _], _ => rfl) fun f fd F => F.ok scTh (fun vs H Q E h => ?_) fun cdv A outer s H vs Q E hr h => ?_
  · obtain ⟨p, dx, ga, g, fl, fuel, rfl, _⟩ := h
    rfl
  · obtain ⟨p, dx, ga, g, fl, fuel, rfl, hp, hg, hok, hc, q⟩ := h
    have nd := scTh.nd
    have cT : ICal P w K mg base 5 "Transport" (cTr K) ["self", "nodes", "triples", "softs", "balances"] (spTr K) := cal_tr T
    have cE : MCal P w K mg base 2 (cTh K) "ends_of" ["self", "step"] (spEnds K) := cal_ends T
    have hr1 := hr.mono (show 1 ≤ 6 by decide)
    have hr2 := hr.mono (show 2 ≤ 6 by decide)
    refine ⟨_, PSs.nox (pss_cons (ps_fld (pv 0) (pe_cal (cal_ro T) hr1 rfl (pa_cons (pe_callB call_len_seq (by rfl) T.fr_len PySem.boot_len (pa_cons (pv 1) pa_nil)) (pa_cons pe_int pa_nil))) rfl)
      (pss_cons (ps_fld (pv 0) (pe_lst pa_nil) rfl)
      (pss_cons (ps_set (i := 2) nd rfl (Or.inl rfl) (pe_lst pa_nil))
      (pss_cons (ps_for PassesOwn.never rfl (pi_enum rfl T.fr_enumerate (pa_cons (pe_fld (pv 0) rfl) pa_nil)) (pg_tup rfl (pgs_cons (pg_name (i := 3) nd rfl (Or.inl rfl)) (pgs_cons (pg_name (i := 4) nd rfl (Or.inl rfl)) pgs_nil)))
        (pss_one (ps_expr (pe_bm PySem.F.plainAttrs_list PySem.F.slot_list_append PySem.F.type_list_append mt_append (pv 2) (pa_cons (pe_ifExp (pt_val (pe_cal (cal_up T) hr1 rfl (pa_cons (pv 4) pa_nil))) (pe_tup (pa_cons pe_int (pa_cons (pe_op op_add (pv 3) pe_int) (pa_cons pe_int pa_nil)))) (pe_tup (pa_cons (pe_op op_add (pv 3) pe_int) (pa_cons pe_int (pa_cons pe_int pa_nil))))) pa_nil)))))
      (pss_cons (ps_for PassesOwn.never rfl (pi_range1 rfl T.fr_range (pa_cons (pe_callB call_len_seq (by rfl) T.fr_len PySem.boot_len (pa_cons (pv 1) pa_nil)) pa_nil)) (pg_name (i := 5) nd rfl (Or.inl rfl))
        (pss_one (ps_for PassesOwn.never rfl (pi_range1 rfl T.fr_range (pa_cons (pe_callB call_len_seq (by rfl) T.fr_len PySem.boot_len (pa_cons (pv 1) pa_nil)) pa_nil)) (pg_name (i := 6) nd rfl (Or.inl rfl))
          (pss_cons (ps_set (i := 7) nd rfl (Or.inl rfl) (pe_mcal cE T.cls_Threes hr2 (pv 0) (pa_cons (pe_tup (pa_cons (pv 5) (pa_cons (pv 6) pa_nil))) pa_nil)))
          (pss_one (ps_if (PW.pt (pw_and (pt_cmpR op_ne (pv 5) (pv 6) (nomark _)) (pw_and1 (pt_cmpR op_gt (pe_callB call_len_seq (by rfl) T.fr_len PySem.boot_len (pa_cons (pv 7) pa_nil)) pe_int (nomark _)))))
            (pss_cons (ps_expr (pe_bm PySem.F.plainAttrs_list PySem.F.slot_list_append PySem.F.type_list_append mt_append (pe_fld (pv 0) rfl) (pa_cons (pe_tup (pa_cons (pv 5) (pa_cons (pv 6) pa_nil))) pa_nil)))
            (pss_one (ps_expr (pe_bm PySem.F.plainAttrs_list PySem.F.slot_list_append PySem.F.type_list_append mt_append (pv 2) (pa_cons (pe_tup (StX.pa_star (pv 7) (pa_cons (pe_ix ix_tup (pe_ix ix_tup (pv 1) (pv 5) (fun _ _ => rfl)) (pv 6) (fun _ _ => rfl)) pa_nil))) pa_nil))))) pss_nil))))))
      (pss_cons (ps_set (i := 8) nd rfl (Or.inl rfl) (pe_lst (pa_cons pe_int (StX.pa_star (pe_lc (own := [("ring", 4)]) (g := gName 4) (tt := tYes) (te := tIf (tB (tCall spUp [] E0 (tCons (tVar 4) tNil))) (tC (.int 1)) (tUn (rU fun i => .int (-i)) (tC (.int 1)))) rfl nd (pi_list (pe_fld (pv 0) rfl)) (blkOk_by (N := nTh) (sc := defScope sTh) (by decide +kernel)) (fun _ _ _ _ _ => pg_name (i := 4) nd rfl (Or.inl rfl)) (fun _ _ _ _ _ => pts_nil)
          (fun _ _ _ _ _ => pe_ifExp (pt_val (pe_cal (cal_up T) hr1 rfl (pa_cons (pv 4) pa_nil))) pe_int (pe_un un_neg pe_int))) pa_nil))))
      (pss_one (ps_fld (pv 0) (pe_ical cT hr rfl (pa_cons (pe_callB call_len_seq (by rfl) T.fr_len PySem.boot_len (pa_cons (pv 8) pa_nil)) (pa_cons (pv 2) (pa_cons (pe_lst pa_nil) (pa_cons (pv 8) pa_nil))))) rfl)))))))), ?_⟩
    obtain ⟨L, hLdef⟩ : ∃ L, L = ringsGo g.length 2 := ⟨_, rfl⟩
    have hts : triAll g = triRings 0 L ++ (List.range g.length).flatMap fun p => (List.range g.length).flatMap (stepF3 L g p) := by rw [hLdef, ← triSteps_eq]; rfl
    unfold thOk at hok
    rw [← hLdef] at hok hc
    simp only [Bool.and_eq_true, decide_eq_true_eq, List.all_eq_true] at hok
    obtain ⟨⟨⟨⟨⟨h10, hsq⟩, hrl⟩, hup⟩, htl⟩, hta⟩ := hok
    have hL50 : L.length ≤ 50 := by rw [hLdef]; exact hrl 2 (by decide)
    obtain ⟨ras, hga, hras, hget⟩ := hg.row
    refine ⟨_, rfl, ga, _, rfl, .inr (SqT.of hga), g.length, 2, by rw [List.length_map, hras]; rfl, by omega, by omega, fun s hs => Nat.le_trans (hrl s (List.mem_range.mpr (by omega))) (by omega), fun lr rs H1 e1 nlr hlr hrs => ?_⟩
    rw [← hLdef] at hrs
    have lrs : rs.length = L.length := paired_len hrs
    refine ⟨_, rfl, p, _, dx, _, rfl, e1 _ _ hp, T.cls_Threes, T.na_Threes_rings, (by show 0 < 1000; decide), ?_⟩
    generalize hu1 : upd H1 p _ = H2
    obtain ⟨h2, c2⟩ := upd_eq hu1
    have nlrp : lr ≠ p := ne_of hlr (e1 _ _ hp) (by intro z; cases z)
    refine ⟨by decide, fun ls hls => ?_⟩
    generalize hu2 : upd H2 ls _ = H3
    obtain ⟨h3, c3⟩ := upd_eq hu2
    have h3p : H3 p = _ := (c3 p (ne_of_none h2 hls)).trans h2
    refine ⟨_, rfl, p, _, dx, _, rfl, h3p, T.cls_Threes, T.na_Threes_steps, (by show 1 < 1000; decide), ?_⟩
    generalize hu3 : upd H3 p _ = H4
    obtain ⟨h4, c4⟩ := upd_eq hu3
    replace h4 : H4 p = some (.ins (cTh K) dx (thF lr ls)) := h4
    have nlsp : ls ≠ p := (ne_of_none h2 hls).symm
    refine ⟨by decide, fun lt hlt => ?_⟩
    generalize hu4 : upd H4 lt _ = H5
    obtain ⟨h5, c5⟩ := upd_eq hu4
    have nltp : lt ≠ p := (ne_of_none h4 hlt).symm
    have h4ls : H4 ls = some (.lst []) := (c4 ls nlsp).trans h3
    have nltls : lt ≠ ls := (ne_of_none h4ls hlt).symm
    -- what was there stays
    have f4 : Frm (fun q => q = p) H H4 := (((Ext.frm (S := fun q => q = p) e1).chg (.inl rfl) c2).chg (.inr (by
      cases e : H ls with
      | none => rfl
      | some o =>
        have := (c2 ls nlsp).symm.trans hls
        rw [e1 _ _ e] at this
        cases this)) c3).chg (.inl rfl) c4
    have old5 : ∀ q o, q ≠ p → H q = some o → H5 q = some o := fun q o n h => (c5 q (ne_of_none (f4 q o h n) hlt)).trans (f4 q o h n)
    have to5 : ∀ q o, q ≠ p → H1 q = some o → H5 q = some o := fun q o n h => by
      have a := (c2 q n).trans h
      have b := (c3 q (ne_of_none a hls)).trans a
      have c := (c4 q n).trans b
      exact (c5 q (ne_of_none c hlt)).trans c
    have np : ∀ {q : Addr} {xs : List V}, H q = some (.tup xs) → q ≠ p := fun h => ne_of h hp (by intro z; cases z)
    have hga5 : H5 ga = some (.tup (ras.map V.ref)) := old5 _ _ (np hga) hga
    have hget5 : ∀ (i : Nat) (r : Addr), ras[i]? = some r → ∃ row, g[i]? = some row ∧ H5 r = some (.tup (row.map V.int)) := fun i r hr => let ⟨row, a, b⟩ := hget i r hr; ⟨row, a, old5 _ _ (np b) b⟩
    have hlr5 : H5 lr = some (.lst (rs.map V.ref)) := to5 _ _ nlrp hlr
    have hrs5 : RingsAt H5 rs L := pairedMono (fun a r h => to5 _ _ (ne_of h (e1 _ _ hp) (by intro z; cases z)) h) hrs
    have h5p : H5 p = some (.ins (cTh K) dx (thF lr ls)) := (c5 p nltp.symm).trans h4
    have h5ls : H5 ls = some (.lst []) := (c5 ls nltls.symm).trans h4ls
    have nltlr : lt ≠ lr := fun e => by
      have a := (c4 lr nlrp).trans ((c3 lr (ne_of_none ((c2 lr nlrp).trans hlr) hls)).trans ((c2 lr nlrp).trans hlr))
      rw [← e, hlt] at a
      cases a
    have nlslr : ls ≠ lr := fun e => by
      have a := (c2 lr nlrp).trans hlr
      rw [← e, hls] at a
      cases a
    let S : Addr → Prop := fun q => q = lt ∨ q = ls
    have hS : ∀ {q : Addr} {o : HO}, H5 q = some o → (∀ xs, o ≠ .lst xs) → ¬ S q := fun {q o} h n s => by
      rcases s with s | s
      · rw [s, h5] at h
        cases h
        exact n _ rfl
      · rw [s, h5ls] at h
        cases h
        exact n _ rfl
    have nSlr : ¬ S lr := fun s => by
      rcases s with s | s
      · exact nltlr s.symm
      · exact nlslr s.symm
    have nSp : ¬ S p := hS h5p (by intro _ z; cases z)
    refine ⟨_, rfl, p, _, dx, _, _, rfl, h5p, T.cls_Threes, T.na_Threes_rings, rfl, lr, _, rfl, SqL.of hlr5, ?_⟩
    refine for_it (walk_enum (xs := rs.map V.ref)) (fun i σ H' => ∃ z3 z4 tps ts, σ = [some (.ref p), some (.ref ga), some (.ref lt), z3, z4, none, none, none, none] ∧ Frm S H5 H' ∧ H' lt = some (.lst (tps.map V.ref)) ∧ H' ls = some (.lst []) ∧ TrisAt H' tps ts ∧ ts ++ triRings i (L.drop i) = triRings 0 L ∧ tps.length ≤ i)
      ⟨none, none, [], [], rfl, fun _ _ h _ => h, h5, h5ls, .nil, rfl, by simp⟩ (fun i σ H' _ ⟨_, _, _, _, _, e, _⟩ => SqL.of (e _ _ hlr5 nSlr)) ?_ ?_
    · rintro i x σ H6 H7 hi ⟨z3, z4, tps, ts, eσ, f6, h6, h6s, t6, g6, l6⟩ ⟨TT, x1, y1, ex, hT, rfl, ei, ey⟩
      subst eσ
      subst ex
      injection ei with ei
      subst ei
      obtain ⟨ra, hra, rfl⟩ := map_get ey
      obtain ⟨r, hr0⟩ := get_of_lt (l := L) (i := i) (by rw [← lrs]; exact (List.getElem?_eq_some_iff.mp hra).1)
      have hR : H5 ra = some (.tup (rV r)) := paired_get hrs5 hra hr0
      have hupr := hup r (List.mem_of_getElem? hr0)
      have hi50 : i < L.length := (List.getElem?_eq_some_iff.mp hr0).1
      rw [drop_cons hr0] at g6
      generalize hu6 : upd H6 TT (.tup [.int (i : Nat), .ref ra]) = H7
      obtain ⟨h7, c7⟩ := upd_eq hu6
      have e67 : Ext H6 H7 := Ext.refl.chg hT c7
      refine ⟨TT, _, rfl, SqT.of h7, rfl, _, _, rfl, _, _, rfl, rfl, ?_⟩
      refine ⟨_, rfl, .inl ⟨rfl, _, SqL.of (e67 _ _ h6)⟩, ?_⟩
      refine ⟨_, rfl, ra, r, rfl, e67 _ _ (f6 _ _ hR (hS hR (by intro _ z; cases z))), hupr, fun H8 e8 => ?_⟩
      have e68 := e67.trans e8
      have fin : ∀ (t : Tri) (tp : Addr), ts ++ t :: triRings (i + 1) (L.drop (i + 1)) = triRings 0 L → H8 tp = none → ∀ H9 H10, H9 tp = some (.tup [nV t.1, nV t.2.1, .int t.2.2]) → Chg tp H8 H9 → H10 lt = some (.lst (tps.map V.ref ++ [.ref tp])) → Chg lt H9 H10 →
          ∃ z3' z4' tps' ts', ([some (V.ref p), some (V.ref ga), some (V.ref lt), some (V.int (i : Nat)), some (V.ref ra), none, none, none, none] : L2.St) = [some (V.ref p), some (V.ref ga), some (V.ref lt), z3', z4', none, none, none, none] ∧ Frm S H5 H10 ∧ H10 lt = some (.lst (tps'.map V.ref)) ∧ H10 ls = some (.lst []) ∧ TrisAt H10 tps' ts' ∧ ts' ++ triRings (i + 1) (L.drop (i + 1)) = triRings 0 L ∧ tps'.length ≤ i + 1 := by
        intro t tp et ntp H9 H10 h9 c9 h10 c10
        have e9 : Ext H6 H9 := e68.chg (e68.nil ntp) c9
        refine ⟨_, _, tps ++ [tp], ts ++ [t], rfl, (f6.trans e9.frm).chg (.inl (.inl rfl)) c10, by rw [h10]; simp, (c10 ls nltls.symm).trans (e9 _ _ h6s), ?_, by simpa using et, by simp; omega⟩
        have a10 : H10 tp = some (.tup [nV t.1, nV t.2.1, .int t.2.2]) := (c10 tp (ne_of h9 (e9 _ _ h6) (by intro z; cases z))).trans h9
        have t10 : TrisAt H10 tps ts := pairedMono (fun a b k => (c10 a (ne_of k h6 (by intro z; cases z))).trans (e9 _ _ k)) t6
        exact paired_snoc (F := fun p (t : Tri) => H10 p = some (.tup [nV t.1, nV t.2.1, .int t.2.2])) a10 t10
      have lenok : (tps.map V.ref).length < sizeLine := by
        rw [List.length_map]
        show _ < 16777216
        omega
      cases hb : isUp r with
      | true =>
        have g7 : ts ++ (0, i + 1, 0) :: triRings (i + 1) (L.drop (i + 1)) = triRings 0 L := by
          rw [← g6]
          simp only [triRings, hb, if_true]
        refine ⟨true, rfl, iteT ⟨_, rfl, _, _, rfl, rfl, (by show 3 ≤ 16777216; decide), fun tp ntp => ?_⟩⟩
        generalize hu9 : upd H8 tp _ = H9
        obtain ⟨h9, c9⟩ := upd_eq hu9
        have h9lt := (c9 lt (ne_of_none (e68 _ _ h6) ntp)).trans (e68 _ _ h6)
        refine ⟨lt, _, _, rfl, rfl, h9lt, lenok, ?_⟩
        exact fin (0, i + 1, 0) tp g7 ntp H9 _ h9 c9 upd_same chg_upd
      | false =>
        have g7 : ts ++ (i + 1, 0, 0) :: triRings (i + 1) (L.drop (i + 1)) = triRings 0 L := by
          rw [← g6]
          simp [triRings, hb]
        refine ⟨false, rfl, iteF ⟨_, rfl, _, _, rfl, rfl, (by show 3 ≤ 16777216; decide), fun tp ntp => ?_⟩⟩
        generalize hu9 : upd H8 tp _ = H9
        obtain ⟨h9, c9⟩ := upd_eq hu9
        have h9lt := (c9 lt (ne_of_none (e68 _ _ h6) ntp)).trans (e68 _ _ h6)
        refine ⟨lt, _, _, rfl, rfl, h9lt, lenok, ?_⟩
        exact fin (i + 1, 0, 0) tp g7 ntp H9 _ h9 c9 upd_same chg_upd
    · rintro σ H6 ⟨z3, z4, tps, ts, eσ, f6, h6, h6s, t6, g6, l6⟩
      subst eσ
      rw [List.length_map, lrs, drop_len] at g6
      have ets : ts = triRings 0 L := by simpa [triRings] using g6
      rw [List.length_map, lrs] at l6
      have hga6 := f6 _ _ hga5 (hS hga5 (by intro _ z; cases z))
      refine ⟨_, rfl, ga, _, rfl, .inr (SqT.of hga6), _, rfl, by rw [List.length_map, hras]; omega, by rw [List.length_map, hras]; omega, ?_⟩
      rw [List.length_map, hras]
      subst ets
      have hp6 : ∀ {H' : Hp}, Frm S H5 H' → H' p = some (.ins (cTh K) dx (thF lr ls)) := fun f => f _ _ h5p nSp
      have hgaA : ∀ {H' : Hp}, Frm S H5 H' → H' ga = some (.tup (ras.map V.ref)) := fun f => f _ _ hga5 (hS hga5 (by intro _ z; cases z))
      have hlrA : ∀ {H' : Hp}, Frm S H5 H' → H' lr = some (.lst (rs.map V.ref)) := fun f => f _ _ hlr5 nSlr
      have hrsA : ∀ {H' : Hp}, Frm S H5 H' → RingsAt H' rs L := fun f => pairedMono (fun a r h => f _ _ h (hS h (by intro _ z; cases z))) hrs5
      have trisK : ∀ {H' H'' : Hp} {tps : List Addr} {ts : List Tri}, TrisAt H' tps ts → (∀ a vs, H' a = some (.tup vs) → H'' a = some (.tup vs)) → TrisAt H'' tps ts := fun t k => pairedMono (fun a b h => k _ _ h) t
      refine for_range (lo := 0) (n := g.length) (fun i σ H' => ∃ z5 z6 z7 tps xs, σ = [some (.ref p), some (.ref ga), some (.ref lt), z3, z4, z5, z6, z7, none] ∧ Frm S H5 H' ∧ H' lt = some (.lst (tps.map V.ref)) ∧ H' ls = some (.lst xs) ∧
        TrisAt H' tps (triRings 0 L ++ (List.range i).flatMap fun p => (List.range g.length).flatMap (stepF3 L g p)) ∧ tps.length ≤ 50 + 10 * i ∧ xs.length ≤ 10 * i) ⟨none, none, none, tps, [], rfl, f6, h6, h6s, by simpa using t6, by omega, by simp⟩ ?_ ?_
      · rintro i σ H7 hi ⟨z5, z6, z7, tps, xs, eσ, f7, h7, h7s, t7, l7, x7⟩
        subst eσ
        rw [Int.zero_add]
        refine ⟨_, rfl, ga, _, rfl, .inr (SqT.of (hgaA f7)), _, rfl, by rw [List.length_map, hras]; omega, by rw [List.length_map, hras]; omega, ?_⟩
        rw [List.length_map, hras]
        refine for_range (lo := 0) (n := g.length) (fun j σ H' => ∃ z6 z7 tps xs, σ = [some (.ref p), some (.ref ga), some (.ref lt), z3, z4, some (nV i), z6, z7, none] ∧ Frm S H5 H' ∧ H' lt = some (.lst (tps.map V.ref)) ∧ H' ls = some (.lst xs) ∧
          TrisAt H' tps ((triRings 0 L ++ (List.range i).flatMap fun p => (List.range g.length).flatMap (stepF3 L g p)) ++ (List.range j).flatMap (stepF3 L g i)) ∧ tps.length ≤ 50 + 10 * i + j ∧ xs.length ≤ 10 * i + j) ⟨z6, z7, tps, xs, rfl, f7, h7, h7s, by simpa using t7, by omega, by omega⟩ ?_ ?_
        · rintro j σ H8 hj ⟨z6, z7, tps, xs, eσ, f8, h8, h8s, t8, l8, x8⟩
          subst eσ
          rw [Int.zero_add]
          have stepE : (List.range (j + 1)).flatMap (stepF3 L g i) = (List.range j).flatMap (stepF3 L g i) ++ stepF3 L g i j := by rw [List.range_succ, List.flatMap_append]; simp
          refine ⟨_, rfl, p, dx, _, rfl, hp6 f8, rfl, ?_⟩
          refine ⟨_, rfl, _, rfl, (by show 2 ≤ 16777216; decide), fun st nst => ?_⟩
          generalize hu9 : upd H8 st _ = H9
          obtain ⟨h9, c9⟩ := upd_eq hu9
          have e9 : Ext H8 H9 := Ext.refl.chg nst c9
          have f9 : Frm S H5 H9 := f8.trans e9.frm
          refine ⟨p, dx, st, lr, ls, rs, L, (i, j), rfl, hp6 f9, hlrA f9, hrsA f9, h9, hup, by omega, fun e H10 e10 ne h10 => ?_⟩
          have e810 : Ext H8 H10 := e9.trans e10
          have f10 : Frm S H5 H10 := f9.trans e10.frm
          have nil_ : stepF3 L g i j = [] → ∃ z6' z7' tps' xs', ([some (V.ref p), some (V.ref ga), some (V.ref lt), z3, z4, some (nV i), some (nV j), some (V.ref e), none] : L2.St) = [some (V.ref p), some (V.ref ga), some (V.ref lt), z3, z4, some (nV i), z6', z7', none] ∧ Frm S H5 H10 ∧ H10 lt = some (.lst (tps'.map V.ref)) ∧ H10 ls = some (.lst xs') ∧
              TrisAt H10 tps' ((triRings 0 L ++ (List.range i).flatMap fun p => (List.range g.length).flatMap (stepF3 L g p)) ++ (List.range (j + 1)).flatMap (stepF3 L g i)) ∧ tps'.length ≤ 50 + 10 * i + (j + 1) ∧ xs'.length ≤ 10 * i + (j + 1) := by
            intro h0
            refine ⟨_, _, tps, xs, rfl, f10, e810 _ _ h8, e810 _ _ h8s, ?_, by omega, by omega⟩
            rw [stepE, h0, List.append_nil]
            exact trisK t8 fun a vs h => e810 _ _ h
          refine ⟨_, rfl, _, rfl, rfl, _, rfl, ?_⟩
          by_cases hij : i = j
          · subst hij
            refine iteNS rfl (iteF (nil_ ?_))
            unfold stepF3
            simp
          · rw [show decide (nV i = nV j) = false from decide_eq_false (fun c => hij (by injection c with c; omega))]
            refine iteT ?_
            refine ⟨_, rfl, e, _, rfl, .inl (SqL.of h10), _, _, rfl, rfl, _, rfl, ?_⟩
            by_cases he : endsGo (i, j) 0 L (0, 0) = (0, 0)
            · have : endsV (endsGo (i, j) 0 L (0, 0)) = [] := if_pos he
              rw [this]
              refine iteN (by simp) (nil_ ?_)
              unfold stepF3
              simp [he]
            · have ev : endsV (endsGo (i, j) 0 L (0, 0)) = [nV (endsGo (i, j) 0 L (0, 0)).1, nV (endsGo (i, j) 0 L (0, 0)).2] := if_neg he
              rw [ev] at h10
              rw [ev]
              refine iteD (by simp) ?_
              obtain ⟨r, hr0⟩ := get_of_lt (l := ras) (i := i) (by rw [hras]; exact hi)
              obtain ⟨row, hrow, hRow⟩ := hget5 i r hr0
              obtain ⟨y, hy⟩ := get_of_lt (l := row) (i := j) (by rw [hsq row (List.mem_of_getElem? hrow)]; exact hj)
              have hst3 : stepF3 L g i j = [((endsGo (i, j) 0 L (0, 0)).1, (endsGo (i, j) 0 L (0, 0)).2, y)] := by
                unfold stepF3
                rw [if_pos ⟨hij, he⟩]
                simp [cell, hrow, hy]
              refine ⟨_, rfl, p, _, dx, _, _, rfl, hp6 f10, T.cls_Threes, T.na_Threes_steps, rfl, .inl ⟨rfl, _, SqL.of (e810 _ _ h8s)⟩, ?_⟩
              refine ⟨_, rfl, _, rfl, (by show 2 ≤ 16777216; decide), fun s2 ns2 => ?_⟩
              generalize hu11 : upd H10 s2 _ = H11
              obtain ⟨h11, c11⟩ := upd_eq hu11
              have e11 : Ext H10 H11 := Ext.refl.chg ns2 c11
              have h11s := (e810.trans e11) _ _ h8s
              refine ⟨ls, _, _, rfl, rfl, h11s, Nat.lt_of_le_of_lt x8 (by show _ < 16777216; omega), ?_⟩
              generalize hu12 : upd H11 ls _ = H12
              obtain ⟨h12, c12⟩ := upd_eq hu12
              have f12 : Frm S H5 H12 := (f10.trans e11.frm).chg (.inl (.inr rfl)) c12
              have h12lt : H12 lt = some (.lst (tps.map V.ref)) := (c12 lt nltls).trans ((e810.trans e11) _ _ h8)
              have h12e : H12 e = some (.lst [nV (endsGo (i, j) 0 L (0, 0)).1, nV (endsGo (i, j) 0 L (0, 0)).2]) := (c12 e (fun c => by
                rw [c] at ne
                have := e9 _ _ h8s
                rw [ne] at this
                cases this)).trans (e11 _ _ h10)
              have hRow12 := f12 _ _ hRow (hS hRow (by intro _ z; cases z))
              refine ⟨_, rfl, .inl ⟨rfl, _, SqL.of h12lt⟩, ?_⟩
              refine ⟨_, rfl, e, _, rfl, .inr (SqL.of h12e), _, rfl, _, rfl, ga, _, _, .ref r, rfl, rfl, SqT.of (hgaA f12), atI_nat (by rw [List.getElem?_map, hr0]; rfl), _, rfl, r, _, _, .int y, rfl, rfl, SqT.of hRow12, atI_nat (by rw [List.getElem?_map, hy]; rfl), (by show 3 ≤ 16777216; decide), fun tp ntp => ?_⟩
              generalize hu13 : upd H12 tp _ = H13
              obtain ⟨h13, c13⟩ := upd_eq hu13
              have e13 : Ext H12 H13 := Ext.refl.chg ntp c13
              have h13lt := e13 _ _ h12lt
              refine ⟨lt, _, _, rfl, rfl, h13lt, by rw [List.length_map]; exact Nat.lt_of_le_of_lt l8 (by show _ < 16777216; omega), ?_⟩
              generalize hu14 : upd H13 lt _ = H14
              obtain ⟨h14, c14⟩ := upd_eq hu14
              have tk : ∀ a vs, H8 a = some (.tup vs) → H14 a = some (.tup vs) := fun a vs h => by
                have a1 := (e810.trans e11) _ _ h
                have a2 := (c12 a (ne_of a1 h11s (by intro z; cases z))).trans a1
                have a3 := e13 _ _ a2
                exact (c14 a (ne_of a3 h13lt (by intro z; cases z))).trans a3
              refine ⟨_, _, tps ++ [tp], xs ++ [.ref s2], rfl, (f12.trans e13.frm).chg (.inl (.inl rfl)) c14, by rw [h14]; simp, (c14 ls nltls.symm).trans (e13 _ _ h12), ?_, by simp; omega, by simp; omega⟩
              rw [stepE, hst3, ← List.append_assoc]
              have a14 : H14 tp = some (.tup [nV (endsGo (i, j) 0 L (0, 0)).1, nV (endsGo (i, j) 0 L (0, 0)).2, .int y]) := (c14 tp (ne_of h13 h13lt (by intro z; cases z))).trans h13
              exact paired_snoc (F := fun p (t : Tri) => H14 p = some (.tup [nV t.1, nV t.2.1, .int t.2.2])) a14 (trisK t8 tk)
        · rintro σ H8 ⟨z6, z7, tps, xs, eσ, f8, h8, h8s, t8, l8, x8⟩
          subst eσ
          refine ⟨_, _, _, tps, xs, rfl, f8, h8, h8s, ?_, by omega, by omega⟩
          rw [List.range_succ, List.flatMap_append, ← List.append_assoc]
          simpa using t8
      · rintro σ H7 ⟨z5, z6, z7, tps, xs, eσ, f7, h7, h7s, t7, l7, x7⟩
        subst eσ
        rw [← hts] at t7
        have h7p := hp6 f7
        refine ⟨_, rfl, p, _, dx, _, _, rfl, h7p, T.cls_Threes, T.na_Threes_rings, rfl, lr, rfl, ⟨_, SqL.of (hlrA f7)⟩, fun D hD => ?_⟩
        refine lc_list (K := K) (a := lr) (xs := rs.map V.ref) (fun i H' => Ext H7 H' ∧ H' D = some (.lst (((L.take i).map fun r => if isUp r then (1 : Int) else -1).map V.int))) ⟨Ext.one hD, upd_same⟩ (fun i H' _ ⟨e, _⟩ => SqL.of (e _ _ (hlrA f7))) ?_ ?_
        · intro i x H8 hx ⟨e8, h8⟩
          obtain ⟨ra, hra, rfl⟩ := map_get hx
          obtain ⟨r, hr0⟩ := get_of_lt (l := L) (i := i) (by rw [← lrs]; exact (List.getElem?_eq_some_iff.mp hra).1)
          have hR := e8 _ _ (paired_get (hrsA f7) hra hr0)
          have hi50 : i < L.length := (List.getElem?_eq_some_iff.mp hr0).1
          refine ⟨rfl, ?_⟩
          refine ⟨_, rfl, ra, r, rfl, hR, hup r (List.mem_of_getElem? hr0), fun H9 e9 => ?_⟩
          have lk : ((((L.take i).map fun r => if isUp r then (1 : Int) else -1).map V.int) : List V).length < sizeLine := by
            simp only [List.length_map, List.length_take]
            show _ < 16777216
            omega
          have ex : (L.take (i + 1)).map (fun r => if isUp r then (1 : Int) else -1) = (L.take i).map (fun r => if isUp r then (1 : Int) else -1) ++ [if isUp r then 1 else -1] := by
            rw [List.take_add_one, hr0]
            simp
          cases hb : isUp r with
          | true =>
            refine ⟨true, rfl, iteT ⟨_, e9 _ _ h8, lk, (e8.trans e9).put hD, ?_⟩⟩
            rw [upd_same, ex, hb]
            simp
          | false =>
            refine ⟨false, rfl, iteF ⟨_, rfl, _, e9 _ _ h8, lk, (e8.trans e9).put hD, ?_⟩⟩
            rw [upd_same, ex, hb]
            simp
        · intro H8 ⟨e8, h8⟩
          rw [List.length_map, lrs, List.take_length] at h8
          have hb8 : ∀ xs : List V, xs = ((L.map fun r => if isUp r then (1 : Int) else -1).map V.int) → V.int 0 :: (xs ++ []) = (balOf L).map V.int := fun xs e => by rw [e]; simp [balOf]
          have lb50 : ((balOf L).map V.int).length ≤ 51 := by simp [balOf]; omega
          refine ⟨D, _, rfl, .inr (SqL.of h8), ?_, fun lb nlb => ?_⟩
          · show (V.int 0 :: (((L.map fun r => if isUp r then (1 : Int) else -1).map V.int) ++ [])).length ≤ 16777216
            rw [hb8 _ rfl]
            omega
          rw [hb8 _ rfl]
          generalize hu9 : upd H8 lb _ = H9
          obtain ⟨h9, c9⟩ := upd_eq hu9
          have e9 : Ext H7 H9 := e8.chg (e8.nil nlb) c9
          refine ⟨_, rfl, lb, _, rfl, .inl (SqL.of h9), _, rfl, by decide, fun lz nlz => ?_⟩
          generalize hu10 : upd H9 lz _ = H10
          obtain ⟨h10, c10⟩ := upd_eq hu10
          have e10' : Ext H9 H10 := Ext.refl.chg nlz c10
          have e10 : Ext H7 H10 := e9.trans e10'
          refine ⟨_, rfl, fun x dxx nx ndx nex => spTr_mk (ts := triAll g) (bal := balOf L) (fl := fl) (fuel := fuel) nx ndx (e10 _ _ h7) (trisK t7 fun a vs h => e10 _ _ h) h10 (e10' _ _ h9) (by rw [List.length_map]) (by omega) htl (fun t ht => by
            rw [List.length_map]
            have := hta t ht
            exact ⟨this.1.1.1, this.1.1.2⟩) (by rw [List.length_map]; exact hc) fun H11 e11 td => ?_⟩
          have h11p := e11 _ _ (e10 _ _ h7p)
          refine ⟨_, rfl, p, _, dx, _, rfl, h11p, T.cls_Threes, T.na_Threes_transport, (by show 2 < 1000; decide), ?_⟩
          generalize hu12 : upd H11 p _ = H12
          obtain ⟨h12, c12⟩ := upd_eq hu12
          refine q H12 dx lr ls x (fun q' o nq ho => ?_) h12 ?_
          · have n1 : ¬ S q' := fun s => by
              rcases s with s | s
              · have a := f4 _ _ ho nq
                rw [s, hlt] at a
                cases a
              · have a := (c2 q' nq).trans (e1 _ _ ho)
                rw [s, hls] at a
                cases a
            exact (c12 q' nq).trans (e11 _ _ (e10 _ _ (f7 _ _ (old5 _ _ nq ho) n1)))
          · obtain ⟨dxt, r, ht1, ht2, ht3, ht4⟩ := td.ex
            have nxp : x ≠ p := (ne_of_none (e10 _ _ h7p) nx).symm
            refine ⟨dxt, r, (c12 x nxp).trans ht1, ht2, (c12 _ (ne_of ht3 h11p (by intro z; cases z))).trans ht3, ht4.mono fun a ha o ho => ?_⟩
            obtain ⟨i, hi⟩ := List.mem_iff_getElem?.mp ha
            obtain ⟨_, _, _, _, d, k⟩ := ht4.get hi
            have nap : a ≠ p := fun e => by
              rw [e, h11p] at k
              injection k with k
              injection k with _ _ k
              injection k with k _
              injection k with k _
              revert k
              decide
            exact (c12 a nap).trans ho
end
end K30

namespace K30
open PySem PySem.Spec PyProof.Rows L2
theorem sum_sub {α : Type} (f h : α → Int) : ∀ l : List α, (l.map fun k => f k - h k).sum = (l.map f).sum - (l.map h).sum
  | [] => rfl
  | x :: l => by
    simp only [List.map_cons, List.sum_cons]
    rw [sum_sub f h l]
    omega
theorem range_map_getD {α β : Type} (f : α → β) (d : α) : ∀ l : List α, (List.range l.length).map (fun k => f (l.getD k d)) = l.map f := by
  intro l
  apply List.ext_getElem
  · simp
  · intro i h1 h2
    simp at h1
    simp [h1]
theorem outG_eq (g : Grid) : outG g = sumG g - diagG g := by
  unfold outG sumG diagG
  rw [sum_sub, range_map_getD List.sum []]
section
variable {P : Program} {w : World} {K : PySem.W.Frag} {mg : Str → Option Value} {base : Heap}
/-! ### most, moves_of, least_moves -/
abbrev sMost : Stmt := inClass (topS 59) 2
theorem scMost : FnScope ["self"] ["self"] (defScope sMost) := ⟨rfl, rfl, rfl, by decide +kernel, rfl, by decide +kernel, by decide +kernel⟩
def spMost (K : PySem.W.Frag) : Sp := fun vs H Q _ => ∃ (p dx lr ls tp : Addr) (ts : List Tri) (fl : List Int), vs = [.ref p] ∧ H p = some (.ins (cTh K) dx (thF lr ls ++ [(("transport" : PySem.Str), V.ref tp)])) ∧ TrDone K H tp ts fl ∧ ts.length ≤ 100 ∧ (∀ t ∈ ts, -(2 ^ 64) < t.2.2 ∧ t.2.2 < 2 ^ 64) ∧ ∀ H', Ext H H' → Q (.int (spentM ts fl)) H'
theorem cal_most (T : Txt K mg) : MCal P w K mg base 2 (cTh K) "most" ["self"] (spMost K) := by
  refine T.met_most.cal (fun _ _ _ _ _ _ us hl => match us, hl with | [_], _ => rfl) fun f fd F => F.ok scMost (fun vs H Q E h => ?_) fun cdv A outer s H vs Q E hr h => ?_
  · obtain ⟨p, dx, lr, ls, tp, ts, fl, rfl, _⟩ := h
    rfl
  · obtain ⟨p, dx, lr, ls, tp, ts, fl, rfl, hp, td, hl, hb, q⟩ := h
    refine ⟨_, PSs.nox (pss_one (ps_ret (pe_mcal0 (cal_spent T) T.cls_Transport hr (pe_fld (pv 0) rfl)))), ?_⟩
    obtain ⟨dxt, r, ht1, _⟩ := td.ex
    exact ⟨_, rfl, p, _, dx, _, _, rfl, hp, T.cls_Threes, T.na_Threes_transport, rfl, tp, dxt, _, rfl, ht1, rfl, tp, ts, fl, rfl, td, hl, hb, q⟩
theorem scMv : FnScope ["yard"] ["yard"] (defScope (topS 60)) := ⟨rfl, rfl, rfl, by decide +kernel, rfl, by decide +kernel, by decide +kernel⟩
def spMv (K : PySem.W.Frag) : Sp := fun vs H Q _ => ∃ (p ka ga : Addr) (g : Grid) (k : Int), vs = [.ref p] ∧ YardAt K H p ka ga ∧ GridT H ga g ∧ thOk g = true ∧ leastM g = some k ∧ ∀ H', Ext H H' → Q (.int k) H'
theorem leastM_some {g : Grid} {k : Int} (h : leastM g = some k) : ∃ fl, carryGo (balOf (ringsGo g.length 2)).length (triAll g) 20 (List.replicate (triAll g).length 0, balOf (ringsGo g.length 2)) = some fl ∧ k = (outG g - spentM (triAll g) fl) / 2 := by
  unfold leastM threesM at h
  simp only [Option.map_eq_some_iff] at h
  obtain ⟨sp, ⟨fl, h1, h2⟩, h3⟩ := h
  refine ⟨fl, h1, ?_⟩
  rw [← h3, ← h2]
  rfl
theorem spTh_mk {H : Hp} {x dx ga : Addr} {g : Grid} {fl : List Int} {fuel : Nat} {Q : Hp → Prop} {E : XK} (nx : H x = none) (ndx : H dx = none) (hg : GridT H ga g) (hok : thOk g = true)
    (hc : carryGo (balOf (ringsGo g.length 2)).length (triAll g) fuel (List.replicate (triAll g).length 0, balOf (ringsGo g.length 2)) = some fl)
    (k : ∀ H' dx' lr ls tp, Ext H H' → H' x = some (.ins (cTh K) dx' (thF lr ls ++ [(("transport" : PySem.Str), V.ref tp)])) → TrDone K H' tp (triAll g) fl → Q H') :
    spTh K [.ref x, .ref ga] (upd (upd H dx (.own x)) x (.ins (cTh K) dx [])) (fun v H2 => v = .non ∧ Q H2) E := by
  have e : Ext H (upd (upd H dx (.own x)) x (.ins (cTh K) dx [])) := (Ext.one ndx).put nx
  exact ⟨x, dx, ga, g, fl, fuel, rfl, upd_same, hg.ext e, hok, hc, fun H' dx' lr ls tp fr h d => ⟨rfl, k H' dx' lr ls tp (fun q o ho => fr q o (ne_of_none ho nx) (e _ _ ho)) h d⟩⟩
theorem cal_mv (T : Txt K mg) : Cal P w K mg base 9 "moves_of" ["yard"] (spMv K) := by
  refine T.def_moves_of.cal (fun _ _ _ _ _ _ us hl => match us, hl with | [_], _ => rfl) fun f fd F => F.ok scMv (fun vs H Q E h => ?_) fun cdv A outer s H vs Q E hr h => ?_
  · obtain ⟨p, ka, ga, g, k, rfl, _⟩ := h
    rfl
  · obtain ⟨p, ka, ga, g, k, rfl, hy, hg, hok, hk, q⟩ := h
    have cTh' : ICal P w K mg base 7 "Threes" (cTh K) ["self", "rows"] (spTh K) := cal_th T
    refine ⟨_, PSs.nox (pss_one (ps_ret (pe_op op_fdiv (pe_op op_sub (pe_mcalS0 (cal_out T) T.scls (hr.mono (by decide)) (pv 0)) (pe_mcal0 (cal_most T) T.cls_Threes (hr.mono (by decide)) (pe_ical cTh' hr rfl (pa_cons (SlX.pe_sl (pv 0)) pa_nil)))) pe_int))), ?_⟩
    obtain ⟨fl, hc, ek⟩ := leastM_some hk
    have hok' := hok
    unfold thOk at hok'
    simp only [Bool.and_eq_true, decide_eq_true_eq, List.all_eq_true] at hok'
    obtain ⟨⟨⟨⟨⟨h10, hsq⟩, hrl⟩, hup⟩, htl⟩, hta⟩ := hok'
    obtain ⟨dx0, hs0⟩ := hy.slt
    refine ⟨_, rfl, p, dx0, _, rfl, hs0, p, ka, ga, g, rfl, hy, hg, hsq, by omega, fun H1 e1 => ?_⟩
    obtain ⟨dx1, hs1⟩ := (hy.ext e1).slt
    refine ⟨_, rfl, p, _, dx1, _, _, _, _, rfl, hs1, T.scls, T.slot1, rfl, fun x dx nx ndx nex => spTh_mk nx ndx (hg.ext e1) hok hc fun H2 dx' lr ls tp e2 h2 td => ?_⟩
    refine ⟨x, dx', _, rfl, h2, rfl, x, dx', lr, ls, tp, triAll g, fl, rfl, h2, td, htl, fun t ht => ⟨(hta t ht).1.2, (hta t ht).2⟩, fun H3 e3 => ?_⟩
    refine ⟨_, _, rfl, rfl, _, _, rfl, rfl, ⟨by decide, by decide⟩, ?_⟩
    show Q (.int ((sumG g - diagG g - spentM (triAll g) fl) / 2)) H3
    rw [← outG_eq, ← ek]
    exact q H3 ((e1.trans e2).trans e3)
theorem scLm : FnScope ["yard"] ["yard"] (defScope (topS 61)) := ⟨rfl, rfl, rfl, by decide +kernel, rfl, by decide +kernel, by decide +kernel⟩
theorem fn_lm (T : Txt K mg) (f : Addr) (fd : FuncData) (F : FnP K "least_moves" "least_moves" (topS 61) f fd) : FnOk P w K mg base CX0 10 f fd ["yard"] (spMv K) := by
  refine F.ok scLm (fun vs H Q E h => ?_) fun cdv A outer s H vs Q E hr h => ?_
  · obtain ⟨p, ka, ga, g, k, rfl, _⟩ := h
    rfl
  · obtain ⟨p, ka, ga, g, k, rfl, hy, hg, hok, hk, q⟩ := h
    refine ⟨_, PSs.nox (pss_cons (ps_expr (pe_cal (cal_chk T) (hr.mono (by decide)) rfl (pa_cons (pv 0) pa_nil))) (pss_one (ps_ret (pe_cal (cal_mv T) hr rfl (pa_cons (pv 0) pa_nil))))), ?_⟩
    exact ⟨_, rfl, p, ka, ga, rfl, hy, _, rfl, p, ka, ga, g, k, rfl, hy, hg, hok, hk, q⟩
theorem cal_lm (T : Txt K mg) : Cal P w K mg base 10 "least_moves" ["yard"] (spMv K) :=
  T.def_least_moves.cal (fun _ _ _ _ _ _ us hl => match us, hl with | [_], _ => rfl) (fn_lm T)
def KCal (P : Program) (w : World) (K : PySem.W.Frag) (mg : Str → Option Value) (base : Heap) (k : Nat) (x y : Str) (sp : Sp) : Prop :=
  ∃ f fd, FnOk P w K mg base CX0 k f fd [y] sp ∧ KBinds K fd [y] [y] (fun us ws => us ++ ws) (fun vs zs => vs ++ zs) ∧ mg x = some (.ref f) ∧ PySem.W.keepIn K (.ref f) = true
theorem kcal_lm (T : Txt K mg) : KCal P w K mg base 10 "least_moves" "yard" (spMv K) := by
  obtain ⟨f, fd, F, m⟩ := T.def_least_moves
  refine ⟨f, fd, fn_lm T f fd F, ⟨fun s us ws _ hl => ?_, fun r z => r.append z⟩, m, F.kp⟩
  obtain ⟨oc, od, dV, kV, doc, pm, an, cdv, ct, osl, rfl, lk, hcd, hD, hK⟩ := F.ex
  rcases hD with ⟨_, rfl⟩ | ⟨e, _⟩
  · match us, ws, hl with
    | [u], [], _ => exact .of_eq rfl
    | [], [u], _ => exact .of_eq rfl
  · exact absurd rfl e
end
end K30

namespace K30
open PySem PySem.Spec PyProof.Rows L2
theorem cut_mem {xs : List V} {lo hi : Option Int} {x : V} (h : x ∈ cutV xs lo hi) : x ∈ xs := List.mem_of_mem_drop (List.mem_of_mem_take h)
def WellOk (H : Hp) (w : Addr) : Prop := ∃ a b c : Int, H w = some (.lst [.int a, .int b, .int c]) ∧ 0 ≤ c
section
variable {P : Program} {w : World} {K : PySem.W.Frag} {mg : Str → Option Value} {base : Heap}
/-! ### _law_well -/
abbrev nWell : List Str := ["_law_script", "_law_spot", "_law_state", "_law_cell", "_law_own"]
theorem scWell : FnScope nWell ["_law_script", "_law_spot"] (defScope (topS 63)) := ⟨rfl, rfl, rfl, by decide +kernel, rfl, by decide +kernel, by decide +kernel⟩
def spWell (K : PySem.W.Frag) : Sp := fun vs H Q _ => ∃ (a : Addr) (ns : List Int) (sp : Nat), vs = [.ref a, nV sp] ∧ SqL K H a (ns.map V.int) ∧ ns.length ≤ 1000 ∧ sp ≤ 100 ∧ (∀ H', Ext H H' → SqL K H' a (ns.map V.int)) ∧ ∀ wl H', Ext H H' → H wl = none → WellOk H' wl → Q (.ref wl) H'
theorem cal_well (T : Txt K mg) : Cal P w K mg base 1 "_law_well" ["_law_script", "_law_spot"] (spWell K) := by
  refine T.def_law_well.cal (fun _ _ _ _ _ _ us hl => match us, hl with | [_, _], _ => rfl) fun f fd F => F.ok scWell (fun vs H Q E h => ?_) fun cdv A outer s H vs Q E hr h => ?_
  · obtain ⟨a, ns, sp, rfl, _⟩ := h
    rfl
  · obtain ⟨a, ns, sp, rfl, hs, hl, hsp, hk, q⟩ := h
    have nd := scWell.nd
    refine ⟨_, PSs.nox (pss_cons (ps_set (i := 2) nd rfl (Or.inl rfl) (pe_op op_add pe_int (pe_op op_mul pe_int (pv 1))))
      (pss_cons (ps_for PassesOwn.never rfl (pi_list (pe_op op_cat (pe_slice sl_list (pv 0) po_none (po_some pe_int)) (pe_slice sl_list (pv 0) (po_some (pv 1)) (po_some (pe_op op_add (pv 1) pe_int))))) (pg_name (i := 3) nd rfl (Or.inl rfl))
        (pss_one (ps_set (i := 2) nd rfl (Or.inl rfl) (pe_op op_mod (pe_callTy call_int1 (by rfl) T.fr_int (by decide +kernel) (pa_cons (pe_op op_add (pe_op op_add (pe_op op_mul (pv 2) pe_int) (pv 3)) pe_int) pa_nil)) pe_int))))
      (pss_cons (ps_set (i := 4) nd rfl (Or.inl rfl) (pe_ifExp (pt_cmpR op_lt (pv 1) (pe_callB call_len_seq (by rfl) T.fr_len PySem.boot_len (pa_cons (pv 0) pa_nil)) (nomark _)) (pe_ix ix_list (pv 0) (pv 1) (fun _ _ => rfl)) pe_int))
      (pss_one (ps_ret (pe_lst (pa_cons (pv 2) (pa_cons pe_int (pa_cons (pe_ifExp (pt_cmpR op_ge (pe_callB call_abs (by rfl) T.fr_abs (by decide +kernel) (pa_cons (pv 4) pa_nil)) (pe_op op_pow pe_int pe_int) (nomark _)) (pe_callB call_abs (by rfl) T.fr_abs (by decide +kernel) (pa_cons (pv 4) pa_nil)) pe_int) pa_nil))))))))), ?_⟩
    refine ⟨_, rfl, _, _, rfl, rfl, .inl (by decide), _, _, rfl, rfl, ?_⟩
    refine ⟨_, rfl, _, rfl, a, _, rfl, hs, fun p1 np1 => ?_⟩
    generalize hu1 : upd H p1 _ = H1
    obtain ⟨h1, c1⟩ := upd_eq hu1
    have e1 : Ext H H1 := Ext.refl.chg np1 c1
    refine ⟨_, rfl, _, rfl, _, rfl, _, rfl, _, _, rfl, rfl, _, rfl, a, _, rfl, hk H1 e1, fun p2 np2 => ?_⟩
    generalize hu2 : upd H1 p2 _ = H2
    obtain ⟨h2, c2⟩ := upd_eq hu2
    have e12 : Ext H1 H2 := Ext.refl.chg np2 c2
    refine ⟨p1, p2, _, _, rfl, rfl, e12 _ _ h1, h2, ?_, fun p3 np3 => ?_⟩
    · have a1 := cutV_length (ns.map V.int) none (some 4)
      have a2 := cutV_length (ns.map V.int) (some (sp : Int)) (some ((sp : Int) + 1))
      rw [List.length_map] at a1 a2
      show _ + _ ≤ 16777216
      omega
    generalize hu3 : upd H2 p3 _ = H3
    obtain ⟨h3, c3⟩ := upd_eq hu3
    have e3 : Ext H H3 := (e1.trans e12).chg ((e1.trans e12).nil np3) c3
    refine ⟨p3, rfl, ⟨_, SqL.of h3⟩, ?_⟩
    refine for_list (xs := cutV (ns.map V.int) none (some 4) ++ cutV (ns.map V.int) (some (sp : Int)) (some ((sp : Int) + 1))) (fun i σ H' => ∃ (st : Int) (z : Option V), σ = [some (.ref a), some (nV sp), some (.int st), z, none] ∧ H' = H3) ⟨_, none, rfl, rfl⟩ (fun i σ H' _ ⟨_, _, _, e⟩ => by rw [e]; exact SqL.of h3) ?_ ?_
    · rintro i x σ H' hx ⟨st, z, eσ, rfl⟩
      subst eσ
      have hm := List.mem_of_getElem? hx
      have hm2 : x ∈ ns.map V.int := by
        rcases List.mem_append.mp hm with h | h
        · exact cut_mem h
        · exact cut_mem h
      obtain ⟨y, _, rfl⟩ := List.mem_map.mp hm2
      exact ⟨_, rfl, _, _, rfl, rfl, .inr (by decide), _, rfl, _, _, rfl, rfl, _, _, rfl, rfl, .inl ⟨_, rfl, _, _, rfl, rfl, (by show (0 : Int) < 2147483579; decide), _, _, rfl, rfl⟩⟩
    · rintro σ H' ⟨st, z, eσ, rfl⟩
      subst eσ
      have hs3 := hk H' e3
      have fin : ∀ own : Int, (tSeq (tAsg (tC (.int own)) (gName 4)) (tRet (tLst (tCons (tVar 2) (tCons (tC (.int 0)) (tCons (tIf (tTest (tOp (rI0 fun i j => V.bl (decide (j ≤ i))) (tCB (fun xs H Q => ∃ i, xs = [.int i] ∧ Q (.int (if i < 0 then -i else i)) H) (tCons (tVar 4) tNil)) (tOp (rI CPow fun i j => .int (i ^ j.toNat)) (tC (.int 10)) (tC (.int 18))))) (tCB (fun xs H Q => ∃ i, xs = [.int i] ∧ Q (.int (if i < 0 then -i else i)) H) (tCons (tVar 4) tNil)) (tC (.int 0))) tNil)))))) { nx := fun x H' => Q V.non H', rt := Q } [some (.ref a), some (nV sp), some (.int st), z, none] H' := by
        intro own
        refine ⟨_, rfl, _, rfl, own, rfl, _, _, rfl, rfl, ⟨by decide, by decide, by decide⟩, _, _, rfl, rfl, _, rfl, ?_⟩
        have ok : ∀ (c : Int), 0 ≤ c → (([.int st, .int 0, .int c] : List V).length ≤ sizeLine) ∧ ∀ p, H' p = none → Q (.ref p) (upd H' p (.lst [.int st, .int 0, .int c])) := fun c hc => ⟨by show 3 ≤ 16777216; decide, fun p hp => q p _ (e3.new hp) (e3.nil hp) ⟨st, 0, c, upd_same, hc⟩⟩
        refine ite2 (fun _ => ⟨_, rfl, own, rfl, ok _ ?_⟩) (fun _ => ok 0 (by decide))
        split <;> omega
      refine ⟨_, rfl, _, rfl, a, _, rfl, .inl hs3, _, _, rfl, rfl, _, rfl, ?_⟩
      by_cases c : sp < ns.length
      · obtain ⟨y, hy⟩ := get_of_lt c
        refine iteD (by rw [List.length_map]; omega) ⟨_, rfl, _, rfl, a, _, _, .int y, rfl, rfl, hs3, atI_nat (by rw [List.getElem?_map, hy]; rfl), ?_⟩
        exact fin y
      · refine iteN (by rw [List.length_map]; omega) ?_
        exact fin 0
end
end K30

namespace K30
open PySem PySem.Spec PyProof.Rows L2
abbrev FW (wl : Addr) : Hp → Hp → Prop := Frm fun q => q = wl
section
variable {P : Program} {w : World} {K : PySem.W.Frag} {mg : Str → Option Value} {base : Heap}
/-! ### _law_draw -/
abbrev nDraw : List Str := ["_law_well_here", "_law_many", "_law_digit", "_law_seed"]
theorem scDraw : FnScope nDraw ["_law_well_here", "_law_many"] (defScope (topS 64)) := ⟨rfl, rfl, rfl, by decide +kernel, rfl, by decide +kernel, by decide +kernel⟩
def spDraw : Sp := fun vs H Q _ => ∃ (wl : Addr) (m : Nat), vs = [.ref wl, nV m] ∧ WellOk H wl ∧ 1 ≤ m ∧ m ≤ 1000 ∧ ∀ d H', d < m → FW wl H H' → WellOk H' wl → Q (nV d) H'
theorem cal_draw (T : Txt K mg) : Cal P w K mg base 1 "_law_draw" ["_law_well_here", "_law_many"] spDraw := by
  refine T.def_law_draw.cal (fun _ _ _ _ _ _ us hl => match us, hl with | [_, _], _ => rfl) fun f fd F => F.ok scDraw (fun vs H Q E h => ?_) fun cdv A outer s H vs Q E hr h => ?_
  · obtain ⟨wl, m, rfl, _⟩ := h
    rfl
  · obtain ⟨wl, m, rfl, ⟨a, b, c, hw, hc⟩, h1, h2, q⟩ := h
    have nd := scDraw.nd
    refine ⟨_, PSs.nox (pss_cons (ps_if (pt_cmpR op_gt (pe_ix ix_list (pv 0) pe_int (fun _ _ => rfl)) pe_int (nomark _))
        (pss_cons (ps_asg (pe_callB call_divmod (by rfl) T.fr_divmod (by decide +kernel) (pa_cons (pe_ix ix_list (pv 0) pe_int (fun _ _ => rfl)) (pa_cons (pv 1) pa_nil))) (pg_tup rfl (pgs_cons (pg_sub (pv 0) pe_int set_list) (pgs_cons (pg_name (i := 2) nd rfl (Or.inl rfl)) pgs_nil))))
        (pss_one (ps_ret (pv 2)))) pss_nil)
      (pss_cons (ps_asg (pe_op op_add (pe_ix ix_list (pv 0) pe_int (fun _ _ => rfl)) pe_int) (pg_sub (pv 0) pe_int set_list))
      (pss_cons (ps_set (i := 3) nd rfl (Or.inl rfl) (pe_callTy call_int1 (by rfl) T.fr_int (by decide +kernel) (pa_cons (pe_ix ix_list (pv 0) pe_int (fun _ _ => rfl)) pa_nil)))
      (pss_cons (ps_asg (pe_op op_mod (pe_callTy call_int1 (by rfl) T.fr_int (by decide +kernel) (pa_cons (pe_op op_add (pe_op op_add (pe_op op_mul (pv 3) pe_int) (pe_op op_mul (pe_ix ix_list (pv 0) pe_int (fun _ _ => rfl)) pe_int)) pe_int) pa_nil)) pe_int) (pg_sub (pv 0) pe_int set_list))
      (pss_one (ps_ret (pe_op op_mod (pe_callTy call_int1 (by rfl) T.fr_int (by decide +kernel) (pa_cons (pe_op op_fdiv (pe_ix ix_list (pv 0) pe_int (fun _ _ => rfl)) pe_int) pa_nil)) (pv 1)))))))), ?_⟩
    refine ⟨_, rfl, wl, _, _, .int c, rfl, rfl, SqL.of hw, atI_nat (j := 2) rfl, _, _, rfl, rfl, _, rfl, ?_⟩
    have dig : ∀ x : Int, ∃ d : Nat, x % (m : Int) = (d : Int) ∧ d < m := fun x => by
      have p1 := Int.emod_nonneg x (show (m : Int) ≠ 0 by omega)
      have p2 := Int.emod_lt_of_pos x (show (0 : Int) < m by omega)
      exact ⟨(x % (m : Int)).toNat, by omega, by omega⟩
    by_cases c0 : c > 0
    · refine iteD c0 ?_
      refine ⟨_, rfl, wl, _, _, .int c, rfl, rfl, SqL.of hw, atI_nat (j := 2) rfl, _, rfl, _, _, rfl, ⟨by omega, by omega⟩, fun p hp => ?_⟩
      generalize hu1 : upd H p _ = H1
      obtain ⟨k1, c1⟩ := upd_eq hu1
      have e1 : Ext H H1 := Ext.refl.chg hp c1
      refine ⟨p, _, rfl, SqT.of k1, rfl, _, _, rfl, _, rfl, wl, _, 2, 2, rfl, rfl, e1 _ _ hw, rfl, _, _, rfl, rfl, _, rfl, ?_⟩
      obtain ⟨d, hd, hdm⟩ := dig c
      rw [hd]
      refine q d _ hdm (Frm.put e1.frm rfl) ⟨a, b, c / m, upd_same, Int.ediv_nonneg hc (by omega)⟩
    · refine iteN c0 ?_
      refine ⟨_, rfl, wl, _, _, .int b, rfl, rfl, SqL.of hw, atI_nat (j := 1) rfl, _, _, rfl, rfl, _, rfl, wl, _, 1, 1, rfl, rfl, hw, rfl, ?_⟩
      generalize hu1 : upd H wl _ = H1
      obtain ⟨k1, c1⟩ := upd_eq hu1
      replace k1 : H1 wl = some (.lst [.int a, .int (b + 1), .int c]) := k1
      refine ⟨_, rfl, wl, _, _, .int a, rfl, rfl, SqL.of k1, atI_nat (j := 0) rfl, .inl ⟨_, rfl, ?_⟩⟩
      refine ⟨_, rfl, _, _, rfl, rfl, .inr (by decide), _, rfl, wl, _, _, .int (b + 1), rfl, rfl, SqL.of k1, atI_nat (j := 1) rfl, _, _, rfl, rfl, .inr (by decide), _, _, rfl, rfl, _, _, rfl, rfl, .inl ⟨_, rfl, _, _, rfl, rfl, (by show (0 : Int) < 2147483629; decide), ?_⟩⟩
      refine ⟨_, rfl, wl, _, 0, 0, rfl, rfl, k1, rfl, ?_⟩
      generalize hu2 : upd H1 wl _ = H2
      obtain ⟨k2, c2⟩ := upd_eq hu2
      refine ⟨_, rfl, wl, _, _, _, rfl, rfl, SqL.of k2, atI_nat (j := 0) rfl, _, _, rfl, rfl, ⟨by decide, by decide⟩, .inl ⟨_, rfl, _, rfl, _, _, rfl, rfl, (by show (0 : Int) < m; omega), ?_⟩⟩
      obtain ⟨d, hd, hdm⟩ := dig ((a * 46021 + (b + 1) * 56009 + 37) % 2147483629 / 2048)
      have : Q (nV d) H2 := q d _ hdm (Frm.chg (Frm.chg (fun _ _ h _ => h) (.inl rfl) c1) (.inl rfl) c2) ⟨_, _, c, k2, hc⟩
      rw [show nV d = .int ((a * 46021 + (b + 1) * 56009 + 37) % 2147483629 / 2048 % m) by rw [hd]] at this
      exact this
/-! ### _law_pick -/
theorem scPick : FnScope ["_law_well_here", "_law_choices"] ["_law_well_here", "_law_choices"] (defScope (topS 65)) := ⟨rfl, rfl, rfl, by decide +kernel, rfl, by decide +kernel, by decide +kernel⟩
def spPick : Sp := fun vs H Q _ => ∃ (wl c : Addr) (xs : List V), vs = [.ref wl, .ref c] ∧ WellOk H wl ∧ H c = some (.lst xs) ∧ c ≠ wl ∧ 1 ≤ xs.length ∧ xs.length ≤ 1000 ∧ ∀ (i : Nat) x H', xs[i]? = some x → FW wl H H' → WellOk H' wl → Q x H'
theorem cal_pick (T : Txt K mg) : Cal P w K mg base 2 "_law_pick" ["_law_well_here", "_law_choices"] spPick := by
  refine T.def_law_pick.cal (fun _ _ _ _ _ _ us hl => match us, hl with | [_, _], _ => rfl) fun f fd F => F.ok scPick (fun vs H Q E h => ?_) fun cdv A outer s H vs Q E hr h => ?_
  · obtain ⟨wl, c, xs, rfl, _⟩ := h
    rfl
  · obtain ⟨wl, c, xs, rfl, hw, hc, ncw, h1, h2, q⟩ := h
    refine ⟨_, PSs.nox (pss_one (ps_ret (pe_ix ix_list (pv 1) (pe_cal (cal_draw T) hr rfl (pa_cons (pv 0) (pa_cons (pe_callB call_len_seq (by rfl) T.fr_len PySem.boot_len (pa_cons (pv 1) pa_nil)) pa_nil))) (fun _ _ => rfl)))), ?_⟩
    refine ⟨_, rfl, _, rfl, _, rfl, c, _, rfl, .inl (SqL.of hc), wl, xs.length, rfl, hw, h1, h2, fun d H1 hd fr hw1 => ?_⟩
    obtain ⟨x, hx⟩ := get_of_lt hd
    exact ⟨c, _, _, x, rfl, rfl, SqL.of (fr _ _ hc ncw), atI_nat hx, q d x H1 hx fr hw1⟩
end
end K30

namespace K30
open PySem PySem.Spec PyProof.Rows L2
def lawRings (n : Nat) : List (List Nat) := (List.range (n - 1)).flatMap fun t => ringsGo n (t + 1)
theorem paired_app {α β : Type} {F : α → β → Prop} : ∀ {l l' : List α} {m m' : List β}, Paired F l m → Paired F l' m' → Paired F (l ++ l') (m ++ m')
  | _, _, _, _, .nil, h => h
  | _, _, _, _, .cons a r, h => .cons a (paired_app r h)
section
variable {P : Program} {w : World} {K : PySem.W.Frag} {mg : Str → Option Value} {base : Heap}
/-! ### _law_rings -/
abbrev nLr : List Str := ["_law_size", "_law_found", "_law_row", "_law_turn", "_law_later", "_law_ring", "_law_at"]
theorem scLr : FnScope nLr ["_law_size"] (defScope (topS 66)) := ⟨rfl, rfl, rfl, by decide +kernel, rfl, by decide +kernel, by decide +kernel⟩
def spLr : Sp := fun vs H Q _ => ∃ (n : Nat), vs = [nV n] ∧ 1 ≤ n ∧ n ≤ 10 ∧ (∀ s, s ≤ n → (ringsGo n s).length ≤ 1000) ∧ ∀ f rs H', Ext H H' → H f = none → H' f = some (.lst (rs.map V.ref)) → RingsAt H' rs (lawRings n) → Q (.ref f) H'
theorem cal_lr (T : Txt K mg) : Cal P w K mg base 1 "_law_rings" ["_law_size"] spLr := by
  refine T.def_law_rings.cal (fun _ _ _ _ _ _ us hl => match us, hl with | [_], _ => rfl) fun f fd F => F.ok scLr (fun vs H Q E h => ?_) fun cdv A outer s H vs Q E hr h => ?_
  · obtain ⟨n, rfl, _⟩ := h
    rfl
  · obtain ⟨n, rfl, hn1, hn, hsz, q⟩ := h
    have nd := scLr.nd
    refine ⟨_, PSs.nox (pss_cons (ps_par (i := 1) (j := 2) (by rfl) nd rfl rfl (by decide) rfl rfl (pa_cons (pe_lst pa_nil) (pa_cons (pe_lc (own := [("_law_at", 6)]) (g := gName 6) (tt := tYes) (te := tTup (tCons (tVar 6) tNil)) rfl nd (pi_range1 rfl T.fr_range (pa_cons (pv 0) pa_nil)) (blkOk_by (N := nLr) (sc := defScope (topS 66)) (by decide +kernel)) (fun _ _ _ _ _ => pg_name (i := 6) nd rfl (Or.inl rfl)) (fun _ _ _ _ _ => pts_nil) (fun _ _ _ _ _ => pe_tup (pa_cons (pv 6) pa_nil))) pa_nil)) (by rfl))
      (pss_cons (ps_for PassesOwn.never rfl (pi_range1 rfl T.fr_range (pa_cons (pe_op op_sub (pv 0) pe_int) pa_nil)) (pg_name (i := 3) nd rfl (Or.inl rfl))
        (pss_cons (ps_set (i := 4) nd rfl (Or.inl rfl) (pe_lst pa_nil))
        (pss_cons (ps_for PassesOwn.never rfl (pi_list (pv 2)) (pg_name (i := 5) nd rfl (Or.inr rfl))
          (pss_one (ps_set (i := 4) nd rfl (Or.inl rfl) (pe_op op_cat (pv 4) (pe_lc (own := [("_law_at", 6)]) (g := gName 6) (tt := tTest (tOp (rIn K true) (tVar 6) (tVar 5))) (te := tOp (rCatT K) (tVar 5) (tTup (tCons (tVar 6) tNil))) rfl nd (pi_range2 (by rfl) T.fr_range (pa_cons (pe_op op_add (pe_ix ix_tup (pv 5) pe_int (fun _ _ => rfl)) pe_int) (pa_cons (pv 0) pa_nil))) (blkOk_by (N := nLr) (sc := defScope (topS 66)) (by decide +kernel)) (fun _ _ _ _ _ => pg_name (i := 6) nd rfl (Or.inl rfl))
            (fun _ _ _ _ _ => pts_one (pt_cmpR op_notIn_seq (pv 6) (pv 5) rfl)) (fun _ _ _ _ _ => pe_op op_catT (pv 5) (pe_tup (pa_cons (pv 6) pa_nil))))))))
        (pss_one (ps_par (i := 1) (j := 2) (by rfl) nd rfl rfl (by decide) rfl rfl (pa_cons (pe_op op_cat (pv 1) (pv 4)) (pa_cons (pv 4) pa_nil)) (by rfl))))))
      (pss_one (ps_ret (pv 1))))), ?_⟩
    refine ⟨by decide, fun F0 hF0 => ?_⟩
    generalize hu0 : upd H F0 _ = H0
    obtain ⟨k0, c0⟩ := upd_eq hu0
    have e0 : Ext H H0 := Ext.refl.chg hF0 c0
    refine ⟨_, rfl, _, rfl, by omega, by omega, fun D hD => ?_⟩
    refine lc_range (lo := 0) (n := n) (fun i H' => Ext H0 H' ∧ ∃ rs, H' D = some (.lst (rs.map V.ref)) ∧ RingsAt H' rs ((List.range i).map fun a => [a])) ⟨Ext.one hD, [], upd_same, .nil⟩ ?_ ?_
    · intro i H1 hi ⟨e1, rs, h1, r1⟩
      rw [Int.zero_add]
      refine ⟨rfl, ?_⟩
      refine ⟨_, rfl, (by show 1 ≤ 16777216; decide), fun p hp => ⟨_, (upd_ne (ne_of_none h1 hp)).trans h1, ?_, (e1.new hp).put hD, rs ++ [p], ?_, ?_⟩⟩
      · have := paired_len r1
        simp at this
        rw [List.length_map, this]
        show _ < 16777216
        omega
      · rw [upd_same]
        simp
      · rw [List.range_succ, List.map_append]
        have npD : p ≠ D := (ne_of_none h1 hp).symm
        refine paired_snoc (by rw [upd_ne npD]; exact upd_same) (pairedMono (fun a b k => ?_) r1)
        rw [upd_ne (ne_of k h1 (by intro z; cases z)), upd_ne (ne_of_none k hp)]
        exact k
    · intro H1 ⟨e01, rs, h1, r1⟩
      have e1 := e0.trans e01
      refine ⟨_, _, rfl, ?_⟩
      have tt : ((n : Nat) : Int) - 1 = ((n - 1 : Nat) : Int) := by omega
      refine ⟨_, rfl, _, _, rfl, rfl, _, rfl, by rw [tt]; omega, by rw [tt]; omega, ?_⟩
      rw [tt]
      refine for_range (lo := 0) (n := n - 1) (fun i σ H' => ∃ z3 z4 z5 F' D' rf rs', σ = [some (nV n), some (.ref F'), some (.ref D'), z3, z4, z5, none] ∧ Ext H H' ∧ H F' = none ∧ H' F' = some (.lst (rf.map V.ref)) ∧ RingsAt H' rf ((List.range i).flatMap fun t => ringsGo n (t + 1)) ∧ rf.length ≤ 1000 * i ∧ H' D' = some (.lst (rs'.map V.ref)) ∧ RingsAt H' rs' (ringsGo n i)) ⟨none, none, none, F0, D, [], rs, rfl, e1, hF0, e01 _ _ k0, .nil, by simp, h1, r1⟩ ?_ ?_
      · rintro i σ H2 hi ⟨z3, z4, z5, F', D', rf, rs', eσ, e2, nF', hF', rF, lF, h2, r2⟩
        subst eσ
        have l2 : rs'.length = (ringsGo n i).length := paired_len r2
        have l2b := hsz i (by omega)
        refine ⟨by decide, fun L0 hL0 => ?_⟩
        generalize hu3 : upd H2 L0 _ = H3
        obtain ⟨k3, c3⟩ := upd_eq hu3
        have e23 : Ext H2 H3 := Ext.refl.chg hL0 c3
        refine ⟨_, rfl, D', rfl, ⟨_, SqL.of (e23 _ _ h2)⟩, ?_⟩
        refine for_list (xs := rs'.map V.ref) (fun j σ H' => ∃ z5 L' rl, σ = [some (nV n), some (.ref F'), some (.ref D'), some (.int (0 + (i : Int))), some (.ref L'), z5, none] ∧ Ext H2 H' ∧ H' L' = some (.lst (rl.map V.ref)) ∧ rl.length ≤ 100 * j ∧ RingsAt H' rl (((ringsGo n i).take j).flatMap (extR n))) ⟨z5, L0, [], rfl, e23, k3, by simp, .nil⟩ (fun j σ H' _ ⟨_, _, _, _, e, _⟩ => SqL.of (e _ _ h2)) ?_ ?_
        · rintro j x σ H4 hx ⟨z5, L', rl, eσ, e4, h4, l4, r4⟩
          subst eσ
          obtain ⟨p, hp, rfl⟩ := map_get hx
          obtain ⟨r, hr0⟩ := get_of_lt (l := ringsGo n i) (i := j) (by rw [← l2]; exact (List.getElem?_eq_some_iff.mp hp).1)
          have hP : H2 p = some (.tup (rV r)) := paired_get r2 hp hr0
          have rne := ringsGo_ne r (List.mem_of_getElem? hr0)
          obtain ⟨a0, r', er⟩ := List.exists_cons_of_ne_nil rne
          have hhd : r.headD 0 = a0 := by rw [er]; rfl
          obtain ⟨rlt, rlen⟩ := ringsGo_ok r (List.mem_of_getElem? hr0)
          have ha0 : a0 < n := rlt a0 (by rw [er]; simp)
          have jb : j < 1000 := by
            have := (List.getElem?_eq_some_iff.mp hr0).1
            omega
          refine ⟨_, rfl, _, rfl, p, _, _, nV a0, rfl, rfl, SqT.of (e4 _ _ hP), by rw [er]; exact atI_nat (j := 0) rfl, _, _, rfl, rfl, _, rfl, _, _, rfl, ⟨by omega, by omega, by omega, by omega⟩, fun D2 hD2 => ?_⟩
          have a0n : (((n : Int) - ((a0 : Int) + 1)).toNat) = n - (a0 + 1) := by omega
          rw [a0n]
          let keep : Nat → List Nat := fun m => (((List.range' (a0 + 1) (n - (a0 + 1))).take m).filter fun a => !r.contains a)
          refine lc_in (walk_range (lo := (a0 : Int) + 1) (n := n - (a0 + 1))) (fun m H' => Ext H4 H' ∧ ∃ rs2, H' D2 = some (.lst (rs2.map V.ref)) ∧ rs2.length ≤ m ∧ RingsAt H' rs2 ((keep m).map fun a => r ++ [a])) ⟨Ext.one hD2, [], upd_same, by simp, .nil⟩ (fun _ _ _ _ => trivial) ?_ ?_
          · rintro m x H5 H5' hm ⟨e5, rs3, h5, l5, r5⟩ ⟨eh, hx⟩
            subst eh
            have hx' : x = nV (a0 + 1 + m) := hx.trans (congrArg V.int (by omega))
            subst hx'
            have hP5 := e5 _ _ (e4 _ _ hP)
            have hk : (List.range' (a0 + 1) (n - (a0 + 1)))[m]? = some (a0 + 1 + m) := by simp [List.getElem?_range', hm]
            have kp : keep (m + 1) = keep m ++ if r.contains (a0 + 1 + m) then [] else [a0 + 1 + m] := by
              simp only [keep]
              rw [List.take_add_one, hk, List.filter_append]
              congr 1
              show List.filter (fun a => !r.contains a) [a0 + 1 + m] = _
              rw [List.filter_cons, List.filter_nil]
              cases r.contains (a0 + 1 + m) <;> rfl
            refine ⟨rfl, ?_⟩
            refine ⟨_, rfl, _, rfl, p, _, rfl, .inr (SqT.of hP5), rfl, flat_nats r, _, rfl, ?_⟩
            show if (!inV (nV (a0 + 1 + m)) (rV r)) = true then _ else _
            rw [inV_nat]
            cases hc : r.contains (a0 + 1 + m) with
            | true =>
              refine iteF ⟨e5, rs3, h5, by omega, ?_⟩
              rw [kp, hc]
              simpa using r5
            | false =>
              refine iteT ⟨_, rfl, _, rfl, (by show 1 ≤ 16777216; decide), fun p1 np1 => ?_⟩
              generalize hu6 : upd H5' p1 _ = H6
              obtain ⟨k6, c6⟩ := upd_eq hu6
              have e56 : Ext H5' H6 := Ext.refl.chg np1 c6
              refine ⟨p, p1, _, _, rfl, rfl, SqT.of (e56 _ _ hP5), SqT.of k6, by rw [er]; simp [rV], ?_, fun c => absurd c (by simp), fun _ p4 np4 => ?_⟩
              · simp only [List.length_map, List.length_cons, List.length_nil, rV, rlen]
                show _ ≤ 16777216
                omega
              have h6D := e56 _ _ h5
              refine ⟨_, (upd_ne (ne_of_none h6D np4)).trans h6D, ?_, ((e5.trans e56).new np4).put hD2, rs3 ++ [p4], ?_, ?_, ?_⟩
              · rw [List.length_map]
                show _ < 16777216
                omega
              · rw [upd_same]
                simp
              · simp
                omega
              · rw [kp, hc]
                have npD : p4 ≠ D2 := (ne_of_none h6D np4).symm
                rw [show (keep m ++ if false = true then [] else [a0 + 1 + m]).map (fun a => r ++ [a]) = (keep m).map (fun a => r ++ [a]) ++ [r ++ [a0 + 1 + m]] by simp]
                refine paired_snoc ?_ (pairedMono (fun a b k => ?_) r5)
                · rw [upd_ne npD, upd_same]
                  simp
                · have k' := e56 _ _ k
                  rw [upd_ne (ne_of k' h6D (by intro z; cases z)), upd_ne (ne_of_none k' np4)]
                  exact k'
          · intro H5 ⟨e5, rs3, h5, l5, r5⟩
            have h5L := e5 _ _ h4
            refine ⟨L', D2, _, _, rfl, rfl, h5L, h5, ?_, fun p6 np6 => ?_⟩
            · rw [List.length_map, List.length_map]
              show _ ≤ 16777216
              omega
            have e6 : Ext H5 (upd H5 p6 (.lst (rl.map V.ref ++ rs3.map V.ref))) := Ext.one np6
            refine ⟨_, p6, rl ++ rs3, rfl, (e4.trans e5).trans e6, by rw [upd_same]; simp, by simp; omega, ?_⟩
            have e7 : (some r).toList.flatMap (extR n) = ((List.range' (a0 + 1) (n - (a0 + 1))).filter fun a => !r.contains a).map fun a => r ++ [a] := by
              simp only [Option.toList, List.flatMap_cons, List.flatMap_nil, List.append_nil]
              unfold extR
              rw [hhd]
            rw [List.take_add_one, hr0, List.flatMap_append, e7]
            simp only [keep] at r5
            rw [show (List.range' (a0 + 1) (n - (a0 + 1))).take (n - (a0 + 1)) = List.range' (a0 + 1) (n - (a0 + 1)) from List.take_of_length_le (by simp)] at r5
            exact paired_app (pairedMono (fun a b k => e6 _ _ (e5 _ _ k)) r4) (pairedMono (fun a b k => e6 _ _ k) r5)
        · rintro σ H4 ⟨z5, L', rl, eσ, e4, h4, l4, r4⟩
          subst eσ
          rw [List.length_map, l2, List.take_length] at r4
          rw [List.length_map, l2] at l4
          have hF4 := e4 _ _ hF'
          have lrl : rl.length = (ringsGo n (i + 1)).length := paired_len r4
          have l3b := hsz (i + 1) (by omega)
          refine ⟨_, rfl, _, rfl, F', L', _, _, rfl, rfl, hF4, h4, ?_, fun p6 np6 => ⟨_, rfl, _, _, rfl, ?_⟩⟩
          · rw [List.length_map, List.length_map]
            show _ ≤ 16777216
            omega
          have e6 : Ext H4 (upd H4 p6 (.lst (rf.map V.ref ++ rl.map V.ref))) := Ext.one np6
          refine ⟨_, _, _, p6, L', rf ++ rl, rl, rfl, (e2.trans e4).trans e6, (e2.trans e4).nil np6, by rw [upd_same]; simp, ?_, by simp; omega, e6 _ _ h4, pairedMono (fun a b k => e6 _ _ k) r4⟩
          rw [List.range_succ, List.flatMap_append]
          refine paired_app (pairedMono (fun a b k => e6 _ _ (e4 _ _ k)) rF) ?_
          have r6 : RingsAt (upd H4 p6 (.lst (rf.map V.ref ++ rl.map V.ref))) rl (ringsGo n (i + 1)) := pairedMono (fun a b k => e6 _ _ k) r4
          rw [show [i].flatMap (fun t => ringsGo n (t + 1)) = ringsGo n (i + 1) by simp only [List.flatMap_cons, List.flatMap_nil, List.append_nil]]
          exact r6
      · rintro σ H2 ⟨z3, z4, z5, F', D', rf, rs', eσ, e2, nF', hF', rF, lF, h2, r2⟩
        subst eσ
        exact ⟨_, rfl, q F' rf H2 e2 nF' hF' rF⟩
end
end K30

namespace K30
open PySem PySem.Spec PyProof.Rows L2
def lawSteps (r : List Nat) : List (Nat × Nat) := (List.range r.length).map fun k => (r.getD k 0, r.getD ((k + 1) % r.length) 0)
def addCell (g : Grid) (z : Nat × Nat) : Grid := setCell g z.1 z.2 (cell g z.1 z.2 + 1)
def laidM (n : Nat) (rings : List (List Nat)) : Grid := rings.foldl (fun g r => (lawSteps r).foldl addCell g) (List.replicate n (List.replicate n 0))
abbrev lsR (K : PySem.W.Frag) : List V → Hp → VK → Prop := fun xs H Q => ∃ p ys, xs = [.ref p] ∧ (SqL K H p ys ∨ SqT K H p ys) ∧ Q (.int ys.length) H
abbrev int1R : List V → Hp → VK → Prop := fun xs H Q => (∃ i, xs = [.int i] ∧ Q (.int i) H) ∨ ∃ k, xs = [.bl k] ∧ Q (.int (if k then 1 else 0)) H
section
variable {P : Program} {w : World} {K : PySem.W.Frag} {mg : Str → Option Value} {base : Heap}
/-! ### _law_steps -/
abbrev nLs : List Str := ["_law_ring", "_law_k"]
theorem scLs : FnScope nLs ["_law_ring"] (defScope (topS 67)) := ⟨rfl, rfl, rfl, by decide +kernel, rfl, by decide +kernel, by decide +kernel⟩
def spLs : Sp := fun vs H Q _ => ∃ (p : Addr) (r : List Nat), vs = [.ref p] ∧ H p = some (.tup (rV r)) ∧ 1 ≤ r.length ∧ r.length ≤ 100 ∧ ∀ L as H', Ext H H' → H L = none → H' L = some (.lst (as.map V.ref)) → PairsV H' as (lawSteps r) → Q (.ref L) H'
theorem cal_ls (T : Txt K mg) : Cal P w K mg base 1 "_law_steps" ["_law_ring"] spLs := by
  refine T.def_law_steps.cal (fun _ _ _ _ _ _ us hl => match us, hl with | [_], _ => rfl) fun f fd F => F.ok scLs (fun vs H Q E h => ?_) fun cdv A outer s H vs Q E hr h => ?_
  · obtain ⟨p, r, rfl, _⟩ := h
    rfl
  · obtain ⟨p, r, rfl, hp, h1, h100, q⟩ := h
    have nd := scLs.nd
    refine ⟨_, PSs.nox (pss_one (ps_ret (pe_lc (own := [("_law_k", 1)]) (g := gName 1) (tt := tYes) (te := tTup (tCons (tOp (rIxT K) (tVar 0) (tVar 1)) (tCons (tOp (rIxT K) (tVar 0) (tOp (rI (fun _ j => 0 < j) fun i j => .int (i % j)) (tCB int1R (tCons (tOp (rI0 fun i j => .int (i + j)) (tVar 1) (tC (.int 1))) tNil)) (tCB (lsR K) (tCons (tVar 0) tNil)))) tNil))) rfl nd (pi_range1 rfl T.fr_range (pa_cons (pe_callB call_len_seq (by rfl) T.fr_len PySem.boot_len (pa_cons (pv 0) pa_nil)) pa_nil)) (blkOk_by (N := nLs) (sc := defScope (topS 67)) (by decide +kernel)) (fun _ _ _ _ _ => pg_name (i := 1) nd rfl (Or.inl rfl)) (fun _ _ _ _ _ => pts_nil)
      (fun _ _ _ _ _ => pe_tup (pa_cons (pe_ix ix_tup (pv 0) (pv 1) (fun _ _ => rfl)) (pa_cons (pe_ix ix_tup (pv 0) (pe_op op_mod (pe_callTy call_int1 (by rfl) T.fr_int (by decide +kernel) (pa_cons (pe_op op_add (pv 1) pe_int) pa_nil)) (pe_callB call_len_seq (by rfl) T.fr_len PySem.boot_len (pa_cons (pv 0) pa_nil))) (fun _ _ => rfl)) pa_nil)))))), ?_⟩
    have lr : (rV r).length = r.length := List.length_map _
    refine ⟨_, rfl, p, _, rfl, .inr (SqT.of hp), _, rfl, by rw [lr]; omega, by rw [lr]; omega, fun D hD => ?_⟩
    rw [lr]
    refine lc_range (lo := 0) (n := r.length) (fun i H' => Ext H H' ∧ ∃ as, H' D = some (.lst (as.map V.ref)) ∧ PairsV H' as ((List.range i).map fun k => (r.getD k 0, r.getD ((k + 1) % r.length) 0))) ⟨Ext.one hD, [], upd_same, .nil⟩ ?_ ?_
    · rintro i H1 hi ⟨e1, as, k1, r1⟩
      rw [Int.zero_add]
      have hp1 := e1 _ _ hp
      have g1 : (rV r)[i]? = some (nV (r.getD i 0)) := by simp [rV, hi]
      have hm : (i + 1) % r.length < r.length := Nat.mod_lt _ (by omega)
      have g2 : (rV r)[(i + 1) % r.length]? = some (nV (r.getD ((i + 1) % r.length) 0)) := by simp [rV, hm]
      refine ⟨rfl, ?_⟩
      refine ⟨_, rfl, _, rfl, p, _, _, _, rfl, rfl, SqT.of hp1, atI_nat g1, ?_⟩
      refine ⟨_, rfl, _, rfl, _, _, rfl, rfl, .inl ⟨_, rfl, _, rfl, p, _, rfl, .inr (SqT.of hp1), _, _, rfl, rfl, (by rw [lr]; omega), ?_⟩⟩
      refine ⟨p, _, _, nV (r.getD ((i + 1) % r.length) 0), rfl, rfl, SqT.of hp1, ?_, (by show 2 ≤ 16777216; decide), fun t nt => ?_⟩
      · rw [lr, show ((i : Int) + 1) % (r.length : Int) = (((i + 1) % r.length : Nat) : Int) from (Int.natCast_emod (i + 1) r.length).symm]
        exact atI_nat g2
      have lna : as.length = i := by
        have := paired_len r1
        simpa using this
      refine ⟨_, (upd_ne (ne_of_none k1 nt)).trans k1, by rw [List.length_map, lna]; show _ < 16777216; omega, (e1.new nt).put hD, as ++ [t], by rw [upd_same]; simp, ?_⟩
      rw [List.range_succ, List.map_append]
      have ntD : t ≠ D := (ne_of_none k1 nt).symm
      refine paired_snoc (F := PairV _) (by show upd _ D _ t = _; rw [upd_ne ntD]; exact upd_same) (pairedMono (fun a b k => ?_) r1)
      show upd _ D _ a = _
      rw [upd_ne (ne_of k k1 (by intro z; cases z)), upd_ne (ne_of_none k nt)]
      exact k
    · rintro H1 ⟨e1, as, k1, r1⟩
      exact q D as H1 e1 hD k1 r1
/-! ### tables as lists of lists -/
structure GridL (H0 H : Hp) (a : Addr) (g : Grid) (ras : List Addr) : Prop where
  top : H a = some (.lst (ras.map V.ref))
  fa : H0 a = none
  nd : ras.Nodup
  na : a ∉ ras
  fr : ∀ r ∈ ras, H0 r = none
  rows : Paired (fun r row => H r = some (.lst (row.map V.int))) ras g
theorem GridL.ext {H0 H H' : Hp} {a : Addr} {g : Grid} {ras : List Addr} (h : GridL H0 H a g ras) (e : Ext H H') : GridL H0 H' a g ras := ⟨e _ _ h.top, h.fa, h.nd, h.na, h.fr, pairedMono (fun r row k => e _ _ k) h.rows⟩
theorem paired_set {α β : Type} {F G : α → β → Prop} : ∀ {l : List α} {m : List β} {p : Nat} {x : α} {y : β}, Paired F l m → l[p]? = some x → (∀ (q : Nat) (a : α) b, q ≠ p → l[q]? = some a → F a b → G a b) → G x y → Paired G l (m.set p y)
  | _, _, _, _, _, .nil, hp, _, _ => by simp at hp
  | a :: l, b :: m, 0, x, y, .cons h r, hp, k, g => by
    simp at hp
    subst hp
    refine .cons g ?_
    have : ∀ {l' : List α} {m' : List β}, Paired F l' m' → (∀ (q : Nat) a b, l'[q]? = some a → F a b → G a b) → Paired G l' m' := by
      intro l' m' r'
      induction r' with
      | nil => intro _; exact .nil
      | cons h' _ ih => exact fun f => .cons (f 0 _ _ rfl h') (ih fun q a b hq => f (q + 1) a b (by simpa using hq))
    exact this r fun q a b hq => k (q + 1) a b (by omega) (by simpa using hq)
  | a :: l, b :: m, p + 1, x, y, .cons h r, hp, k, g => by
    refine .cons (k 0 a b (by omega) rfl h) ?_
    exact paired_set r (by simpa using hp) (fun q a b nq hq => k (q + 1) a b (by omega) (by simpa using hq)) g
theorem GridL.at_ {H0 H : Hp} {a : Addr} {g : Grid} {ras : List Addr} (h : GridL H0 H a g ras) {p : Nat} (hp : p < g.length) : ∃ r row, ras[p]? = some r ∧ g[p]? = some row ∧ H r = some (.lst (row.map V.int)) ∧ H0 r = none ∧
    ∀ (q : Nat) (v : Int) (H' : Hp), H' r = some (.lst ((row.set q v).map V.int)) → Chg r H H' → GridL H0 H' a (setCell g p q v) ras := by
  obtain ⟨r, hr⟩ := get_of_lt (l := ras) (i := p) (by rw [paired_len h.rows]; exact hp)
  obtain ⟨row, hrow⟩ := get_of_lt hp
  refine ⟨r, row, hr, hrow, paired_get h.rows hr hrow, h.fr r (List.mem_of_getElem? hr), fun q v H' k c => ?_⟩
  have nar : a ≠ r := fun e => h.na (by rw [e]; exact List.mem_of_getElem? hr)
  refine ⟨(c a nar).trans h.top, h.fa, h.nd, h.na, h.fr, ?_⟩
  unfold setCell
  rw [getD_some hrow]
  refine paired_set h.rows hr (fun j b row' nj hb hF => ?_) k
  have : b ≠ r := fun e => nj ((List.getElem?_inj (List.getElem?_eq_some_iff.mp hb).1 h.nd).mp (by rw [hb, hr, e]))
  exact (c b this).trans hF
theorem setCell_len {g : Grid} {p q : Nat} {v : Int} : (setCell g p q v).length = g.length := by unfold setCell; simp
theorem cell_of {g : Grid} {p q : Nat} {row : List Int} {x : Int} (h : g[p]? = some row) (k : row[q]? = some x) : cell g p q = x := by
  unfold cell
  rw [getD_some h, getD_some k]
def Sq (n : Nat) (g : Grid) : Prop := g.length = n ∧ ∀ row ∈ g, row.length = n
theorem Sq.set {n : Nat} {g : Grid} (h : Sq n g) {p q : Nat} {v : Int} : Sq n (setCell g p q v) := by
  refine ⟨setCell_len.trans h.1, fun row hr => ?_⟩
  unfold setCell at hr
  rcases List.mem_or_eq_of_mem_set hr with h1 | h1
  · exact h.2 row h1
  · subst h1
    rw [List.length_set]
    by_cases c : p < g.length
    · rw [List.getD_eq_getElem?_getD, List.getElem?_eq_getElem c]
      exact h.2 _ (List.getElem_mem c)
    · exfalso
      obtain ⟨i, hi⟩ := List.mem_iff_getElem?.mp hr
      rw [List.set_eq_of_length_le (by omega)] at hi
      have hm := List.mem_of_getElem? hi
      have := h.2 _ hm
      rw [List.length_set, List.getD_eq_getElem?_getD, List.getElem?_eq_none (by omega)] at this
      simp at this
      rw [← this] at h
      have := h.1
      have e : g = [] := List.length_eq_zero_iff.mp this
      rw [e] at hm
      cases hm
theorem Sq.row {n : Nat} {g : Grid} (h : Sq n g) {p : Nat} {row : List Int} (k : g[p]? = some row) : row.length = n := h.2 row (List.mem_of_getElem? k)
end
end K30

namespace K30
open PySem PySem.Spec PyProof.Rows L2
theorem paired_memL {α β : Type} {F G : α → β → Prop} : ∀ {l : List α} {m : List β}, Paired F l m → (∀ a b, a ∈ l → F a b → G a b) → Paired G l m
  | _, _, .nil, _ => .nil
  | _, _, .cons h r, k => .cons (k _ _ (by simp) h) (paired_memL r fun a b ha => k a b (List.mem_cons_of_mem _ ha))
section
variable {P : Program} {w : World} {K : PySem.W.Frag} {mg : Str → Option Value} {base : Heap}
/-! ### _law_laid -/
abbrev nLd : List Str := ["_law_size", "_law_pairs", "_law_grid", "_law_ring", "_law_many", "_law_p", "_law_a", "_law_row", "_law_at"]
theorem scLd : FnScope nLd ["_law_size", "_law_pairs"] (defScope (topS 68)) := ⟨rfl, rfl, rfl, by decide +kernel, rfl, by decide +kernel, by decide +kernel⟩
def OneR (H : Hp) (pp : Addr) (r : List Nat) : Prop := ∃ ra, H pp = some (.tup [.ref ra, .int 1]) ∧ H ra = some (.tup (rV r))
def spLd : Sp := fun vs H Q _ => ∃ (n : Nat) (pl : Addr) (pps : List Addr) (rings : List (List Nat)), vs = [nV n, .ref pl] ∧ H pl = some (.lst (pps.map V.ref)) ∧ Paired (OneR H) pps rings ∧ n ≤ 10 ∧ (∀ r ∈ rings, 1 ≤ r.length ∧ r.length ≤ 100 ∧ ∀ a ∈ r, a < n) ∧
  ∀ a ras H', Ext H H' → GridL H H' a (laidM n rings) ras → Q (.ref a) H'
theorem cal_ld (T : Txt K mg) : Cal P w K mg base 2 "_law_laid" ["_law_size", "_law_pairs"] spLd := by
  refine T.def_law_laid.cal (fun _ _ _ _ _ _ us hl => match us, hl with | [_, _], _ => rfl) fun f fd F => F.ok scLd (fun vs H Q E h => ?_) fun cdv A outer s H vs Q E hr h => ?_
  · obtain ⟨n, pl, pps, rings, rfl, _⟩ := h
    rfl
  · obtain ⟨n, pl, pps, rings, rfl, hpl, hpp, hn, hok, q⟩ := h
    have nd := scLd.nd
    refine ⟨_, PSs.nox (pss_cons (ps_setLc (i := 2) (own := [("_law_row", 7)]) (g := gName 7) (tt := tYes) (te := tLc (iRng1 (tCons (tVar 0) tNil)) (gName 8) tYes (tC (.int 0)) [8]) rfl nd rfl rfl (sw_true rfl rfl rfl (by decide +kernel)) (pi_range1 rfl T.fr_range (pa_cons (pv 0) pa_nil)) (blkOk_by (N := nLd) (sc := defScope (topS 68)) (by decide +kernel)) (fun _ _ _ _ _ => pg_name (i := 7) nd rfl (Or.inl rfl)) (fun _ _ _ _ _ => pts_nil)
        (fun _ _ _ _ _ => pe_lc (own := [("_law_at", 8)]) (g := gName 8) (tt := tYes) rfl nd (pi_range1 rfl T.fr_range (pa_cons (pv 0) pa_nil)) (blkOk_by (by exact rfl)) (fun _ _ _ _ _ => pg_name (i := 8) nd rfl (Or.inl rfl)) (fun _ _ _ _ _ => pts_nil) (fun _ _ _ _ _ => pe_int)))
      (pss_cons (ps_for PassesOwn.never rfl (pi_list (pv 1)) (pg_tup rfl (pgs_cons (pg_name (i := 3) nd rfl (Or.inl rfl)) (pgs_cons (pg_name (i := 4) nd rfl (Or.inl rfl)) pgs_nil)))
        (pss_one (ps_for PassesOwn.never rfl (pi_list (pe_cal (cal_ls T) hr rfl (pa_cons (pv 3) pa_nil))) (pg_tup rfl (pgs_cons (pg_name (i := 5) nd rfl (Or.inl rfl)) (pgs_cons (pg_name (i := 6) nd rfl (Or.inl rfl)) pgs_nil)))
          (pss_one (ps_asg (pe_op op_add (pe_ix ix_list (pe_ix ix_list (pv 2) (pv 5) (fun _ _ => rfl)) (pv 6) (fun _ _ => rfl)) (pv 4)) (pg_sub (pe_ix ix_list (pv 2) (pv 5) (fun _ _ => rfl)) (pv 6) set_list))))))
      (pss_one (ps_ret (pv 2))))), ?_⟩
    refine ⟨_, rfl, _, rfl, by omega, by omega, fun D hD => ?_⟩
    refine lc_range (lo := 0) (n := n) (fun i H' => Ext H H' ∧ ∃ ras, H' D = some (.lst (ras.map V.ref)) ∧ ras.Nodup ∧ D ∉ ras ∧ (∀ r ∈ ras, H r = none) ∧ Paired (fun r (row : List Int) => H' r = some (.lst (row.map V.int))) ras (List.replicate i (List.replicate n 0))) ⟨Ext.one hD, [], upd_same, List.nodup_nil, by simp, by simp, .nil⟩ ?_ ?_
    · rintro i H1 hi ⟨e1, ras, h1, nd1, na1, fr1, r1⟩
      refine ⟨rfl, ?_⟩
      refine ⟨_, rfl, _, rfl, by omega, by omega, fun D2 hD2 => ?_⟩
      refine lc_range (lo := 0) (n := n) (fun j H' => Ext H1 H' ∧ H' D2 = some (.lst ((List.replicate j (0 : Int)).map V.int))) ⟨Ext.one hD2, upd_same⟩ ?_ ?_
      · rintro j H2 hj ⟨e2, h2⟩
        refine ⟨rfl, ?_⟩
        refine ⟨_, h2, ?_, e2.put hD2, ?_⟩
        · rw [List.length_map, List.length_replicate]
          show _ < 16777216
          omega
        · rw [upd_same, List.replicate_succ']
          simp
      · rintro H2 ⟨e2, h2⟩
        have lr : ras.length = i := by simpa using paired_len r1
        have nDD : D2 ≠ D := (ne_of_none h1 hD2).symm
        have nin : D2 ∉ ras := fun hm => by
          obtain ⟨j, hj⟩ := List.mem_iff_getElem?.mp hm
          obtain ⟨row, hrow⟩ := get_of_lt (l := List.replicate i (List.replicate n (0 : Int))) (i := j) (by rw [List.length_replicate, ← lr]; exact (List.getElem?_eq_some_iff.mp hj).1)
          have := paired_get r1 hj hrow
          rw [hD2] at this
          cases this
        refine ⟨_, e2 _ _ h1, by rw [List.length_map, lr]; show _ < 16777216; omega, (e1.trans e2).put hD, ras ++ [D2], by rw [upd_same]; simp, ?_, ?_, ?_, ?_⟩
        · rw [List.nodup_append]
          exact ⟨nd1, by simp, fun a ha b hb => by rw [List.mem_singleton] at hb; intro e; rw [e, hb] at ha; exact nin ha⟩
        · simp [na1, nDD.symm]
        · intro r hr
          rcases List.mem_append.mp hr with hr | hr
          · exact fr1 r hr
          · rw [List.mem_singleton] at hr
            rw [hr]
            exact e1.nil hD2
        · rw [List.replicate_succ']
          refine paired_snoc ?_ ?_
          · rw [upd_ne nDD]
            exact h2
          · refine paired_memL r1 fun a b ha k => ?_
            rw [upd_ne (fun e => na1 (by rw [← e]; exact ha))]
            exact e2 _ _ k
    · rintro H1 ⟨e1, ras, h1, nd1, na1, fr1, r1⟩
      have g1 : GridL H H1 D (List.replicate n (List.replicate n 0)) ras := ⟨h1, hD, nd1, na1, fr1, r1⟩
      have hpl1 := e1 _ _ hpl
      let stepR : Grid → List Nat → Grid := fun g r => (lawSteps r).foldl addCell g
      refine ⟨_, rfl, pl, rfl, ⟨_, SqL.of hpl1⟩, ?_⟩
      refine for_list (xs := pps.map V.ref) (fun i σ H' => ∃ z3 z4 z5 z6 g, σ = [some (nV n), some (.ref pl), some (.ref D), z3, z4, z5, z6, none, none] ∧ Ext H H' ∧ GridL H H' D g ras ∧ Sq n g ∧ (rings.drop i).foldl stepR g = laidM n rings) ⟨none, none, none, none, _, rfl, e1, g1, ⟨by simp, fun row hr => by rw [List.eq_of_mem_replicate hr]; simp⟩, rfl⟩ (fun i σ H' _ ⟨_, _, _, _, _, _, e, _⟩ => SqL.of (e _ _ hpl)) ?_ ?_
      · rintro i x σ H2 hx ⟨z3, z4, z5, z6, g, eσ, e2, g2, sq2, f2⟩
        subst eσ
        obtain ⟨pp, hpp0, rfl⟩ := map_get hx
        obtain ⟨r, hr0⟩ := get_of_lt (l := rings) (i := i) (by rw [← paired_len hpp]; exact (List.getElem?_eq_some_iff.mp hpp0).1)
        obtain ⟨ra, hP, hR⟩ := paired_get hpp hpp0 hr0
        obtain ⟨ok1, ok2, ok3⟩ := hok r (List.mem_of_getElem? hr0)
        rw [drop_cons hr0, List.foldl_cons] at f2
        refine ⟨pp, _, rfl, SqT.of (e2 _ _ hP), rfl, _, _, rfl, _, _, rfl, rfl, ?_⟩
        refine ⟨_, rfl, ra, r, rfl, e2 _ _ hR, ok1, ok2, fun L as H3 e3 nL hL hps => ⟨L, rfl, ⟨_, SqL.of hL⟩, ?_⟩⟩
        have nLr : ∀ r ∈ ras, L ≠ r := fun r hr => by
          obtain ⟨j, hj⟩ := List.mem_iff_getElem?.mp hr
          obtain ⟨row, hrow⟩ := get_of_lt (l := g) (i := j) (by rw [← paired_len g2.rows]; exact (List.getElem?_eq_some_iff.mp hj).1)
          exact (ne_of_none (paired_get g2.rows hj hrow) nL).symm
        refine for_list (xs := as.map V.ref) (fun j σ H' => ∃ z5 z6 g', σ = [some (nV n), some (.ref pl), some (.ref D), some (.ref ra), some (.int 1), z5, z6, none, none] ∧ Ext H H' ∧ GridL H H' D g' ras ∧ Sq n g' ∧ ((lawSteps r).drop j).foldl addCell g' = stepR g r ∧ H' L = some (.lst (as.map V.ref)) ∧ PairsV H' as (lawSteps r)) ⟨z5, z6, g, rfl, e2.trans e3, g2.ext e3, sq2, rfl, hL, hps⟩ (fun j σ H' _ ⟨_, _, _, _, _, _, _, _, h, _⟩ => SqL.of h) ?_ ?_
        · rintro j x σ H4 hx ⟨z5, z6, g', eσ, e4, g4, sq4, f4, hL4, hps4⟩
          subst eσ
          obtain ⟨sa, hsa, rfl⟩ := map_get hx
          obtain ⟨z, hz⟩ := get_of_lt (l := lawSteps r) (i := j) (by rw [← paired_len hps4]; exact (List.getElem?_eq_some_iff.mp hsa).1)
          have hS : H4 sa = some (.tup [nV z.1, nV z.2]) := paired_get hps4 hsa hz
          rw [drop_cons hz, List.foldl_cons] at f4
          have hzm := List.mem_of_getElem? hz
          have hzb : z.1 < n ∧ z.2 < n := by
            unfold lawSteps at hzm
            obtain ⟨k, hk, rfl⟩ := List.mem_map.mp hzm
            have hk2 := List.mem_range.mp hk
            have hm : (k + 1) % r.length < r.length := Nat.mod_lt _ (by omega)
            exact ⟨ok3 _ (by show r.getD k 0 ∈ r; rw [List.getD_eq_getElem?_getD, List.getElem?_eq_getElem hk2]; exact List.getElem_mem hk2), ok3 _ (by show r.getD ((k + 1) % r.length) 0 ∈ r; rw [List.getD_eq_getElem?_getD, List.getElem?_eq_getElem hm]; exact List.getElem_mem hm)⟩
          refine ⟨sa, _, rfl, SqT.of hS, rfl, _, _, rfl, _, _, rfl, rfl, ?_⟩
          obtain ⟨ro, row, hro, hrow, hRow, hro0, upg⟩ := g4.at_ (p := z.1) (by rw [sq4.1]; exact hzb.1)
          obtain ⟨x, hx0⟩ := get_of_lt (l := row) (i := z.2) (by rw [sq4.row hrow]; exact hzb.2)
          refine ⟨_, rfl, _, rfl, D, _, _, .ref ro, rfl, rfl, SqL.of g4.top, atI_nat (by rw [List.getElem?_map, hro]; rfl), _, rfl, ro, _, _, .int x, rfl, rfl, SqL.of hRow, atI_nat (by rw [List.getElem?_map, hx0]; rfl), _, rfl, _, _, rfl, rfl, ?_⟩
          refine ⟨_, rfl, _, rfl, D, _, _, .ref ro, rfl, rfl, SqL.of g4.top, atI_nat (by rw [List.getElem?_map, hro]; rfl), _, rfl, ro, _, _, z.2, rfl, rfl, hRow, ixN_of (by rw [List.length_map, sq4.row hrow]; exact hzb.2), ?_⟩
          rw [set_map]
          generalize hu5 : upd H4 ro _ = H5
          obtain ⟨k5, c5⟩ := upd_eq hu5
          refine ⟨_, _, addCell g' z, rfl, Ext.chg e4 hro0 c5, ?_, Sq.set sq4, f4, (c5 L (nLr ro (List.mem_of_getElem? hro))).trans hL4, pairedMono (fun a b k => (c5 a (ne_of k hRow (by intro z; cases z))).trans k) hps4⟩
          unfold addCell
          rw [cell_of hrow hx0]
          exact upg z.2 (x + 1) H5 k5 c5
        · rintro σ H4 ⟨z5, z6, g', eσ, e4, g4, sq4, f4, hL4, hps4⟩
          subst eσ
          rw [List.length_map, paired_len hps, drop_len] at f4
          have f5 : g' = stepR g r := f4
          rw [← f5] at f2
          exact ⟨_, _, _, _, g', rfl, e4, g4, sq4, f2⟩
      · rintro σ H2 ⟨z3, z4, z5, z6, g, eσ, e2, g2, sq2, f2⟩
        subst eσ
        rw [List.length_map, paired_len hpp, drop_len] at f2
        have f5 : g = laidM n rings := f2
        rw [f5] at g2
        exact ⟨_, rfl, q D ras H2 e2 g2⟩
end
end K30

namespace K30
open PySem PySem.Spec PyProof.Rows L2
def tagsAll : List (List Str) := [["a", "b", "c", "d"], ["cup", "kinds", "x0", "ab"], ["d", "c", "b", "a"]]
theorem cut0 {xs : List V} {n : Nat} : cutV xs none (some (n : Int)) = xs.take n := by
  unfold cutV
  rw [HT.sIx_none, HT.sIx_nat, List.drop_zero, Nat.sub_zero]
  by_cases c : n ≤ xs.length
  · rw [Nat.min_eq_left c]
  · rw [Nat.min_eq_right (by omega), List.take_length, List.take_of_length_le (by omega)]
abbrev tupR (K : PySem.W.Frag) : List V → Hp → VK → Prop := fun xs H Q => ∃ p ys, xs = [.ref p] ∧ ((SqL K H p ys ∧ ∀ l, H l = none → Q (.ref l) (upd H l (.tup ys))) ∨ (SqT K H p ys ∧ Q (.ref p) H))
abbrev lstR (K : PySem.W.Frag) : List V → Hp → VK → Prop := fun xs H Q => ∃ p ys, xs = [.ref p] ∧ (SqL K H p ys ∨ SqT K H p ys) ∧ ∀ l, H l = none → Q (.ref l) (upd H l (.lst ys))
section
variable {P : Program} {w : World} {K : PySem.W.Frag} {mg : Str → Option Value} {base : Heap}
/-! ### _law_tags -/
theorem scTg : FnScope ["_law_well_here", "_law_size"] ["_law_well_here", "_law_size"] (defScope (topS 69)) := ⟨rfl, rfl, rfl, by decide +kernel, rfl, by decide +kernel, by decide +kernel⟩
def spTg : Sp := fun vs H Q _ => ∃ (wl : Addr) (n : Nat), vs = [.ref wl, nV n] ∧ WellOk H wl ∧ n ≤ 100 ∧ ∀ t (ks : List Str) H', ks ∈ tagsAll → FW wl H H' → WellOk H' wl → H t = none → H' t = some (.tup ((ks.take n).map V.str)) → Q (.ref t) H'
theorem cal_tg (T : Txt K mg) : Cal P w K mg base 3 "_law_tags" ["_law_well_here", "_law_size"] spTg := by
  refine T.def_law_tags.cal (fun _ _ _ _ _ _ us hl => match us, hl with | [_, _], _ => rfl) fun f fd F => F.ok scTg (fun vs H Q E h => ?_) fun cdv A outer s H vs Q E hr h => ?_
  · obtain ⟨wl, n, rfl, _⟩ := h
    rfl
  · obtain ⟨wl, n, rfl, hw, hn, q⟩ := h
    refine ⟨_, PSs.nox (pss_one (ps_ret (pe_callTy call_tuple_of (by rfl) T.fr_tuple (by decide +kernel) (pa_cons (pe_slice sl_list (pe_cal (cal_pick T) hr rfl (pa_cons (pv 0) (pa_cons (pe_lst (pa_cons (pe_lst (pa_cons pe_str (pa_cons pe_str (pa_cons pe_str (pa_cons pe_str pa_nil))))) (pa_cons (pe_lst (pa_cons pe_str (pa_cons pe_str (pa_cons pe_str (pa_cons pe_str pa_nil))))) (pa_cons (pe_lst (pa_cons pe_str (pa_cons pe_str (pa_cons pe_str (pa_cons pe_str pa_nil))))) pa_nil)))) pa_nil))) po_none (po_some (pv 1))) pa_nil)))), ?_⟩
    obtain ⟨wa, wb, wc, hwl, hwc⟩ := hw
    refine ⟨_, rfl, (by show 4 ≤ 16777216; decide), fun l1 n1 => ?_⟩
    generalize hu1 : upd H l1 _ = H1
    obtain ⟨k1, c1⟩ := upd_eq hu1
    have e1 : Ext H H1 := Ext.refl.chg n1 c1
    refine ⟨(by show 4 ≤ 16777216; decide), fun l2 n2 => ?_⟩
    generalize hu2 : upd H1 l2 _ = H2
    obtain ⟨k2, c2⟩ := upd_eq hu2
    have e2 : Ext H1 H2 := Ext.refl.chg n2 c2
    refine ⟨(by show 4 ≤ 16777216; decide), fun l3 n3 => ?_⟩
    generalize hu3 : upd H2 l3 _ = H3
    obtain ⟨k3, c3⟩ := upd_eq hu3
    have e3 : Ext H2 H3 := Ext.refl.chg n3 c3
    refine ⟨(by show 3 ≤ 16777216; decide), fun l4 n4 => ?_⟩
    generalize hu4 : upd H3 l4 _ = H4
    obtain ⟨k4, c4⟩ := upd_eq hu4
    have e4 : Ext H3 H4 := Ext.refl.chg n4 c4
    have e14 : Ext H H4 := ((e1.trans e2).trans e3).trans e4
    have m1 : H4 l1 = some (.lst ((["a", "b", "c", "d"] : List Str).map V.str)) := e4 _ _ (e3 _ _ (e2 _ _ k1))
    have m2 : H4 l2 = some (.lst ((["cup", "kinds", "x0", "ab"] : List Str).map V.str)) := e4 _ _ (e3 _ _ k2)
    have m3 : H4 l3 = some (.lst ((["d", "c", "b", "a"] : List Str).map V.str)) := e4 _ _ k3
    have new : ∀ {l : Addr}, H l = none → l ≠ wl := fun h e => by rw [e, hwl] at h; cases h
    refine ⟨wl, l4, _, rfl, ⟨wa, wb, wc, e14 _ _ hwl, hwc⟩, k4, new (((e1.trans e2).trans e3).nil n4), by simp, by simp, fun i x H5 hi fr hw5 => ?_⟩
    have fin : ∀ (ks : List Str) (l : Addr), x = .ref l → ks ∈ tagsAll → H4 l = some (.lst (ks.map V.str)) → l ≠ wl → ∃ y, x = .ref y ∧ SqL K H5 y (ks.map V.str) ∧ ks ∈ tagsAll := fun ks l ex hk hl nl => ⟨l, ex, SqL.of (fr _ _ hl nl), hk⟩
    have : ∃ (ks : List Str) (y : Addr), x = .ref y ∧ SqL K H5 y (ks.map V.str) ∧ ks ∈ tagsAll := by
      match i, hi with
      | 0, hi => exact ⟨_, fin _ l1 (Option.some.inj hi).symm (by simp [tagsAll]) m1 (new n1)⟩
      | 1, hi => exact ⟨_, fin _ l2 (Option.some.inj hi).symm (by simp [tagsAll]) m2 (new (e1.nil n2))⟩
      | 2, hi => exact ⟨_, fin _ l3 (Option.some.inj hi).symm (by simp [tagsAll]) m3 (new ((e1.trans e2).nil n3))⟩
    obtain ⟨ks, y, rfl, hy, hk⟩ := this
    refine ⟨_, rfl, _, rfl, y, _, rfl, hy, fun p6 n6 => ?_⟩
    rw [cut0]
    generalize hu6 : upd H5 p6 _ = H6
    obtain ⟨k6, c6⟩ := upd_eq hu6
    have e6 : Ext H5 H6 := Ext.refl.chg n6 c6
    refine ⟨p6, _, rfl, .inl ⟨SqL.of k6, fun t nt => ?_⟩⟩
    have fr6 : FW wl H H6 := (e14.frm.trans fr).trans e6.frm
    obtain ⟨xa, xb, xc, hx, hxc⟩ := hw5
    have hx6 := e6 _ _ hx
    refine q t ks _ hk (fr6.trans (Ext.one nt).frm) ⟨xa, xb, xc, (Ext.one nt) _ _ hx6, hxc⟩ ?_ (by rw [upd_same, List.map_take])
    cases e : H t with
    | none => rfl
    | some o =>
      exfalso
      by_cases c : t = wl
      · rw [c, hx6] at nt
        cases nt
      · have := fr6 _ _ e c
        rw [nt] at this
        cases this
/-! ### _law_frozen -/
theorem scFz : FnScope ["_law_grid", "_law_row"] ["_law_grid"] (defScope (topS 70)) := ⟨rfl, rfl, rfl, by decide +kernel, rfl, by decide +kernel, by decide +kernel⟩
def spFz : Sp := fun vs H Q _ => ∃ (a : Addr) (g : Grid) (ras : List Addr), vs = [.ref a] ∧ H a = some (.lst (ras.map V.ref)) ∧ Paired (fun r row => H r = some (.lst (row.map V.int))) ras g ∧ g.length ≤ 1000 ∧ ∀ t H', Ext H H' → H t = none → GridT H' t g → Q (.ref t) H'
theorem cal_fz (T : Txt K mg) : Cal P w K mg base 1 "_law_frozen" ["_law_grid"] spFz := by
  refine T.def_law_frozen.cal (fun _ _ _ _ _ _ us hl => match us, hl with | [_], _ => rfl) fun f fd F => F.ok scFz (fun vs H Q E h => ?_) fun cdv A outer s H vs Q E hr h => ?_
  · obtain ⟨a, g, ras, rfl, _⟩ := h
    rfl
  · obtain ⟨a, g, ras, rfl, ha, hr', hg, q⟩ := h
    have nd := scFz.nd
    refine ⟨_, PSs.nox (pss_one (ps_ret (pe_callTy call_tuple_of (by rfl) T.fr_tuple (by decide +kernel) (pa_cons (pe_lc (own := [("_law_row", 1)]) (g := gName 1) (tt := tYes) (te := tCB (tupR K) (tCons (tVar 1) tNil)) rfl nd (pi_list (pv 0)) (blkOk_by (N := ["_law_grid", "_law_row"]) (sc := defScope (topS 70)) (by decide +kernel)) (fun _ _ _ _ _ => pg_name (i := 1) nd rfl (Or.inl rfl)) (fun _ _ _ _ _ => pts_nil)
      (fun _ _ _ _ _ => pe_callTy call_tuple_of (by rfl) T.fr_tuple (by decide +kernel) (pa_cons (pv 1) pa_nil))) pa_nil)))), ?_⟩
    have lr : ras.length = g.length := paired_len hr'
    refine ⟨_, rfl, a, rfl, ⟨_, SqL.of ha⟩, fun D hD => ?_⟩
    refine lc_list (K := K) (a := a) (xs := ras.map V.ref) (fun i H' => Ext H H' ∧ ∃ ts, H' D = some (.lst (ts.map V.ref)) ∧ Paired (fun r (row : List Int) => H' r = some (.tup (row.map V.int))) ts (g.take i)) ⟨Ext.one hD, [], upd_same, .nil⟩ (fun i H' _ ⟨e, _⟩ => SqL.of (e _ _ ha)) ?_ ?_
    · rintro i x H1 hx ⟨e1, ts, h1, r1⟩
      obtain ⟨r, hr0, rfl⟩ := map_get hx
      obtain ⟨row, hrow⟩ := get_of_lt (l := g) (i := i) (by rw [← lr]; exact (List.getElem?_eq_some_iff.mp hr0).1)
      have hR := e1 _ _ (paired_get hr' hr0 hrow)
      have hi : i < g.length := (List.getElem?_eq_some_iff.mp hrow).1
      have lt : ts.length = i := by
        rw [paired_len r1, List.length_take]
        omega
      refine ⟨rfl, ?_⟩
      refine ⟨_, rfl, r, _, rfl, .inl ⟨SqL.of hR, fun t nt => ⟨_, (upd_ne (ne_of_none h1 nt)).trans h1, by rw [List.length_map, lt]; show _ < 16777216; omega, (e1.new nt).put hD, ts ++ [t], by rw [upd_same]; simp, ?_⟩⟩⟩
      rw [List.take_add_one, hrow]
      have ntD : t ≠ D := (ne_of_none h1 nt).symm
      refine paired_snoc ?_ (pairedMono (fun a b k => ?_) r1)
      · rw [upd_ne ntD]
        exact upd_same
      · rw [upd_ne (ne_of k h1 (by intro z; cases z)), upd_ne (ne_of_none k nt)]
        exact k
    · rintro H1 ⟨e1, ts, h1, r1⟩
      rw [List.length_map, lr, List.take_length] at r1
      refine ⟨D, _, rfl, .inl ⟨SqL.of h1, fun t nt => ?_⟩⟩
      have e2 : Ext H1 (upd H1 t (.tup (ts.map V.ref))) := Ext.one nt
      exact q t _ (e1.trans e2) (e1.nil nt) ⟨ts, upd_same, pairedMono (fun a b k => e2 _ _ k) r1⟩
/-! ### _law_out -/
theorem scLo : FnScope ["_law_grid", "_law_k"] ["_law_grid"] (defScope (topS 71)) := ⟨rfl, rfl, rfl, by decide +kernel, rfl, by decide +kernel, by decide +kernel⟩
def spLo : Sp := fun vs H Q _ => ∃ (a : Addr) (g : Grid) (n : Nat), vs = [.ref a] ∧ GridT H a g ∧ Sq n g ∧ n ≤ 1000 ∧ ∀ H', Ext H H' → Q (.int (outG g)) H'
theorem cal_lo (T : Txt K mg) : Cal P w K mg base 1 "_law_out" ["_law_grid"] spLo := by
  refine T.def_law_out.cal (fun _ _ _ _ _ _ us hl => match us, hl with | [_], _ => rfl) fun f fd F => F.ok scLo (fun vs H Q E h => ?_) fun cdv A outer s H vs Q E hr h => ?_
  · obtain ⟨a, g, n, rfl, _⟩ := h
    rfl
  · obtain ⟨a, g, n, rfl, hg, hsq, hn, q⟩ := h
    have nd := scLo.nd
    refine ⟨_, PSs.nox (pss_one (ps_ret (pe_callB (cr_sum rfl) (by rfl) T.fr_sum (by decide +kernel) (pa_cons (pe_lc (own := [("_law_k", 1)]) (g := gName 1) (tt := tYes) (te := tOp (rI0 fun i j => .int (i - j)) (tCB (rSumT K) (tCons (tOp (rIxT K) (tVar 0) (tVar 1)) tNil)) (tOp (rIxT K) (tOp (rIxT K) (tVar 0) (tVar 1)) (tVar 1))) rfl nd (pi_range1 rfl T.fr_range (pa_cons (pe_callB call_len_seq (by rfl) T.fr_len PySem.boot_len (pa_cons (pv 0) pa_nil)) pa_nil)) (blkOk_by (N := ["_law_grid", "_law_k"]) (sc := defScope (topS 71)) (by decide +kernel)) (fun _ _ _ _ _ => pg_name (i := 1) nd rfl (Or.inl rfl)) (fun _ _ _ _ _ => pts_nil)
      (fun _ _ _ _ _ => pe_op op_sub (pe_callB (cr_sumT rfl) (by rfl) T.fr_sum (by decide +kernel) (pa_cons (pe_ix ix_tup (pv 0) (pv 1) (fun _ _ => rfl)) pa_nil)) (pe_ix ix_tup (pe_ix ix_tup (pv 0) (pv 1) (fun _ _ => rfl)) (pv 1) (fun _ _ => rfl)))) pa_nil)))), ?_⟩
    obtain ⟨ras, ha, hras, hget⟩ := hg.row
    have lr : (ras.map V.ref).length = g.length := by rw [List.length_map, hras]
    have gn := hsq.1
    refine ⟨_, rfl, a, _, rfl, .inr (SqT.of ha), _, rfl, by rw [lr]; omega, by rw [lr]; omega, fun D hD => ?_⟩
    rw [lr]
    refine lc_range (lo := 0) (n := g.length) (fun i H' => Ext H H' ∧ H' D = some (.lst (((List.range i).map fun k => (g.getD k []).sum - cell g k k).map V.int))) ⟨Ext.one hD, upd_same⟩ ?_ ?_
    · rintro i H1 hi ⟨e1, h1⟩
      rw [Int.zero_add]
      obtain ⟨r, hr0⟩ := get_of_lt (l := ras) (i := i) (by rw [hras]; exact hi)
      obtain ⟨row, hrow, hR⟩ := hget i r hr0
      have hR1 := e1 _ _ hR
      have ha1 := e1 _ _ ha
      obtain ⟨y, hy⟩ := get_of_lt (l := row) (i := i) (by rw [hsq.row hrow]; omega)
      refine ⟨rfl, ?_⟩
      refine ⟨_, rfl, _, rfl, a, _, _, .ref r, rfl, rfl, SqT.of ha1, atI_nat (by rw [List.getElem?_map, hr0]; rfl), r, row, rfl, SqT.of hR1, ?_⟩
      refine ⟨_, rfl, _, rfl, a, _, _, .ref r, rfl, rfl, SqT.of ha1, atI_nat (by rw [List.getElem?_map, hr0]; rfl), _, rfl, r, _, _, .int y, rfl, rfl, SqT.of hR1, atI_nat (by rw [List.getElem?_map, hy]; rfl), _, _, rfl, rfl, _, h1, ?_, e1.put hD, ?_⟩
      · simp only [List.length_map, List.length_range]
        show _ < 16777216
        omega
      · rw [upd_same, List.range_succ]
        simp [cell_of hrow hy, hrow]
    · rintro H1 ⟨e1, h1⟩
      exact ⟨D, _, rfl, SqL.of h1, q H1 e1⟩
end
end K30

namespace K30
open PySem PySem.Spec PyProof.Rows L2
def bumpT (g : Grid) (z : Nat × Nat × Nat) : Grid := bump g z.1 z.2.1 z.2.2
def cs (g : Grid) (p a q b : Nat) : List Grid := if a ≠ b ∧ 0 < cell g p a ∧ 0 < cell g q b then [swapG g p a q b] else []
def sw3 (g : Grid) (p a q : Nat) : List Grid := (List.range g.length).flatMap (cs g p a q)
def sw2 (g : Grid) (p a : Nat) : List Grid := (List.range (g.length - (p + 1))).flatMap fun k => sw3 g p a (p + 1 + k)
def sw1 (g : Grid) (p : Nat) : List Grid := (List.range g.length).flatMap (sw2 g p)
def swapsF (g : Grid) : List Grid := (List.range g.length).flatMap (sw1 g)
def ct (g : Grid) (p q r a b c : Nat) : List Grid := if 0 < cell g p a ∧ 0 < cell g q b ∧ 0 < cell g r c then [turnG g p a q b r c] else []
def tn2 (g : Grid) (p q r a b : Nat) : List Grid := (List.range g.length).flatMap (ct g p q r a b)
def tn1 (g : Grid) (p q r a : Nat) : List Grid := (List.range g.length).flatMap (tn2 g p q r a)
def turnedF (g : Grid) (p q r : Nat) : List Grid := (List.range g.length).flatMap (tn1 g p q r)
theorem fm_succ {α : Type} (f : Nat → List α) (i : Nat) : (List.range (i + 1)).flatMap f = (List.range i).flatMap f ++ f i := by
  rw [List.range_succ, List.flatMap_append]
  simp
theorem GridL.copy {K : PySem.W.Frag} {σ : L2.St} {i : Nat} {H1 : Hp} {a : Addr} {g : Grid} {Qd : Hp → Prop} (hi : i < σ.length) (hg : GridT H1 a g) (hl : g.length ≤ 1000) {D : Addr} (hD : H1 D = none) (hd : ∀ ras H', Ext H1 H' → GridL H1 H' D g ras → Qd H') :
    ∃ W : Nat → Nat → Hp → Prop, (∃ m, W 0 m (upd H1 D (.lst []))) ∧ ∀ i' m H, W i' m H →
      ((Itt K a).stop i' H ∧ Qd H) ∨ ((Itt K a).go i' H ∧ ∃ Nx : Hp → Prop, (∀ H', Nx H' → ∃ m', m' < m ∧ W (i' + 1) m' H') ∧ ∀ x H', (Itt K a).yld i' H x H' → gName i x (wipe σ [i]) H' fun σ2 H2 => wipe σ2 [i] = wipe σ [i] ∧ tYes σ2 H2 fun b H3 =>
        if b = true then tCB (lstR K) (tCons (tVar i) tNil) σ2 H3 fun y H4 => ∃ acc, H4 D = some (.lst acc) ∧ acc.length < sizeLine ∧ Nx (upd H4 D (.lst (acc ++ [y]))) else Nx H3) := by
  obtain ⟨ts, ha, hts, hget⟩ := hg.row
  refine lc_tup (K := K) (a := a) (xs := ts.map V.ref) (fun j H' => Ext H1 H' ∧ ∃ ras, H' D = some (.lst (ras.map V.ref)) ∧ ras.Nodup ∧ D ∉ ras ∧ (∀ r ∈ ras, H1 r = none) ∧ Paired (fun r (row : List Int) => H' r = some (.lst (row.map V.int))) ras (g.take j)) ⟨Ext.one hD, [], upd_same, List.nodup_nil, by simp, by simp, .nil⟩ (fun j H' _ ⟨e, _⟩ => SqT.of (e _ _ ha)) ?_ ?_
  · rintro j x H2 hx ⟨e2, ras, h2, nd2, na2, fr2, r2⟩
    obtain ⟨t, ht, rfl⟩ := map_get hx
    obtain ⟨row, hrow, hR⟩ := hget j t ht
    have hj : j < g.length := (List.getElem?_eq_some_iff.mp hrow).1
    have lr : ras.length = j := by
      rw [paired_len r2, List.length_take]
      omega
    refine ⟨?_, ?_⟩
    · show ((σ.set i none).set i (some (.ref t))).set i none = σ.set i none
      rw [List.set_set, List.set_set]
    · show ∃ v, ((σ.set i none).set i (some (.ref t)))[i]? = some (some v) ∧ _
      refine ⟨.ref t, by rw [List.getElem?_set_self (by simpa using hi)], t, _, rfl, .inr (SqT.of (e2 _ _ hR)), fun l nl => ⟨_, (upd_ne (ne_of_none h2 nl)).trans h2, by rw [List.length_map, lr]; show _ < 16777216; omega, (e2.new nl).put hD, ras ++ [l], by rw [upd_same]; simp, ?_, ?_, ?_, ?_⟩⟩
      · have nin : l ∉ ras := fun hm => by
          obtain ⟨q, hq⟩ := List.mem_iff_getElem?.mp hm
          obtain ⟨rw', hrw'⟩ := get_of_lt (l := g.take j) (i := q) (by rw [← paired_len r2]; exact (List.getElem?_eq_some_iff.mp hq).1)
          have := paired_get r2 hq hrw'
          rw [nl] at this
          cases this
        rw [List.nodup_append]
        exact ⟨nd2, by simp, fun a ha b hb => by rw [List.mem_singleton] at hb; intro e; rw [e, hb] at ha; exact nin ha⟩
      · have : D ≠ l := ne_of_none h2 nl
        simp [na2, this]
      · intro r hr
        rcases List.mem_append.mp hr with hr | hr
        · exact fr2 r hr
        · rw [List.mem_singleton] at hr
          rw [hr]
          exact e2.nil nl
      · rw [List.take_add_one, hrow]
        have nlD : l ≠ D := (ne_of_none h2 nl).symm
        refine paired_snoc (by rw [upd_ne nlD]; exact upd_same) (paired_memL r2 fun a b hm k => ?_)
        rw [upd_ne (fun e => na2 (by rw [← e]; exact hm)), upd_ne (ne_of_none k nl)]
        exact k
  · rintro H2 ⟨e2, ras, h2, nd2, na2, fr2, r2⟩
    rw [List.length_map, hts, List.take_length] at r2
    exact hd ras H2 e2 ⟨h2, hD, nd2, na2, fr2, r2⟩
abbrev TripsV (H : Hp) : List Addr → List (Nat × Nat × Nat) → Prop := Paired fun u z => H u = some (.tup [nV z.1, nV z.2.1, nV z.2.2])
section
variable {P : Program} {w : World} {K : PySem.W.Frag} {mg : Str → Option Value} {base : Heap}

/-! ### _law_swaps_from -/
abbrev nSw : List Str := ["_law_grid", "_law_found", "_law_size", "_law_p", "_law_a", "_law_q", "_law_b", "_law_later", "_law_r", "_law_goes", "_law_comes", "_law_row"]
theorem scSw : FnScope nSw ["_law_grid"] (defScope (topS 72)) := ⟨rfl, rfl, rfl, by decide +kernel, rfl, by decide +kernel, by decide +kernel⟩
def spSw : Sp := fun vs H Q _ => ∃ (a0 : Addr) (g : Grid), vs = [.ref a0] ∧ GridT H a0 g ∧ Sq g.length g ∧ g.length ≤ 4 ∧ ∀ F fs H', Ext H H' → H F = none → H' F = some (.lst (fs.map V.ref)) → GridsT H' fs (swapsF g) → fs.length ≤ 256 → Q (.ref F) H'
theorem cal_sw (T : Txt K mg) : Cal P w K mg base 2 "_law_swaps_from" ["_law_grid"] spSw := by
  refine T.def_law_swaps_from.cal (fun _ _ _ _ _ _ us hl => match us, hl with | [_], _ => rfl) fun f fd F => F.ok scSw (fun vs H Q E h => ?_) fun cdv A outer s H vs Q E hr h => ?_
  · obtain ⟨a0, g, rfl, _⟩ := h
    rfl
  · obtain ⟨a0, g, rfl, hg, hsq, h4, q⟩ := h
    have nd := scSw.nd
    obtain ⟨ts, hA0, hts, hget⟩ := hg.row
    refine ⟨_, PSs.nox (pss_cons (ps_par (i := 1) (j := 2) (by rfl) nd rfl rfl (by decide) rfl rfl (pa_cons (pe_lst pa_nil) (pa_cons (pe_callB call_len_seq (by rfl) T.fr_len PySem.boot_len (pa_cons (pv 0) pa_nil)) pa_nil)) (by rfl))
      (pss_cons (ps_for PassesOwn.never rfl (pi_range1 rfl T.fr_range (pa_cons (pv 2) pa_nil)) (pg_name (i := 3) nd rfl (Or.inl rfl)) (pss_one (ps_for PassesOwn.never rfl (pi_range1 rfl T.fr_range (pa_cons (pv 2) pa_nil)) (pg_name (i := 4) nd rfl (Or.inl rfl)) (pss_one (ps_for PassesOwn.never rfl (pi_range2 (by rfl) T.fr_range (pa_cons (pe_op op_add (pv 3) pe_int) (pa_cons (pv 2) pa_nil))) (pg_name (i := 5) nd rfl (Or.inl rfl)) (pss_one (ps_for PassesOwn.never rfl (pi_range1 rfl T.fr_range (pa_cons (pv 2) pa_nil)) (pg_name (i := 6) nd rfl (Or.inl rfl)) (pss_one (ps_if (PW.pt (pw_and (pt_cmpR op_ne (pv 4) (pv 6) (nomark _)) (pw_and (pt_cmpR op_gt (pe_ix ix_tup (pe_ix ix_tup (pv 0) (pv 3) (fun _ _ => rfl)) (pv 4) (fun _ _ => rfl)) pe_int (nomark _)) (pw_and1 (pt_cmpR op_gt (pe_ix ix_tup (pe_ix ix_tup (pv 0) (pv 5) (fun _ _ => rfl)) (pv 6) (fun _ _ => rfl)) pe_int (nomark _))))))
        (pss_cons (ps_setLc (i := 7) (own := [("_law_row", 11)]) (g := gName 11) (tt := tYes) (te := tCB (lstR K) (tCons (tVar 11) tNil)) rfl nd rfl rfl (sw_true rfl rfl rfl (by decide +kernel)) (pi_tup (pv 0)) (blkOk_by (N := nSw) (sc := defScope (topS 72)) (by decide +kernel)) (fun _ _ _ _ _ => pg_name (i := 11) nd rfl (Or.inl rfl)) (fun _ _ _ _ _ => pts_nil) (fun _ _ _ _ _ => pe_callTy call_list_of (by rfl) T.fr_list (by decide +kernel) (pa_cons (pv 11) pa_nil)))
        (pss_cons (ps_for PassesOwn.never rfl (pi_list (pe_lst (pa_cons (pe_tup (pa_cons (pv 3) (pa_cons (pv 4) (pa_cons (pv 6) pa_nil)))) (pa_cons (pe_tup (pa_cons (pv 5) (pa_cons (pv 6) (pa_cons (pv 4) pa_nil)))) pa_nil)))) (pg_tup rfl (pgs_cons (pg_name (i := 8) nd rfl (Or.inl rfl)) (pgs_cons (pg_name (i := 9) nd rfl (Or.inl rfl)) (pgs_cons (pg_name (i := 10) nd rfl (Or.inl rfl)) pgs_nil)))) (pss_cons (ps_asg (pe_op op_sub (pe_ix ix_list (pe_ix ix_list (pv 7) (pv 8) (fun _ _ => rfl)) (pv 9) (fun _ _ => rfl)) pe_int) (pg_sub (pe_ix ix_list (pv 7) (pv 8) (fun _ _ => rfl)) (pv 9) set_list)) (pss_one (ps_asg (pe_op op_add (pe_ix ix_list (pe_ix ix_list (pv 7) (pv 8) (fun _ _ => rfl)) (pv 10) (fun _ _ => rfl)) pe_int) (pg_sub (pe_ix ix_list (pv 7) (pv 8) (fun _ _ => rfl)) (pv 10) set_list)))))
        (pss_one (ps_expr (pe_bm PySem.F.plainAttrs_list PySem.F.slot_list_append PySem.F.type_list_append mt_append (pv 1) (pa_cons (pe_cal (cal_fz T) hr rfl (pa_cons (pv 7) pa_nil)) pa_nil)))))) pss_nil))))))))) (pss_one (ps_ret (pv 1))))), ?_⟩
    refine ⟨by decide, fun F nF => ?_⟩
    generalize hu1 : upd H F _ = H1
    obtain ⟨hF, c1⟩ := upd_eq hu1
    have e : Ext H H1 := Ext.refl.chg nF c1
    refine ⟨_, rfl, a0, _, rfl, .inr (SqT.of (e _ _ hA0)), _, _, rfl, ?_⟩
    rw [List.length_map, hts]
    obtain ⟨fs, efs⟩ : ∃ fs : List Addr, fs = [] := ⟨_, rfl⟩
    have gs : GridsT H1 fs [] := by
      rw [efs]
      exact .nil
    have lf : fs.length = 0 := by rw [efs]; rfl
    replace hF : H1 F = some (.lst (fs.map V.ref)) := by
      rw [hF, efs]
      rfl
    refine ⟨_, rfl, _, rfl, by omega, by omega, ?_⟩
    refine for_range (lo := 0) (n := g.length) (fun i σ H' => ∃ z3 z4 z5 z6 z7 z8 z9 z10 fs, σ = [some (.ref a0), some (.ref F), some (nV g.length), z3, z4, z5, z6, z7, z8, z9, z10, none] ∧ Ext H H' ∧ H' F = some (.lst (fs.map V.ref)) ∧ GridsT H' fs ((List.range i).flatMap (sw1 g)) ∧ fs.length ≤ 64 * i) ⟨none, none, none, none, none, none, none, none, fs, rfl, e, hF, by simpa using gs, by omega⟩ ?_ ?_
    · rintro p σ H2 hp ⟨z3, z4, z5, z6, z7, z8, z9, z10, fs, eσ, e, hF, gs, lf⟩
      subst eσ
      rw [Int.zero_add]
      refine ⟨_, rfl, _, rfl, by omega, by omega, ?_⟩
      refine for_range (lo := 0) (n := g.length) (fun i σ H' => ∃ z4 z5 z6 z7 z8 z9 z10 fs, σ = [some (.ref a0), some (.ref F), some (nV g.length), some (nV p), z4, z5, z6, z7, z8, z9, z10, none] ∧ Ext H H' ∧ H' F = some (.lst (fs.map V.ref)) ∧ GridsT H' fs (((List.range p).flatMap (sw1 g)) ++ (List.range i).flatMap (sw2 g p)) ∧ fs.length ≤ 64 * p + 16 * i) ⟨z4, z5, z6, z7, z8, z9, z10, fs, rfl, e, hF, by simpa using gs, by omega⟩ ?_ ?_
      · rintro a σ H3 ha ⟨z4, z5, z6, z7, z8, z9, z10, fs, eσ, e, hF, gs, lf⟩
        subst eσ
        rw [Int.zero_add]
        refine ⟨_, rfl, _, _, rfl, rfl, _, rfl, _, _, rfl, ⟨by omega, by omega, by omega, by omega⟩, ?_⟩
        rw [show (((g.length : Int) - ((p : Int) + 1)).toNat) = g.length - (p + 1) by omega]
        refine for_range (lo := (p : Int) + 1) (n := (g.length - (p + 1))) (fun i σ H' => ∃ z5 z6 z7 z8 z9 z10 fs, σ = [some (.ref a0), some (.ref F), some (nV g.length), some (nV p), some (nV a), z5, z6, z7, z8, z9, z10, none] ∧ Ext H H' ∧ H' F = some (.lst (fs.map V.ref)) ∧ GridsT H' fs ((((List.range p).flatMap (sw1 g)) ++ (List.range a).flatMap (sw2 g p)) ++ (List.range i).flatMap (fun k => sw3 g p a (p + 1 + k))) ∧ fs.length ≤ 64 * p + 16 * a + 4 * i) ⟨z5, z6, z7, z8, z9, z10, fs, rfl, e, hF, by simpa using gs, by omega⟩ ?_ ?_
        · rintro k σ H4 hk ⟨z5, z6, z7, z8, z9, z10, fs, eσ, e, hF, gs, lf⟩
          subst eσ
          rw [show (p : Int) + 1 + (k : Int) = ((p + 1 + k : Nat) : Int) by omega]
          refine ⟨_, rfl, _, rfl, by omega, by omega, ?_⟩
          refine for_range (lo := 0) (n := g.length) (fun i σ H' => ∃ z6 z7 z8 z9 z10 fs, σ = [some (.ref a0), some (.ref F), some (nV g.length), some (nV p), some (nV a), some (nV (p + 1 + k)), z6, z7, z8, z9, z10, none] ∧ Ext H H' ∧ H' F = some (.lst (fs.map V.ref)) ∧ GridsT H' fs (((((List.range p).flatMap (sw1 g)) ++ (List.range a).flatMap (sw2 g p)) ++ (List.range k).flatMap (fun k => sw3 g p a (p + 1 + k))) ++ (List.range i).flatMap (cs g p a (p + 1 + k))) ∧ fs.length ≤ 64 * p + 16 * a + 4 * k + 1 * i) ⟨z6, z7, z8, z9, z10, fs, rfl, e, hF, by simpa using gs, by omega⟩ ?_ ?_
          · rintro b σ H5 hb ⟨z6, z7, z8, z9, z10, fs, eσ, e, hF, gs, lf⟩
            subst eσ
            rw [Int.zero_add]
            have none_ : cs g p a (p + 1 + k) b = [] → ∃ z6' z7' z8' z9' z10' fs', ([some (V.ref a0), some (V.ref F), some (nV g.length), some (nV p), some (nV a), some (nV (p + 1 + k)), some (nV b), z7, z8, z9, z10, none] : L2.St) = [some (V.ref a0), some (V.ref F), some (nV g.length), some (nV p), some (nV a), some (nV (p + 1 + k)), z6', z7', z8', z9', z10', none] ∧ Ext H H5 ∧ H5 F = some (.lst (fs'.map V.ref)) ∧ GridsT H5 fs' ((((List.range p).flatMap (sw1 g) ++ (List.range a).flatMap (sw2 g p)) ++ (List.range k).flatMap (fun k => sw3 g p a (p + 1 + k))) ++ (List.range (b + 1)).flatMap (cs g p a (p + 1 + k))) ∧ fs'.length ≤ 64 * p + 16 * a + 4 * k + 1 * (b + 1) := by
              intro h0
              refine ⟨_, _, _, _, _,  fs, rfl, e, hF, ?_, by omega⟩
              rw [fm_succ, h0, List.append_nil]
              exact gs
            obtain ⟨tA, htA⟩ := get_of_lt (l := ts) (i := p) (by rw [hts]; omega)
            obtain ⟨wA, hwA, hTA⟩ := hget p tA htA
            obtain ⟨xA, hxA⟩ := get_of_lt (l := wA) (i := a) (by rw [hsq.row hwA]; omega)
            have hcA : cell g p a = xA := cell_of hwA hxA
            obtain ⟨tB, htB⟩ := get_of_lt (l := ts) (i := (p + 1 + k)) (by rw [hts]; omega)
            obtain ⟨wB, hwB, hTB⟩ := hget (p + 1 + k) tB htB
            obtain ⟨xB, hxB⟩ := get_of_lt (l := wB) (i := b) (by rw [hsq.row hwB]; omega)
            have hcB : cell g (p + 1 + k) b = xB := cell_of hwB hxB
            refine ⟨_, rfl, _, rfl, rfl, _, rfl, ?_⟩
            by_cases hab : a = b
            · refine iteNS (congrArg nV hab) (iteF (none_ ?_))
              unfold cs
              rw [if_neg (fun c => c.1 hab)]
            rw [show decide (nV a = nV b) = false from decide_eq_false (fun c => hab (by injection c with c; omega))]
            refine iteT ?_
            refine ⟨_, rfl, _, rfl, a0, _, _, .ref tA, rfl, rfl, SqT.of (e _ _ hA0), atI_nat (by rw [List.getElem?_map, htA]; rfl), _, rfl, tA, _, _, .int xA, rfl, rfl, SqT.of (e _ _ hTA), atI_nat (by rw [List.getElem?_map, hxA]; rfl), _, _, rfl, rfl, _, rfl, ?_⟩
            by_cases h0A : 0 < xA
            case neg =>
              refine iteN h0A (iteF <| none_ ?_)
              unfold cs
              rw [if_neg (fun c => h0A (by have := c.2.1; omega))]
            refine iteD h0A ?_
            refine ⟨_, rfl, _, rfl, a0, _, _, .ref tB, rfl, rfl, SqT.of (e _ _ hA0), atI_nat (by rw [List.getElem?_map, htB]; rfl), _, rfl, tB, _, _, .int xB, rfl, rfl, SqT.of (e _ _ hTB), atI_nat (by rw [List.getElem?_map, hxB]; rfl), _, _, rfl, rfl, _, rfl, ?_⟩
            by_cases h0B : 0 < xB
            case neg =>
              refine iteN h0B (none_ ?_)
              unfold cs
              rw [if_neg (fun c => h0B (by have := c.2.2; omega))]
            refine iteD h0B ?_
            have some_ : cs g p a (p + 1 + k) b = [swapG g p a (p + 1 + k) b] := by
              unfold cs
              rw [if_pos ⟨hab, by rw [hcA]; exact h0A, by rw [hcB]; exact h0B⟩]
            refine ⟨_, rfl, a0, rfl, ⟨_, SqT.of (e _ _ hA0)⟩, fun D hD => ?_⟩
            refine GridL.copy (by show 11 < 12; decide) (hg.ext e) (by omega) hD fun ras J0 f0 gl0 => ?_
            refine ⟨_, rfl, _, rfl, _, rfl, (by show 3 ≤ 16777216; decide), fun u0 nu0 => ?_⟩
            generalize hj0 : upd J0 u0 _ = J1
            obtain ⟨k0, c0⟩ := upd_eq hj0
            have f1 : Ext J0 J1 := Ext.refl.chg nu0 c0
            refine ⟨_, rfl, _, rfl, _, rfl, (by show 3 ≤ 16777216; decide), fun u1 nu1 => ?_⟩
            generalize hj1 : upd J1 u1 _ = J2
            obtain ⟨k1, c1⟩ := upd_eq hj1
            have f2 : Ext J1 J2 := Ext.refl.chg nu1 c1
            refine ⟨(by show 2 ≤ 16777216; decide), fun L nL => ?_⟩
            generalize hjl : upd J2 L _ = JL
            obtain ⟨kL, cL⟩ := upd_eq hjl
            have fL : Ext J2 JL := Ext.refl.chg nL cL
            have fA : Ext J0 JL := (f1.trans f2).trans fL
            have trV : TripsV JL [u0, u1] [(p, a, b), (p + 1 + k, b, a)] := .cons (fL _ _ (f2 _ _ k0)) (.cons (fL _ _ k1) (.nil))
            have trB : ∀ z ∈ ([(p, a, b), (p + 1 + k, b, a)] : List (Nat × Nat × Nat)), z.1 < g.length ∧ z.2.1 < g.length ∧ z.2.2 < g.length := by
              intro z hz
              simp only [List.mem_cons, List.not_mem_nil, or_false] at hz
              rcases hz with rfl | rfl <;> exact ⟨by omega, by omega, by omega⟩
            have nLr : ∀ r ∈ ras, L ≠ r := fun r hr => by
              obtain ⟨j, hj⟩ := List.mem_iff_getElem?.mp hr
              obtain ⟨row, hrow⟩ := get_of_lt (l := g) (i := j) (by rw [← paired_len gl0.rows]; exact (List.getElem?_eq_some_iff.mp hj).1)
              exact (ne_of_none ((f1.trans f2) _ _ (paired_get gl0.rows hj hrow)) nL).symm
            refine ⟨L, rfl, ⟨_, SqL.of kL⟩, ?_⟩
            refine for_list (xs := [u0, u1].map V.ref) (fun j σ H' => ∃ z8 z9 z10 g', σ = [some (.ref a0), some (.ref F), some (nV g.length), some (nV p), some (nV a), some (nV (p + 1 + k)), some (nV b), some (.ref D), z8, z9, z10, none] ∧ Ext H5 H' ∧ GridL H5 H' D g' ras ∧ Sq g.length g' ∧ (([(p, a, b), (p + 1 + k, b, a)] : List (Nat × Nat × Nat)).drop j).foldl bumpT g' = swapG g p a (p + 1 + k) b ∧ H' L = some (.lst ([u0, u1].map V.ref)) ∧ TripsV H' [u0, u1] [(p, a, b), (p + 1 + k, b, a)]) ⟨_, _, _, g, rfl, f0.trans fA, gl0.ext fA, hsq, rfl, kL, trV⟩ (fun j σ H' _ ⟨_, _, _, _, _, _, _, _, _, h, _⟩ => SqL.of h) ?_ ?_
            · rintro j x σ J hx ⟨z8, z9, z10, g', eσ, eJ, gJ, sqJ, fJ, hL, tV⟩
              subst eσ
              obtain ⟨u, hu, rfl⟩ := map_get hx
              obtain ⟨z, hz⟩ := get_of_lt (l := [(p, a, b), (p + 1 + k, b, a)]) (i := j) (by rw [← paired_len tV]; exact (List.getElem?_eq_some_iff.mp hu).1)
              have hU : J u = some (.tup [nV z.1, nV z.2.1, nV z.2.2]) := paired_get tV hu hz
              obtain ⟨b1, b2, b3⟩ := trB z (List.mem_of_getElem? hz)
              rw [drop_cons hz, List.foldl_cons] at fJ
              refine ⟨u, _, rfl, SqT.of hU, rfl, _, _, rfl, _, _, rfl, _, _, rfl, rfl, ?_⟩
              obtain ⟨ro1, row1, hro1, hrow1, hRow1, hro01, upg1⟩ := gJ.at_ (p := z.1) (by rw [sqJ.1]; exact b1)
              obtain ⟨y1, hy1⟩ := get_of_lt (l := row1) (i := z.2.1) (by rw [sqJ.row hrow1]; exact b2)
              refine ⟨_, rfl, _, rfl, D, _, _, .ref ro1, rfl, rfl, SqL.of gJ.top, atI_nat (by rw [List.getElem?_map, hro1]; rfl), _, rfl, ro1, _, _, .int y1, rfl, rfl, SqL.of hRow1, atI_nat (by rw [List.getElem?_map, hy1]; rfl), _, _, rfl, rfl, ?_⟩
              refine ⟨_, rfl, _, rfl, D, _, _, .ref ro1, rfl, rfl, SqL.of gJ.top, atI_nat (by rw [List.getElem?_map, hro1]; rfl), _, rfl, ro1, _, _, z.2.1, rfl, rfl, hRow1, ixN_of (by rw [List.length_map, sqJ.row hrow1]; exact b2), ?_⟩
              rw [set_map]
              generalize hm1 : upd J ro1 _ = M1
              obtain ⟨m1, d1⟩ := upd_eq hm1
              have gM : GridL H5 M1 D (setCell g' z.1 z.2.1 (cell g' z.1 z.2.1 - 1)) ras := by
                rw [cell_of hrow1 hy1]
                exact upg1 z.2.1 (y1 - 1) M1 m1 d1
              have sqM : Sq g.length (setCell g' z.1 z.2.1 (cell g' z.1 z.2.1 - 1)) := Sq.set sqJ
              obtain ⟨ro2, row2, hro2, hrow2, hRow2, hro02, upg2⟩ := gM.at_ (p := z.1) (by rw [sqM.1]; exact b1)
              obtain ⟨y2, hy2⟩ := get_of_lt (l := row2) (i := z.2.2) (by rw [sqM.row hrow2]; exact b3)
              refine ⟨_, rfl, _, rfl, D, _, _, .ref ro2, rfl, rfl, SqL.of gM.top, atI_nat (by rw [List.getElem?_map, hro2]; rfl), _, rfl, ro2, _, _, .int y2, rfl, rfl, SqL.of hRow2, atI_nat (by rw [List.getElem?_map, hy2]; rfl), _, _, rfl, rfl, ?_⟩
              refine ⟨_, rfl, _, rfl, D, _, _, .ref ro2, rfl, rfl, SqL.of gM.top, atI_nat (by rw [List.getElem?_map, hro2]; rfl), _, rfl, ro2, _, _, z.2.2, rfl, rfl, hRow2, ixN_of (by rw [List.length_map, sqM.row hrow2]; exact b3), ?_⟩
              rw [set_map]
              generalize hm2 : upd M1 ro2 _ = M2
              obtain ⟨m2, d2⟩ := upd_eq hm2
              refine ⟨_, _, _,  bumpT g' z, rfl, (eJ.chg hro01 d1).chg hro02 d2, ?_, Sq.set sqM, fJ, ?_, ?_⟩
              · unfold bumpT bump
                rw [cell_of hrow2 hy2]
                exact upg2 z.2.2 (y2 + 1) M2 m2 d2
              · exact (d2 L (nLr _ (List.mem_of_getElem? hro2))).trans ((d1 L (nLr _ (List.mem_of_getElem? hro1))).trans hL)
              · exact pairedMono (fun a b k => by
                  have k1 := (d1 a (ne_of k hRow1 (by intro z; cases z))).trans k
                  exact (d2 a (ne_of k1 hRow2 (by intro z; cases z))).trans k1) tV
            · rintro σ J ⟨z8, z9, z10, g', eσ, eJ, gJ, sqJ, fJ, hL, tV⟩
              subst eσ
              have eg : g' = swapG g p a (p + 1 + k) b := fJ
              rw [eg] at gJ sqJ
              have hFJ := eJ _ _ hF
              refine ⟨_, rfl, .inl ⟨rfl, _, SqL.of hFJ⟩, _, rfl, D, _, ras, rfl, gJ.top, gJ.rows, by rw [sqJ.1]; omega, fun t JT eT nt gT => ⟨F, _, _, rfl, rfl, eT _ _ hFJ, by rw [List.length_map]; show _ < 16777216; omega, ?_⟩⟩
              generalize hjf : upd JT F _ = JF
              obtain ⟨kF, cF⟩ := upd_eq hjf
              have hFT := eT _ _ hFJ
              have kp : ∀ b xs, JT b = some (.tup xs) → JF b = some (.tup xs) := fun b xs h => (cF b (ne_of h hFT (by intro z; cases z))).trans h
              refine ⟨_, _, _, _, _,  fs ++ [t], rfl, ((e.trans eJ).trans eT).chg nF cF, by rw [kF]; simp, ?_, by simp; omega⟩
              rw [fm_succ, some_, ← List.append_assoc]
              exact paired_snoc (gT.keep kp) (pairedMono (fun a b k => (k.ext (eJ.trans eT)).keep kp) gs)
          · rintro σ H5 ⟨z6, z7, z8, z9, z10, fs, eσ, e, hF, gs, lf⟩
            subst eσ
            refine ⟨_, _, _, _, _, _, fs, rfl, e, hF, ?_, by omega⟩
            rw [fm_succ, ← List.append_assoc]
            exact gs
        · rintro σ H4 ⟨z5, z6, z7, z8, z9, z10, fs, eσ, e, hF, gs, lf⟩
          subst eσ
          refine ⟨_, _, _, _, _, _, _, fs, rfl, e, hF, ?_, by omega⟩
          rw [fm_succ, ← List.append_assoc]
          exact gs
      · rintro σ H3 ⟨z4, z5, z6, z7, z8, z9, z10, fs, eσ, e, hF, gs, lf⟩
        subst eσ
        refine ⟨_, _, _, _, _, _, _, _, fs, rfl, e, hF, ?_, by omega⟩
        rw [fm_succ]
        exact gs
    · rintro σ H2 ⟨z3, z4, z5, z6, z7, z8, z9, z10, fs, eσ, e, hF, gs, lf⟩
      subst eσ
      exact ⟨_, rfl, q F fs H2 e nF hF gs (by omega)⟩
/-! ### _law_turned -/
abbrev nTn : List Str := ["_law_grid", "_law_p", "_law_q", "_law_r", "_law_found", "_law_size", "_law_a", "_law_b", "_law_c", "_law_later", "_law_spot", "_law_goes", "_law_comes", "_law_row"]
theorem scTn : FnScope nTn ["_law_grid", "_law_p", "_law_q", "_law_r"] (defScope (topS 74)) := ⟨rfl, rfl, rfl, by decide +kernel, rfl, by decide +kernel, by decide +kernel⟩
def spTn : Sp := fun vs H Q _ => ∃ (a0 : Addr) (g : Grid) (p q' r : Nat), vs = [.ref a0, nV p, nV q', nV r] ∧ GridT H a0 g ∧ Sq g.length g ∧ g.length ≤ 4 ∧ p < g.length ∧ q' < g.length ∧ r < g.length ∧ ∀ F fs H', Ext H H' → H F = none → H' F = some (.lst (fs.map V.ref)) → GridsT H' fs (turnedF g p q' r) → fs.length ≤ 64 → Q (.ref F) H'
theorem cal_tn (T : Txt K mg) : Cal P w K mg base 2 "_law_turned" ["_law_grid", "_law_p", "_law_q", "_law_r"] spTn := by
  refine T.def_law_turned.cal (fun _ _ _ _ _ _ us hl => match us, hl with | [_, _, _, _], _ => rfl) fun f fd F => F.ok scTn (fun vs H Q E h => ?_) fun cdv A outer s H vs Q E hr h => ?_
  · obtain ⟨a0, g, p, q', r, rfl, _⟩ := h
    rfl
  · obtain ⟨a0, g, p, q, r, rfl, hg, hsq, h4, hp, hq, hr', q64⟩ := h
    have nd := scTn.nd
    obtain ⟨ts, hA0, hts, hget⟩ := hg.row
    refine ⟨_, PSs.nox (pss_cons (ps_par (i := 4) (j := 5) (by rfl) nd rfl rfl (by decide) rfl rfl (pa_cons (pe_lst pa_nil) (pa_cons (pe_callB call_len_seq (by rfl) T.fr_len PySem.boot_len (pa_cons (pv 0) pa_nil)) pa_nil)) (by rfl))
      (pss_cons (ps_for PassesOwn.never rfl (pi_range1 rfl T.fr_range (pa_cons (pv 5) pa_nil)) (pg_name (i := 6) nd rfl (Or.inl rfl)) (pss_one (ps_for PassesOwn.never rfl (pi_range1 rfl T.fr_range (pa_cons (pv 5) pa_nil)) (pg_name (i := 7) nd rfl (Or.inl rfl)) (pss_one (ps_for PassesOwn.never rfl (pi_range1 rfl T.fr_range (pa_cons (pv 5) pa_nil)) (pg_name (i := 8) nd rfl (Or.inl rfl)) (pss_one (ps_if (PW.pt (pw_and (pt_cmpR op_gt (pe_ix ix_tup (pe_ix ix_tup (pv 0) (pv 1) (fun _ _ => rfl)) (pv 6) (fun _ _ => rfl)) pe_int (nomark _)) (pw_and (pt_cmpR op_gt (pe_ix ix_tup (pe_ix ix_tup (pv 0) (pv 2) (fun _ _ => rfl)) (pv 7) (fun _ _ => rfl)) pe_int (nomark _)) (pw_and1 (pt_cmpR op_gt (pe_ix ix_tup (pe_ix ix_tup (pv 0) (pv 3) (fun _ _ => rfl)) (pv 8) (fun _ _ => rfl)) pe_int (nomark _))))))
        (pss_cons (ps_setLc (i := 9) (own := [("_law_row", 13)]) (g := gName 13) (tt := tYes) (te := tCB (lstR K) (tCons (tVar 13) tNil)) rfl nd rfl rfl (sw_true rfl rfl rfl (by decide +kernel)) (pi_tup (pv 0)) (blkOk_by (N := nTn) (sc := defScope (topS 74)) (by decide +kernel)) (fun _ _ _ _ _ => pg_name (i := 13) nd rfl (Or.inl rfl)) (fun _ _ _ _ _ => pts_nil) (fun _ _ _ _ _ => pe_callTy call_list_of (by rfl) T.fr_list (by decide +kernel) (pa_cons (pv 13) pa_nil)))
        (pss_cons (ps_for PassesOwn.never rfl (pi_list (pe_lst (pa_cons (pe_tup (pa_cons (pv 1) (pa_cons (pv 6) (pa_cons (pv 8) pa_nil)))) (pa_cons (pe_tup (pa_cons (pv 2) (pa_cons (pv 7) (pa_cons (pv 6) pa_nil)))) (pa_cons (pe_tup (pa_cons (pv 3) (pa_cons (pv 8) (pa_cons (pv 7) pa_nil)))) pa_nil))))) (pg_tup rfl (pgs_cons (pg_name (i := 10) nd rfl (Or.inl rfl)) (pgs_cons (pg_name (i := 11) nd rfl (Or.inl rfl)) (pgs_cons (pg_name (i := 12) nd rfl (Or.inl rfl)) pgs_nil)))) (pss_cons (ps_asg (pe_op op_sub (pe_ix ix_list (pe_ix ix_list (pv 9) (pv 10) (fun _ _ => rfl)) (pv 11) (fun _ _ => rfl)) pe_int) (pg_sub (pe_ix ix_list (pv 9) (pv 10) (fun _ _ => rfl)) (pv 11) set_list)) (pss_one (ps_asg (pe_op op_add (pe_ix ix_list (pe_ix ix_list (pv 9) (pv 10) (fun _ _ => rfl)) (pv 12) (fun _ _ => rfl)) pe_int) (pg_sub (pe_ix ix_list (pv 9) (pv 10) (fun _ _ => rfl)) (pv 12) set_list)))))
        (pss_one (ps_expr (pe_bm PySem.F.plainAttrs_list PySem.F.slot_list_append PySem.F.type_list_append mt_append (pv 4) (pa_cons (pe_cal (cal_fz T) hr rfl (pa_cons (pv 9) pa_nil)) pa_nil)))))) pss_nil))))))) (pss_one (ps_ret (pv 4))))), ?_⟩
    refine ⟨by decide, fun F nF => ?_⟩
    generalize hu1 : upd H F _ = H1
    obtain ⟨hF, c1⟩ := upd_eq hu1
    have e : Ext H H1 := Ext.refl.chg nF c1
    refine ⟨_, rfl, a0, _, rfl, .inr (SqT.of (e _ _ hA0)), _, _, rfl, ?_⟩
    rw [List.length_map, hts]
    obtain ⟨fs, efs⟩ : ∃ fs : List Addr, fs = [] := ⟨_, rfl⟩
    have gs : GridsT H1 fs [] := by
      rw [efs]
      exact .nil
    have lf : fs.length = 0 := by rw [efs]; rfl
    replace hF : H1 F = some (.lst (fs.map V.ref)) := by
      rw [hF, efs]
      rfl
    refine ⟨_, rfl, _, rfl, by omega, by omega, ?_⟩
    refine for_range (lo := 0) (n := g.length) (fun i σ H' => ∃ z6 z7 z8 z9 z10 z11 z12 fs, σ = [some (.ref a0), some (nV p), some (nV q), some (nV r), some (.ref F), some (nV g.length), z6, z7, z8, z9, z10, z11, z12, none] ∧ Ext H H' ∧ H' F = some (.lst (fs.map V.ref)) ∧ GridsT H' fs ((List.range i).flatMap (tn1 g p q r)) ∧ fs.length ≤ 16 * i) ⟨none, none, none, none, none, none, none, fs, rfl, e, hF, by simpa using gs, by omega⟩ ?_ ?_
    · rintro a σ H2 ha ⟨z6, z7, z8, z9, z10, z11, z12, fs, eσ, e, hF, gs, lf⟩
      subst eσ
      rw [Int.zero_add]
      refine ⟨_, rfl, _, rfl, by omega, by omega, ?_⟩
      refine for_range (lo := 0) (n := g.length) (fun i σ H' => ∃ z7 z8 z9 z10 z11 z12 fs, σ = [some (.ref a0), some (nV p), some (nV q), some (nV r), some (.ref F), some (nV g.length), some (nV a), z7, z8, z9, z10, z11, z12, none] ∧ Ext H H' ∧ H' F = some (.lst (fs.map V.ref)) ∧ GridsT H' fs (((List.range a).flatMap (tn1 g p q r)) ++ (List.range i).flatMap (tn2 g p q r a)) ∧ fs.length ≤ 16 * a + 4 * i) ⟨z7, z8, z9, z10, z11, z12, fs, rfl, e, hF, by simpa using gs, by omega⟩ ?_ ?_
      · rintro b σ H3 hb ⟨z7, z8, z9, z10, z11, z12, fs, eσ, e, hF, gs, lf⟩
        subst eσ
        rw [Int.zero_add]
        refine ⟨_, rfl, _, rfl, by omega, by omega, ?_⟩
        refine for_range (lo := 0) (n := g.length) (fun i σ H' => ∃ z8 z9 z10 z11 z12 fs, σ = [some (.ref a0), some (nV p), some (nV q), some (nV r), some (.ref F), some (nV g.length), some (nV a), some (nV b), z8, z9, z10, z11, z12, none] ∧ Ext H H' ∧ H' F = some (.lst (fs.map V.ref)) ∧ GridsT H' fs ((((List.range a).flatMap (tn1 g p q r)) ++ (List.range b).flatMap (tn2 g p q r a)) ++ (List.range i).flatMap (ct g p q r a b)) ∧ fs.length ≤ 16 * a + 4 * b + 1 * i) ⟨z8, z9, z10, z11, z12, fs, rfl, e, hF, by simpa using gs, by omega⟩ ?_ ?_
        · rintro c σ H4 hc ⟨z8, z9, z10, z11, z12, fs, eσ, e, hF, gs, lf⟩
          subst eσ
          rw [Int.zero_add]
          have none_ : ct g p q r a b c = [] → ∃ z8' z9' z10' z11' z12' fs', ([some (V.ref a0), some (nV p), some (nV q), some (nV r), some (V.ref F), some (nV g.length), some (nV a), some (nV b), some (nV c), z9, z10, z11, z12, none] : L2.St) = [some (V.ref a0), some (nV p), some (nV q), some (nV r), some (V.ref F), some (nV g.length), some (nV a), some (nV b), z8', z9', z10', z11', z12', none] ∧ Ext H H4 ∧ H4 F = some (.lst (fs'.map V.ref)) ∧ GridsT H4 fs' (((List.range a).flatMap (tn1 g p q r) ++ (List.range b).flatMap (tn2 g p q r a)) ++ (List.range (c + 1)).flatMap (ct g p q r a b)) ∧ fs'.length ≤ 16 * a + 4 * b + 1 * (c + 1) := by
            intro h0
            refine ⟨_, _, _, _, _,  fs, rfl, e, hF, ?_, by omega⟩
            rw [fm_succ, h0, List.append_nil]
            exact gs
          obtain ⟨tA, htA⟩ := get_of_lt (l := ts) (i := p) (by rw [hts]; omega)
          obtain ⟨wA, hwA, hTA⟩ := hget p tA htA
          obtain ⟨xA, hxA⟩ := get_of_lt (l := wA) (i := a) (by rw [hsq.row hwA]; omega)
          have hcA : cell g p a = xA := cell_of hwA hxA
          obtain ⟨tB, htB⟩ := get_of_lt (l := ts) (i := q) (by rw [hts]; omega)
          obtain ⟨wB, hwB, hTB⟩ := hget q tB htB
          obtain ⟨xB, hxB⟩ := get_of_lt (l := wB) (i := b) (by rw [hsq.row hwB]; omega)
          have hcB : cell g q b = xB := cell_of hwB hxB
          obtain ⟨tC, htC⟩ := get_of_lt (l := ts) (i := r) (by rw [hts]; omega)
          obtain ⟨wC, hwC, hTC⟩ := hget r tC htC
          obtain ⟨xC, hxC⟩ := get_of_lt (l := wC) (i := c) (by rw [hsq.row hwC]; omega)
          have hcC : cell g r c = xC := cell_of hwC hxC
          refine ⟨_, rfl, _, rfl, a0, _, _, .ref tA, rfl, rfl, SqT.of (e _ _ hA0), atI_nat (by rw [List.getElem?_map, htA]; rfl), _, rfl, tA, _, _, .int xA, rfl, rfl, SqT.of (e _ _ hTA), atI_nat (by rw [List.getElem?_map, hxA]; rfl), _, _, rfl, rfl, _, rfl, ?_⟩
          by_cases h0A : 0 < xA
          case neg =>
            refine iteN h0A (iteF <| none_ ?_)
            unfold ct
            rw [if_neg (fun c => h0A (by have := c.1; omega))]
          refine iteD h0A ?_
          refine ⟨_, rfl, _, rfl, a0, _, _, .ref tB, rfl, rfl, SqT.of (e _ _ hA0), atI_nat (by rw [List.getElem?_map, htB]; rfl), _, rfl, tB, _, _, .int xB, rfl, rfl, SqT.of (e _ _ hTB), atI_nat (by rw [List.getElem?_map, hxB]; rfl), _, _, rfl, rfl, _, rfl, ?_⟩
          by_cases h0B : 0 < xB
          case neg =>
            refine iteN h0B (iteF <| none_ ?_)
            unfold ct
            rw [if_neg (fun c => h0B (by have := c.2.1; omega))]
          refine iteD h0B ?_
          refine ⟨_, rfl, _, rfl, a0, _, _, .ref tC, rfl, rfl, SqT.of (e _ _ hA0), atI_nat (by rw [List.getElem?_map, htC]; rfl), _, rfl, tC, _, _, .int xC, rfl, rfl, SqT.of (e _ _ hTC), atI_nat (by rw [List.getElem?_map, hxC]; rfl), _, _, rfl, rfl, _, rfl, ?_⟩
          by_cases h0C : 0 < xC
          case neg =>
            refine iteN h0C (none_ ?_)
            unfold ct
            rw [if_neg (fun c => h0C (by have := c.2.2; omega))]
          refine iteD h0C ?_
          have some_ : ct g p q r a b c = [turnG g p a q b r c] := by
            unfold ct
            rw [if_pos ⟨by rw [hcA]; exact h0A, by rw [hcB]; exact h0B, by rw [hcC]; exact h0C⟩]
          refine ⟨_, rfl, a0, rfl, ⟨_, SqT.of (e _ _ hA0)⟩, fun D hD => ?_⟩
          refine GridL.copy (by show 13 < 14; decide) (hg.ext e) (by omega) hD fun ras J0 f0 gl0 => ?_
          refine ⟨_, rfl, _, rfl, _, rfl, (by show 3 ≤ 16777216; decide), fun u0 nu0 => ?_⟩
          generalize hj0 : upd J0 u0 _ = J1
          obtain ⟨k0, c0⟩ := upd_eq hj0
          have f1 : Ext J0 J1 := Ext.refl.chg nu0 c0
          refine ⟨_, rfl, _, rfl, _, rfl, (by show 3 ≤ 16777216; decide), fun u1 nu1 => ?_⟩
          generalize hj1 : upd J1 u1 _ = J2
          obtain ⟨k1, c1⟩ := upd_eq hj1
          have f2 : Ext J1 J2 := Ext.refl.chg nu1 c1
          refine ⟨_, rfl, _, rfl, _, rfl, (by show 3 ≤ 16777216; decide), fun u2 nu2 => ?_⟩
          generalize hj2 : upd J2 u2 _ = J3
          obtain ⟨k2, c2⟩ := upd_eq hj2
          have f3 : Ext J2 J3 := Ext.refl.chg nu2 c2
          refine ⟨(by show 3 ≤ 16777216; decide), fun L nL => ?_⟩
          generalize hjl : upd J3 L _ = JL
          obtain ⟨kL, cL⟩ := upd_eq hjl
          have fL : Ext J3 JL := Ext.refl.chg nL cL
          have fA : Ext J0 JL := ((f1.trans f2).trans f3).trans fL
          have trV : TripsV JL [u0, u1, u2] [(p, a, c), (q, b, a), (r, c, b)] := .cons (fL _ _ (f3 _ _ (f2 _ _ k0))) (.cons (fL _ _ (f3 _ _ k1)) (.cons (fL _ _ k2) (.nil)))
          have trB : ∀ z ∈ ([(p, a, c), (q, b, a), (r, c, b)] : List (Nat × Nat × Nat)), z.1 < g.length ∧ z.2.1 < g.length ∧ z.2.2 < g.length := by
            intro z hz
            simp only [List.mem_cons, List.not_mem_nil, or_false] at hz
            rcases hz with rfl | rfl | rfl <;> exact ⟨by omega, by omega, by omega⟩
          have nLr : ∀ r ∈ ras, L ≠ r := fun r hr => by
            obtain ⟨j, hj⟩ := List.mem_iff_getElem?.mp hr
            obtain ⟨row, hrow⟩ := get_of_lt (l := g) (i := j) (by rw [← paired_len gl0.rows]; exact (List.getElem?_eq_some_iff.mp hj).1)
            exact (ne_of_none (((f1.trans f2).trans f3) _ _ (paired_get gl0.rows hj hrow)) nL).symm
          refine ⟨L, rfl, ⟨_, SqL.of kL⟩, ?_⟩
          refine for_list (xs := [u0, u1, u2].map V.ref) (fun j σ H' => ∃ z10 z11 z12 g', σ = [some (.ref a0), some (nV p), some (nV q), some (nV r), some (.ref F), some (nV g.length), some (nV a), some (nV b), some (nV c), some (.ref D), z10, z11, z12, none] ∧ Ext H4 H' ∧ GridL H4 H' D g' ras ∧ Sq g.length g' ∧ (([(p, a, c), (q, b, a), (r, c, b)] : List (Nat × Nat × Nat)).drop j).foldl bumpT g' = turnG g p a q b r c ∧ H' L = some (.lst ([u0, u1, u2].map V.ref)) ∧ TripsV H' [u0, u1, u2] [(p, a, c), (q, b, a), (r, c, b)]) ⟨_, _, _, g, rfl, f0.trans fA, gl0.ext fA, hsq, rfl, kL, trV⟩ (fun j σ H' _ ⟨_, _, _, _, _, _, _, _, _, h, _⟩ => SqL.of h) ?_ ?_
          · rintro j x σ J hx ⟨z10, z11, z12, g', eσ, eJ, gJ, sqJ, fJ, hL, tV⟩
            subst eσ
            obtain ⟨u, hu, rfl⟩ := map_get hx
            obtain ⟨z, hz⟩ := get_of_lt (l := [(p, a, c), (q, b, a), (r, c, b)]) (i := j) (by rw [← paired_len tV]; exact (List.getElem?_eq_some_iff.mp hu).1)
            have hU : J u = some (.tup [nV z.1, nV z.2.1, nV z.2.2]) := paired_get tV hu hz
            obtain ⟨b1, b2, b3⟩ := trB z (List.mem_of_getElem? hz)
            rw [drop_cons hz, List.foldl_cons] at fJ
            refine ⟨u, _, rfl, SqT.of hU, rfl, _, _, rfl, _, _, rfl, _, _, rfl, rfl, ?_⟩
            obtain ⟨ro1, row1, hro1, hrow1, hRow1, hro01, upg1⟩ := gJ.at_ (p := z.1) (by rw [sqJ.1]; exact b1)
            obtain ⟨y1, hy1⟩ := get_of_lt (l := row1) (i := z.2.1) (by rw [sqJ.row hrow1]; exact b2)
            refine ⟨_, rfl, _, rfl, D, _, _, .ref ro1, rfl, rfl, SqL.of gJ.top, atI_nat (by rw [List.getElem?_map, hro1]; rfl), _, rfl, ro1, _, _, .int y1, rfl, rfl, SqL.of hRow1, atI_nat (by rw [List.getElem?_map, hy1]; rfl), _, _, rfl, rfl, ?_⟩
            refine ⟨_, rfl, _, rfl, D, _, _, .ref ro1, rfl, rfl, SqL.of gJ.top, atI_nat (by rw [List.getElem?_map, hro1]; rfl), _, rfl, ro1, _, _, z.2.1, rfl, rfl, hRow1, ixN_of (by rw [List.length_map, sqJ.row hrow1]; exact b2), ?_⟩
            rw [set_map]
            generalize hm1 : upd J ro1 _ = M1
            obtain ⟨m1, d1⟩ := upd_eq hm1
            have gM : GridL H4 M1 D (setCell g' z.1 z.2.1 (cell g' z.1 z.2.1 - 1)) ras := by
              rw [cell_of hrow1 hy1]
              exact upg1 z.2.1 (y1 - 1) M1 m1 d1
            have sqM : Sq g.length (setCell g' z.1 z.2.1 (cell g' z.1 z.2.1 - 1)) := Sq.set sqJ
            obtain ⟨ro2, row2, hro2, hrow2, hRow2, hro02, upg2⟩ := gM.at_ (p := z.1) (by rw [sqM.1]; exact b1)
            obtain ⟨y2, hy2⟩ := get_of_lt (l := row2) (i := z.2.2) (by rw [sqM.row hrow2]; exact b3)
            refine ⟨_, rfl, _, rfl, D, _, _, .ref ro2, rfl, rfl, SqL.of gM.top, atI_nat (by rw [List.getElem?_map, hro2]; rfl), _, rfl, ro2, _, _, .int y2, rfl, rfl, SqL.of hRow2, atI_nat (by rw [List.getElem?_map, hy2]; rfl), _, _, rfl, rfl, ?_⟩
            refine ⟨_, rfl, _, rfl, D, _, _, .ref ro2, rfl, rfl, SqL.of gM.top, atI_nat (by rw [List.getElem?_map, hro2]; rfl), _, rfl, ro2, _, _, z.2.2, rfl, rfl, hRow2, ixN_of (by rw [List.length_map, sqM.row hrow2]; exact b3), ?_⟩
            rw [set_map]
            generalize hm2 : upd M1 ro2 _ = M2
            obtain ⟨m2, d2⟩ := upd_eq hm2
            refine ⟨_, _, _,  bumpT g' z, rfl, (eJ.chg hro01 d1).chg hro02 d2, ?_, Sq.set sqM, fJ, ?_, ?_⟩
            · unfold bumpT bump
              rw [cell_of hrow2 hy2]
              exact upg2 z.2.2 (y2 + 1) M2 m2 d2
            · exact (d2 L (nLr _ (List.mem_of_getElem? hro2))).trans ((d1 L (nLr _ (List.mem_of_getElem? hro1))).trans hL)
            · exact pairedMono (fun a b k => by
                have k1 := (d1 a (ne_of k hRow1 (by intro z; cases z))).trans k
                exact (d2 a (ne_of k1 hRow2 (by intro z; cases z))).trans k1) tV
          · rintro σ J ⟨z10, z11, z12, g', eσ, eJ, gJ, sqJ, fJ, hL, tV⟩
            subst eσ
            have eg : g' = turnG g p a q b r c := fJ
            rw [eg] at gJ sqJ
            have hFJ := eJ _ _ hF
            refine ⟨_, rfl, .inl ⟨rfl, _, SqL.of hFJ⟩, _, rfl, D, _, ras, rfl, gJ.top, gJ.rows, by rw [sqJ.1]; omega, fun t JT eT nt gT => ⟨F, _, _, rfl, rfl, eT _ _ hFJ, by rw [List.length_map]; show _ < 16777216; omega, ?_⟩⟩
            generalize hjf : upd JT F _ = JF
            obtain ⟨kF, cF⟩ := upd_eq hjf
            have hFT := eT _ _ hFJ
            have kp : ∀ b xs, JT b = some (.tup xs) → JF b = some (.tup xs) := fun b xs h => (cF b (ne_of h hFT (by intro z; cases z))).trans h
            refine ⟨_, _, _, _, _,  fs ++ [t], rfl, ((e.trans eJ).trans eT).chg nF cF, by rw [kF]; simp, ?_, by simp; omega⟩
            rw [fm_succ, some_, ← List.append_assoc]
            exact paired_snoc (gT.keep kp) (pairedMono (fun a b k => (k.ext (eJ.trans eT)).keep kp) gs)
        · rintro σ H4 ⟨z8, z9, z10, z11, z12, fs, eσ, e, hF, gs, lf⟩
          subst eσ
          refine ⟨_, _, _, _, _, _, fs, rfl, e, hF, ?_, by omega⟩
          rw [fm_succ, ← List.append_assoc]
          exact gs
      · rintro σ H3 ⟨z7, z8, z9, z10, z11, z12, fs, eσ, e, hF, gs, lf⟩
        subst eσ
        refine ⟨_, _, _, _, _, _, _, fs, rfl, e, hF, ?_, by omega⟩
        rw [fm_succ]
        exact gs
    · rintro σ H2 ⟨z6, z7, z8, z9, z10, z11, z12, fs, eσ, e, hF, gs, lf⟩
      subst eσ
      exact ⟨_, rfl, q64 F fs H2 e nF hF gs (by omega)⟩
end
end K30

namespace K30
open PySem PySem.Spec PyProof.Rows L2
def mv3 (g : Grid) (p q r : Nat) : List Grid := if q > p ∧ r > p ∧ q ≠ r then turnedF g p q r else []
def mv2 (g : Grid) (p q : Nat) : List Grid := (List.range g.length).flatMap (mv3 g p q)
def mv1 (g : Grid) (p : Nat) : List Grid := (List.range g.length).flatMap (mv2 g p)
def movesF (g : Grid) : List Grid := swapsF g ++ (List.range g.length).flatMap (mv1 g)
section
variable {P : Program} {w : World} {K : PySem.W.Frag} {mg : Str → Option Value} {base : Heap}
/-! ### _law_moves_from -/
abbrev nMf : List Str := ["_law_grid", "_law_found", "_law_size", "_law_p", "_law_q", "_law_r"]
theorem scMf : FnScope nMf ["_law_grid"] (defScope (topS 73)) := ⟨rfl, rfl, rfl, by decide +kernel, rfl, by decide +kernel, by decide +kernel⟩
def spMf : Sp := fun vs H Q _ => ∃ (a0 : Addr) (g : Grid), vs = [.ref a0] ∧ GridT H a0 g ∧ Sq g.length g ∧ g.length ≤ 4 ∧ ∀ F fs H', Ext H H' → H F = none → H' F = some (.lst (fs.map V.ref)) → GridsT H' fs (movesF g) → Q (.ref F) H'
theorem cal_mf (T : Txt K mg) : Cal P w K mg base 3 "_law_moves_from" ["_law_grid"] spMf := by
  refine T.def_law_moves_from.cal (fun _ _ _ _ _ _ us hl => match us, hl with | [_], _ => rfl) fun f fd F => F.ok scMf (fun vs H Q E h => ?_) fun cdv A outer s H vs Q E hr h => ?_
  · obtain ⟨a0, g, rfl, _⟩ := h
    rfl
  · obtain ⟨a0, g, rfl, hg, hsq, h4, q0⟩ := h
    have nd := scMf.nd
    obtain ⟨ts, hA0, hts, _⟩ := hg.row
    refine ⟨_, PSs.nox (pss_cons (ps_par (i := 1) (j := 2) (by rfl) nd rfl rfl (by decide) rfl rfl (pa_cons (pe_cal (cal_sw T) hr rfl (pa_cons (pv 0) pa_nil)) (pa_cons (pe_callB call_len_seq (by rfl) T.fr_len PySem.boot_len (pa_cons (pv 0) pa_nil)) pa_nil)) (by rfl))
      (pss_cons (ps_for PassesOwn.never rfl (pi_range1 rfl T.fr_range (pa_cons (pv 2) pa_nil)) (pg_name (i := 3) nd rfl (Or.inl rfl))
        (pss_one (ps_for PassesOwn.never rfl (pi_range1 rfl T.fr_range (pa_cons (pv 2) pa_nil)) (pg_name (i := 4) nd rfl (Or.inl rfl))
        (pss_one (ps_for PassesOwn.never rfl (pi_range1 rfl T.fr_range (pa_cons (pv 2) pa_nil)) (pg_name (i := 5) nd rfl (Or.inl rfl))
          (pss_one (ps_if (PW.pt (pw_and (pt_cmpR op_gt (pv 4) (pv 3) (nomark _)) (pw_and (pt_cmpR op_gt (pv 5) (pv 3) (nomark _)) (pw_and1 (pt_cmpR op_ne (pv 4) (pv 5) (nomark _))))))
            (pss_one (ps_set (i := 1) nd rfl (Or.inl rfl) (pe_op op_cat (pv 1) (pe_cal (cal_tn T) hr rfl (pa_cons (pv 0) (pa_cons (pv 3) (pa_cons (pv 4) (pa_cons (pv 5) pa_nil)))))))) pss_nil)))))))
      (pss_one (ps_ret (pv 1))))), ?_⟩
    refine ⟨_, rfl, a0, g, rfl, hg, hsq, h4, fun F fs H1 e nF hF gs l256 => ?_⟩
    refine ⟨_, rfl, a0, _, rfl, .inr (SqT.of (e _ _ hA0)), _, _, rfl, ?_⟩
    rw [List.length_map, hts]
    refine ⟨_, rfl, _, rfl, by omega, by omega, ?_⟩
    refine for_range (lo := 0) (n := g.length) (fun i σ H' => ∃ z3 z4 z5 F fs, σ = [some (.ref a0), some (.ref F), some (nV g.length), z3, z4, z5] ∧ Ext H H' ∧ H F = none ∧ H' F = some (.lst (fs.map V.ref)) ∧ GridsT H' fs (swapsF g ++ (List.range i).flatMap (mv1 g)) ∧ fs.length ≤ 256 + 1024 * i) ⟨none, none, none, F, fs, rfl, e, nF, hF, by simpa using gs, by omega⟩ ?_ ?_
    · rintro p σ H2 hp ⟨z3, z4, z5, F, fs, eσ, e, nF, hF, gs, lf⟩
      subst eσ
      rw [Int.zero_add]
      refine ⟨_, rfl, _, rfl, by omega, by omega, ?_⟩
      refine for_range (lo := 0) (n := g.length) (fun i σ H' => ∃ z4 z5 F fs, σ = [some (.ref a0), some (.ref F), some (nV g.length), some (nV p), z4, z5] ∧ Ext H H' ∧ H F = none ∧ H' F = some (.lst (fs.map V.ref)) ∧ GridsT H' fs ((swapsF g ++ (List.range p).flatMap (mv1 g)) ++ (List.range i).flatMap (mv2 g p)) ∧ fs.length ≤ 256 + 1024 * p + 256 * i) ⟨z4, z5, F, fs, rfl, e, nF, hF, by simpa using gs, by omega⟩ ?_ ?_
      · rintro q σ H3 hq ⟨z4, z5, F, fs, eσ, e, nF, hF, gs, lf⟩
        subst eσ
        rw [Int.zero_add]
        refine ⟨_, rfl, _, rfl, by omega, by omega, ?_⟩
        refine for_range (lo := 0) (n := g.length) (fun i σ H' => ∃ z5 F fs, σ = [some (.ref a0), some (.ref F), some (nV g.length), some (nV p), some (nV q), z5] ∧ Ext H H' ∧ H F = none ∧ H' F = some (.lst (fs.map V.ref)) ∧ GridsT H' fs (((swapsF g ++ (List.range p).flatMap (mv1 g)) ++ (List.range q).flatMap (mv2 g p)) ++ (List.range i).flatMap (mv3 g p q)) ∧ fs.length ≤ 256 + 1024 * p + 256 * q + 64 * i) ⟨z5, F, fs, rfl, e, nF, hF, by simpa using gs, by omega⟩ ?_ ?_
        · rintro r σ H4 hr4 ⟨z5, F, fs, eσ, e, nF, hF, gs, lf⟩
          subst eσ
          rw [Int.zero_add]
          have none_ : mv3 g p q r = [] → ∃ z5' F' fs', ([some (V.ref a0), some (V.ref F), some (nV g.length), some (nV p), some (nV q), some (nV r)] : L2.St) = [some (V.ref a0), some (V.ref F'), some (nV g.length), some (nV p), some (nV q), z5'] ∧ Ext H H4 ∧ H F' = none ∧ H4 F' = some (.lst (fs'.map V.ref)) ∧ GridsT H4 fs' (((swapsF g ++ (List.range p).flatMap (mv1 g)) ++ (List.range q).flatMap (mv2 g p)) ++ (List.range (r + 1)).flatMap (mv3 g p q)) ∧ fs'.length ≤ 256 + 1024 * p + 256 * q + 64 * (r + 1) := by
            intro h0
            refine ⟨_, F, fs, rfl, e, nF, hF, ?_, by omega⟩
            rw [fm_succ, h0, List.append_nil]
            exact gs
          refine ⟨_, rfl, _, rfl, _, _, rfl, rfl, _, rfl, ?_⟩
          by_cases c1 : q > p
          case neg =>
            refine iteN (by omega) (iteF <| none_ ?_)
            unfold mv3
            rw [if_neg (fun c => c1 c.1)]
          refine iteD (by omega) ?_
          refine ⟨_, rfl, _, rfl, _, _, rfl, rfl, _, rfl, ?_⟩
          by_cases c2 : r > p
          case neg =>
            refine iteN (by omega) (iteF <| none_ ?_)
            unfold mv3
            rw [if_neg (fun c => c2 c.2.1)]
          refine iteD (by omega) ?_
          refine ⟨_, rfl, _, rfl, rfl, _, rfl, ?_⟩
          by_cases c3 : q = r
          · refine iteNS (congrArg nV c3) (none_ ?_)
            unfold mv3
            rw [if_neg (fun c => c.2.2 c3)]
          rw [show decide (nV q = nV r) = false from decide_eq_false (fun c => c3 (by injection c with c; omega))]
          refine iteT ?_
          refine ⟨_, rfl, _, rfl, _, rfl, _, rfl, _, rfl, a0, g, p, q, r, rfl, hg.ext e, hsq, h4, hp, hq, hr4, fun F2 fs2 H5 e5 nF2 hF2 gs2 l64 => ?_⟩
          refine ⟨F, F2, _, _, rfl, rfl, e5 _ _ hF, hF2, by rw [List.length_map, List.length_map]; show _ ≤ 16777216; omega, fun F3 nF3 => ?_⟩
          have e6 : Ext H5 (upd H5 F3 (.lst (fs.map V.ref ++ fs2.map V.ref))) := Ext.one nF3
          refine ⟨_, F3, fs ++ fs2, rfl, (e.trans e5).trans e6, (e.trans e5).nil nF3, by rw [upd_same]; simp, ?_, by simp; omega⟩
          rw [fm_succ, ← List.append_assoc]
          refine paired_app (pairedMono (fun a b k => k.ext (e5.trans e6)) gs) ?_
          have : mv3 g p q r = turnedF g p q r := by
            unfold mv3
            rw [if_pos ⟨c1, c2, c3⟩]
          rw [this]
          exact pairedMono (fun a b k => k.ext e6) gs2
        · rintro σ H4 ⟨z5, F, fs, eσ, e, nF, hF, gs, lf⟩
          subst eσ
          refine ⟨_, _, F, fs, rfl, e, nF, hF, ?_, by omega⟩
          rw [fm_succ, ← List.append_assoc]
          exact gs
      · rintro σ H4 ⟨z4, z5, F, fs, eσ, e, nF, hF, gs, lf⟩
        subst eσ
        refine ⟨_, _, _, F, fs, rfl, e, nF, hF, ?_, by omega⟩
        rw [fm_succ, ← List.append_assoc]
        exact gs
    · rintro σ H4 ⟨z3, z4, z5, F, fs, eσ, e, nF, hF, gs, lf⟩
      subst eσ
      exact ⟨_, rfl, q0 F fs H4 e nF hF gs⟩
/-! ### the search -/
inductive Reach (g : Grid) : Nat → Grid → Prop
  | zero : Reach g 0 g
  | step {m : Nat} {t u : Grid} : Reach g m t → u ∈ movesF t → Reach g (m + 1) u
structure Cert (g : Grid) (k : Nat) : Prop where
  low : ∀ j t, j < k → Reach g j t → outG t ≠ 0
  up : ∃ t, Reach g k t ∧ outG t = 0
  few : k < 12
  sq : ∀ j t, Reach g j t → Sq t.length t ∧ t.length ≤ 4
  univ : ∃ U : List Grid, U.length < sizeLine ∧ ∀ j t, Reach g j t → t ∈ U
structure Lev (g : Grid) (m : Nat) (old row : List Grid) : Prop where
  a : ∀ j t, j < m → Reach g j t → t ∈ old
  b : ∀ t, Reach g m t → t ∈ old ++ row
  c : ∀ t ∈ old, ∃ j, j < m ∧ Reach g j t
  d : ∀ t ∈ row, ∃ j, j ≤ m ∧ Reach g j t
theorem Lev.zero {g : Grid} : Lev g 0 [] [g] := by
  refine ⟨?_, ?_, ?_, ?_⟩
  · intro j t h _
    omega
  · intro t h
    cases h
    simp
  · intro t h
    cases h
  · intro t h
    rw [List.mem_singleton] at h
    subst h
    exact ⟨0, Nat.le_refl _, .zero⟩
theorem Lev.next {g : Grid} {m : Nat} {old row later : List Grid} (h : Lev g m old row) (h1 : ∀ t ∈ row, ∀ u ∈ movesF t, u ∈ (old ++ row) ++ later) (h2 : ∀ u ∈ later, ∃ t ∈ row, u ∈ movesF t) : Lev g (m + 1) (old ++ row) later := by
  refine ⟨fun j t hj r => ?_, fun u r => ?_, fun t ht => ?_, fun u hu => ?_⟩
  · rcases Nat.lt_or_ge j m with c | c
    · exact List.mem_append_left _ (h.a j t c r)
    · obtain rfl : j = m := by omega
      exact h.b t r
  · cases r with
    | step rt hu =>
      rename_i t
      rcases List.mem_append.mp (h.b t rt) with c | c
      · obtain ⟨j, hj, rj⟩ := h.c t c
        have ru := Reach.step rj hu
        rcases Nat.lt_or_ge (j + 1) m with c2 | c2
        · exact List.mem_append_left _ (List.mem_append_left _ (h.a _ _ c2 ru))
        · obtain rfl : j + 1 = m := by omega
          exact List.mem_append_left _ (h.b u ru)
      · exact h1 t c u hu
  · rcases List.mem_append.mp ht with c | c
    · obtain ⟨j, hj, r⟩ := h.c t c
      exact ⟨j, by omega, r⟩
    · obtain ⟨j, hj, r⟩ := h.d t c
      exact ⟨j, by omega, r⟩
  · obtain ⟨t, ht, hu2⟩ := h2 u hu
    obtain ⟨j, hj, r⟩ := h.d t ht
    exact ⟨j + 1, by omega, .step r hu2⟩
theorem nodup_le {α : Type} [DecidableEq α] : ∀ {l U : List α}, l.Nodup → (∀ x ∈ l, x ∈ U) → l.length ≤ U.length
  | [], U, _, _ => Nat.zero_le _
  | x :: l, U, h, k => by
    obtain ⟨h1, h2⟩ := List.nodup_cons.mp h
    have hx := k x (by simp)
    have := nodup_le (U := U.erase x) h2 fun y hy => by
      have ne : y ≠ x := fun e => h1 (e ▸ hy)
      exact (List.mem_erase_of_ne ne).mpr (k y (List.mem_cons_of_mem _ hy))
    rw [List.length_erase_of_mem hx] at this
    have := List.length_pos_of_mem hx
    simp
    omega
theorem Lev.dry {g : Grid} {k m : Nat} {old row : List Grid} (h : Lev g m old row) (C : Cert g k) (hm : m < k) : row.filter (fun t => decide (outG t = 0)) = [] := by
  rw [List.filter_eq_nil_iff]
  intro t ht c
  obtain ⟨j, hj, r⟩ := h.d t ht
  exact C.low j t (by omega) r (of_decide_eq_true c)
theorem Lev.wet {g : Grid} {k : Nat} {old row : List Grid} (h : Lev g k old row) (C : Cert g k) : row.filter (fun t => decide (outG t = 0)) ≠ [] := by
  obtain ⟨z, rz, hz⟩ := C.up
  intro c
  rw [List.filter_eq_nil_iff] at c
  rcases List.mem_append.mp (h.b z rz) with m | m
  · obtain ⟨j, hj, r⟩ := h.c z m
    exact C.low j z hj r hz
  · exact c z m (decide_eq_true hz)
def dG (g : Grid) : PyData := .tuple (g.map fun r => .tuple (r.map .int))
theorem canAll_ints : ∀ r : List Int, PyData.canLayAll0 (r.map .int) = true
  | [] => by simp [PyData.canLayAll0]
  | x :: r => by simp [PyData.canLayAll0, canAll_ints r, PyData.canLay0]
theorem depthAll_ints : ∀ r : List Int, PyData.depthAll (r.map .int) = 0
  | [] => by simp [PyData.depthAll]
  | x :: r => by simp [PyData.depthAll, depthAll_ints r, PyData.depth]
theorem canAll_rows : ∀ g : Grid, PyData.canLayAll0 (g.map fun r => .tuple (r.map .int)) = true
  | [] => by simp [PyData.canLayAll0]
  | x :: r => by simp [PyData.canLayAll0, canAll_rows r, PyData.canLay0, canAll_ints x]
theorem depthAll_rows : ∀ g : Grid, PyData.depthAll (g.map fun r => .tuple (r.map .int)) ≤ 1
  | [] => by simp [PyData.depthAll]
  | x :: r => by
    have := depthAll_rows r
    simp [PyData.depthAll, PyData.depth, depthAll_ints x]
    omega
theorem canAll_dG : ∀ gs : List Grid, PyData.canLayAll0 (gs.map dG) = true
  | [] => by simp [PyData.canLayAll0]
  | x :: r => by simp [PyData.canLayAll0, canAll_dG r, PyData.canLay0, dG, canAll_rows x]
theorem depthAll_dG : ∀ gs : List Grid, PyData.depthAll (gs.map dG) ≤ 2
  | [] => by simp [PyData.depthAll]
  | x :: r => by
    have := depthAll_dG r
    have := depthAll_rows x
    simp [PyData.depthAll, PyData.depth, dG]
    omega
theorem shaped_dG (gs : List Grid) : SeqAt.shaped (.list (gs.map dG)) = true := by
  have := depthAll_dG gs
  simp [SeqAt.shaped, PyData.canLay0, canAll_dG gs, PyData.depth]
  omega
theorem dpAll_ints {H : Hp} : ∀ r : List Int, DpAll K H (r.map V.int) (r.map .int)
  | [] => .nil
  | x :: r => .cons (.int x) (dpAll_ints r)
theorem dpAll_rows {H : Hp} : ∀ {ras : List Addr} {g : Grid}, Paired (fun r row => H r = some (.tup (row.map V.int))) ras g → DpAll K H (ras.map V.ref) (g.map fun r => .tuple (r.map .int))
  | _, _, .nil => .nil
  | _, _, .cons h r => .cons (.tup (SqT.of h) (dpAll_ints _)) (dpAll_rows r)
theorem dpAll_dG {H : Hp} : ∀ {fs : List Addr} {gs : List Grid}, GridsT H fs gs → DpAll K H (fs.map V.ref) (gs.map dG)
  | _, _, .nil => .nil
  | _, _, .cons h r => by
    obtain ⟨ras, h1, h2⟩ := h
    exact .cons (.tup (SqT.of h1) (dpAll_rows h2)) (dpAll_dG r)
end
end K30

namespace K30
open PySem PySem.Spec PyProof.Rows L2
section
variable {P : Program} {w : World} {K : PySem.W.Frag} {mg : Str → Option Value} {base : Heap}
/-! ### _law_rounds -/
abbrev nRn : List Str := ["_law_grid", "_law_seen", "_law_row", "_law_turn", "_law_later", "_law_some", "_law_fresh"]
theorem scRn : FnScope nRn ["_law_grid"] (defScope (topS 75)) := ⟨rfl, rfl, rfl, by decide +kernel, rfl, by decide +kernel, by decide +kernel⟩
def spRn : Sp := fun vs H Q _ => ∃ (a0 : Addr) (g : Grid) (k : Nat), vs = [.ref a0] ∧ GridT H a0 g ∧ Cert g k ∧ ∀ H', Ext H H' → Q (nV k) H'
theorem cal_rn (T : Txt K mg) : Cal P w K mg base 4 "_law_rounds" ["_law_grid"] spRn := by
  refine T.def_law_rounds.cal (fun _ _ _ _ _ _ us hl => match us, hl with | [_], _ => rfl) fun f fd F => F.ok scRn (fun vs H Q E h => ?_) fun cdv A outer s H vs Q E hr h => ?_
  · obtain ⟨a0, g, k, rfl, _⟩ := h
    rfl
  · obtain ⟨a0, g, k, rfl, hg, C, q⟩ := h
    have nd := scRn.nd
    have hr1 := hr.mono (show 1 ≤ 3 by decide)
    refine ⟨_, PSs.nox (pss_cons (ps_par (i := 1) (j := 2) (by rfl) nd rfl rfl (by decide) rfl rfl (pa_cons (pe_gd1 hr.units (pv 0)) (pa_cons (pe_lst (pa_cons (pv 0) pa_nil)) pa_nil)) (by rfl))
      (pss_cons (ps_for PassesOwn.never rfl (pi_range1 rfl T.fr_range (pa_cons pe_int pa_nil)) (pg_name (i := 3) nd rfl (Or.inl rfl))
        (pss_cons (ps_if (pt_cmpR (op_neD hr.units) (pe_lc (own := [("_law_some", 5)]) (g := gName 5) (tt := tTest (tOp rEq (tCall spLo [] E0 (tCons (tVar 5) tNil)) (tC (.int 0)))) rfl nd (pi_list (pv 2)) (blkOk_by (N := nRn) (sc := defScope (topS 75)) (by decide +kernel)) (fun _ _ _ _ _ => pg_name (i := 5) nd rfl (Or.inl rfl)) (fun _ _ _ _ _ => pts_one (pt_cmpR op_eq (pe_cal (cal_lo T) hr1 rfl (pa_cons (pv 5) pa_nil)) pe_int (nomark _))) (fun _ _ _ _ _ => pv 5)) (pe_lst pa_nil) (nomark _)) (pss_one (ps_ret (pv 3))) pss_nil)
        (pss_cons (ps_set (i := 4) nd rfl (Or.inl rfl) (pe_lst pa_nil))
        (pss_cons (ps_for PassesOwn.never rfl (pi_list (pv 2)) (pg_name (i := 5) nd rfl (Or.inl rfl))
          (pss_one (ps_for PassesOwn.never rfl (pi_list (pe_cal (cal_mf T) hr rfl (pa_cons (pv 5) pa_nil))) (pg_name (i := 6) nd rfl (Or.inl rfl))
            (pss_one (ps_if (pt_cmp (pc_gnotin hr.units (pv 6) (pv 1)))
              (pss_cons (ps_asg pe_bl (pg_sub (pv 1) (pv 6) (set_gd hr.units)))
              (pss_one (ps_expr (pe_bm PySem.F.plainAttrs_list PySem.F.slot_list_append PySem.F.type_list_append mt_append (pv 4) (pa_cons (pv 6) pa_nil))))) pss_nil)))))
        (pss_one (ps_set (i := 2) nd rfl (Or.inl rfl) (pv 4)))))))
      (pss_one (ps_ret pe_int)))), ?_⟩
    have C0 := C
    obtain ⟨U, hU1, hU2⟩ := C.univ
    refine fun d nd0 => ⟨_, rfl, a0, g, rfl, upd_same, hg.ext (Ext.one nd0), fun u gd0 => ?_⟩
    rw [upd_upd] at gd0 ⊢
    generalize hu0 : upd H d u = H0 at *
    obtain ⟨_, c0⟩ := upd_eq hu0
    have e0 : Ext H H0 := Ext.refl.chg nd0 c0
    refine ⟨_, rfl, (by show 1 ≤ 16777216; decide), fun R nR => ⟨_, _, rfl, ?_⟩⟩
    generalize hu1 : upd H0 R _ = H1
    obtain ⟨k1, c1⟩ := upd_eq hu1
    have e01 : Ext H0 H1 := Ext.refl.chg nR c1
    have dR : ∀ {H' : Hp} {R : Addr} {xs : List V} {gs : List Grid}, H' R = some (.lst xs) → GDict P w H' d gs → R ≠ d := fun h gd => by
      obtain ⟨bs, hb, _⟩ := gd
      exact ne_of h hb (by intro z; unfold GDO at z; cases z)
    have gd1 : GDict P w H1 d ([] ++ [g]) := gd0.keep (by
      obtain ⟨bs, hb, _⟩ := gd0
      exact c1 d (ne_of_none hb nR)) fun b xs h => e01 _ _ h
    refine ⟨12, rfl, by decide, by decide, ?_⟩
    refine for_range (lo := 0) (n := 12) (fun i σ H' => ∃ z3 z4 z5 z6 R rs old row, σ = [some (.ref a0), some (.ref d), some (.ref R), z3, z4, z5, z6] ∧ Ext H H' ∧ GDict P w H' d (old ++ row) ∧ H' R = some (.lst (rs.map V.ref)) ∧ GridsT H' rs row ∧ i ≤ k ∧ Lev g i old row) ⟨none, none, none, none, R, [a0], [], [g], rfl, e0.trans e01, gd1, k1, .cons (hg.ext (e0.trans e01)) .nil, Nat.zero_le _, Lev.zero⟩ ?_ ?_
    · rintro i σ H2 hi ⟨z3, z4, z5, z6, R, rs, old, row, eσ, e2, gd2, hR2, gr2, hik, lev⟩
      subst eσ
      rw [Int.zero_add]
      have lrs : rs.length = row.length := paired_len gr2
      have sqr : ∀ t ∈ row, Sq t.length t ∧ t.length ≤ 4 := fun t ht => let ⟨j, _, r⟩ := lev.d t ht; C.sq j t r
      refine ⟨_, rfl, R, rfl, ⟨_, SqL.of hR2⟩, fun D hD => ?_⟩
      have lnD := hU2
      have rowU : row.length ≤ (old ++ row).length := by simp
      have oldU : (old ++ row).length < sizeLine := by
        obtain ⟨bs, _, _, hn, _⟩ := gd2
        refine Nat.lt_of_le_of_lt (nodup_le hn fun x hx => ?_) hU1
        rcases List.mem_append.mp hx with h | h
        · obtain ⟨j, _, r⟩ := lev.c x h
          exact hU2 j x r
        · obtain ⟨j, _, r⟩ := lev.d x h
          exact hU2 j x r
      refine lc_list (K := K) (a := R) (xs := rs.map V.ref) (fun j H' => Ext H2 H' ∧ ∃ fs, H' D = some (.lst (fs.map V.ref)) ∧ fs.length ≤ j ∧ GridsT H' fs ((row.take j).filter fun t => decide (outG t = 0))) ⟨Ext.one hD, [], upd_same, by simp, .nil⟩ (fun j H' _ ⟨e, _⟩ => SqL.of (e _ _ hR2)) ?_ ?_
      · rintro j x H3 hx ⟨e3, fs, h3, l3, g3⟩
        obtain ⟨ra, hra, rfl⟩ := map_get hx
        obtain ⟨t, ht⟩ := get_of_lt (l := row) (i := j) (by rw [← lrs]; exact (List.getElem?_eq_some_iff.mp hra).1)
        have hj : j < row.length := (List.getElem?_eq_some_iff.mp ht).1
        have hT := (paired_get gr2 hra ht).ext e3
        obtain ⟨sq1, sq2⟩ := sqr t (List.mem_of_getElem? ht)
        have ef : ((row.take (j + 1)).filter fun t => decide (outG t = 0)) = ((row.take j).filter fun t => decide (outG t = 0)) ++ if outG t = 0 then [t] else [] := by
          rw [List.take_add_one, ht, List.filter_append]
          congr 1
          show List.filter _ [t] = _
          rw [List.filter_cons, List.filter_nil]
          by_cases c : outG t = 0
          · rw [if_pos (decide_eq_true c), if_pos c]
          · rw [if_neg (by rw [decide_eq_false c]; exact Bool.false_ne_true), if_neg c]
        refine ⟨rfl, ?_⟩
        refine ⟨_, rfl, ra, t, t.length, rfl, hT, sq1, by omega, fun H4 e4 => ⟨rfl, _, rfl, ?_⟩⟩
        by_cases c : outG t = 0
        · refine iteD (by rw [c]) ⟨_, rfl, _, e4 _ _ h3, by rw [List.length_map]; omega, (e3.trans e4).put hD, fs ++ [ra], by rw [upd_same]; simp, by simp; omega, ?_⟩
          rw [ef, if_pos c]
          have h4D := e4 _ _ h3
          have kp : ∀ b xs, H4 b = some (.tup xs) → upd H4 D (.lst (fs.map V.ref ++ [.ref ra])) b = some (.tup xs) := fun b xs h => (upd_ne (ne_of h h4D (by intro z; cases z))).trans h
          exact paired_snoc ((hT.ext e4).keep kp) (pairedMono (fun a b k => (k.ext e4).keep kp) g3)
        · refine iteN (by intro e; injection e with e; exact c e) ⟨e3.trans e4, fs, e4 _ _ h3, by omega, ?_⟩
          rw [ef, if_neg c, List.append_nil]
          exact pairedMono (fun a b k => k.ext e4) g3
      · rintro H3 ⟨e3, fs, h3, l3, g3⟩
        rw [List.length_map, lrs, List.take_length] at g3
        refine ⟨by decide, fun D2 hD2 => ?_⟩
        generalize hu4 : upd H3 D2 _ = H4
        obtain ⟨k4, c4⟩ := upd_eq hu4
        have e34 : Ext H3 H4 := Ext.refl.chg hD2 c4
        have e24 := e3.trans e34
        have e4 : Ext H H4 := e2.trans e24
        have g4 : GridsT H4 fs (row.filter fun t => decide (outG t = 0)) := pairedMono (fun a b k => k.ext e34) g3
        refine ⟨_, _, .lst (SqL.of (e34 _ _ h3)) (dpAll_dG g4), .lst (ds := ([] : List Grid).map dG) (SqL.of k4) .nil, shaped_dG _, shaped_dG [], _, rfl, ?_⟩
        rcases Nat.lt_or_ge i k with hlt | hge
        · rw [lev.dry C hlt]
          have : PyData.eqv (.list (([] : List Grid).map dG)) (.list (([] : List Grid).map dG)) = true := by simp [PyData.eqv, PyData.eqvAll]
          rw [this]
          refine iteF ?_
          refine ⟨by decide, fun Lt nLt => ?_⟩
          generalize hu5 : upd H4 Lt _ = H5
          obtain ⟨k5, c5⟩ := upd_eq hu5
          have e45 : Ext H4 H5 := Ext.refl.chg nLt c5
          have e5 : Ext H H5 := e4.trans e45
          have hR5 : H5 R = some (.lst (rs.map V.ref)) := e45 _ _ (e24 _ _ hR2)
          have nRL : R ≠ Lt := ne_of_none (e24 _ _ hR2) nLt
          have nHL : H Lt = none := e4.nil nLt
          have ndL : d ≠ Lt := by
            obtain ⟨bs, hb, _⟩ := gd2
            exact ne_of_none (e24 _ _ hb) nLt
          have gd5 : GDict P w H5 d ((old ++ row) ++ []) := by
            rw [List.append_nil]
            refine gd2.keep ?_ fun b xs h => e45 _ _ (e24 _ _ h)
            obtain ⟨bs, hb, _⟩ := gd2
            rw [hb]
            exact e45 _ _ (e24 _ _ hb)
          have inU : ∀ later : List Grid, (∀ u ∈ later, ∃ t ∈ row, u ∈ movesF t) → ∀ x ∈ (old ++ row) ++ later, x ∈ U := fun later hl x hx => by
            rcases List.mem_append.mp hx with h | h
            · rcases List.mem_append.mp h with h | h
              · obtain ⟨j, _, r⟩ := lev.c x h
                exact hU2 j x r
              · obtain ⟨j, _, r⟩ := lev.d x h
                exact hU2 j x r
            · obtain ⟨t, ht, hm⟩ := hl x h
              obtain ⟨j, _, r⟩ := lev.d t ht
              exact hU2 (j + 1) x (.step r hm)
          refine ⟨_, rfl, R, rfl, ⟨_, SqL.of hR5⟩, ?_⟩
          refine for_list (xs := rs.map V.ref) (fun j σ H' => ∃ z5 z6 ls later, σ = [some (.ref a0), some (.ref d), some (.ref R), some (nV i), some (.ref Lt), z5, z6] ∧ Ext H H' ∧ H' R = some (.lst (rs.map V.ref)) ∧ GridsT H' rs row ∧ H' Lt = some (.lst (ls.map V.ref)) ∧ GridsT H' ls later ∧ GDict P w H' d ((old ++ row) ++ later) ∧
            (∀ u ∈ later, ∃ t ∈ row, u ∈ movesF t) ∧ (∀ t ∈ row.take j, ∀ u ∈ movesF t, u ∈ (old ++ row) ++ later)) ⟨z5, z6, [], [], rfl, e5, hR5, pairedMono (fun a b k => k.ext (e24.trans e45)) gr2, k5, .nil, gd5, by simp, by simp⟩ (fun j σ H' _ ⟨_, _, _, _, _, _, h, _⟩ => SqL.of h) ?_ ?_
          · rintro j x σ H6 hx ⟨z5, z6, ls, later, eσ, e6, hR6, gr6, hL6, gl6, gd6, x1, x2⟩
            subst eσ
            obtain ⟨ra, hra, rfl⟩ := map_get hx
            obtain ⟨t, ht⟩ := get_of_lt (l := row) (i := j) (by rw [← lrs]; exact (List.getElem?_eq_some_iff.mp hra).1)
            have htr := List.mem_of_getElem? ht
            obtain ⟨sq1, sq2⟩ := sqr t htr
            refine ⟨_, rfl, ra, t, rfl, paired_get gr6 hra ht, sq1, sq2, fun M ms H7 e7 nM hM gM => ⟨M, rfl, ⟨_, SqL.of hM⟩, ?_⟩⟩
            have nML : M ≠ Lt := (ne_of_none hL6 nM).symm
            have lms : ms.length = (movesF t).length := paired_len gM
            have gd7 : GDict P w H7 d ((old ++ row) ++ later) := gd6.keep (by
              obtain ⟨bs, hb, _⟩ := gd6
              rw [hb]
              exact e7 _ _ hb) fun b xs h => e7 _ _ h
            refine for_list (xs := ms.map V.ref) (fun l σ H' => ∃ z6 ls later, σ = [some (.ref a0), some (.ref d), some (.ref R), some (nV i), some (.ref Lt), some (.ref ra), z6] ∧ Ext H H' ∧ H' R = some (.lst (rs.map V.ref)) ∧ GridsT H' rs row ∧ H' Lt = some (.lst (ls.map V.ref)) ∧ GridsT H' ls later ∧ GDict P w H' d ((old ++ row) ++ later) ∧
              (∀ u ∈ later, ∃ t ∈ row, u ∈ movesF t) ∧ (∀ t ∈ row.take j, ∀ u ∈ movesF t, u ∈ (old ++ row) ++ later) ∧ (∀ u ∈ (movesF t).take l, u ∈ (old ++ row) ++ later) ∧ H' M = some (.lst (ms.map V.ref)) ∧ GridsT H' ms (movesF t)) ⟨z6, ls, later, rfl, e6.trans e7, e7 _ _ hR6, pairedMono (fun a b k => k.ext e7) gr6, e7 _ _ hL6, pairedMono (fun a b k => k.ext e7) gl6, gd7, x1, x2, by simp, hM, gM⟩ (fun l σ H' _ ⟨_, _, _, _, _, _, _, _, _, _, _, _, _, h, _⟩ => SqL.of h) ?_ ?_
            · rintro l x σ H8 hx ⟨z6, ls, later, eσ, e8, hR8, gr8, hL8, gl8, gd8, x1, x2, x3, hM8, gM8⟩
              subst eσ
              obtain ⟨b, hb, rfl⟩ := map_get hx
              obtain ⟨u0, hu0⟩ := get_of_lt (l := movesF t) (i := l) (by rw [← lms]; exact (List.getElem?_eq_some_iff.mp hb).1)
              have hG := paired_get gM8 hb hu0
              have tk : (movesF t).take (l + 1) = (movesF t).take l ++ [u0] := by rw [List.take_add_one, hu0]; rfl
              refine ⟨_, rfl, _, rfl, d, b, u0, _, rfl, rfl, hG, gd8, _, rfl, ?_⟩
              by_cases hin : u0 ∈ (old ++ row) ++ later
              · refine iteNS hin ⟨_, ls, later, rfl, e8, hR8, gr8, hL8, gl8, gd8, x1, x2, fun u hu => ?_, hM8, gM8⟩
                rw [tk] at hu
                rcases List.mem_append.mp hu with h | h
                · exact x3 u h
                · rw [List.mem_singleton] at h
                  rw [h]
                  exact hin
              · rw [decide_eq_false hin]
                refine iteT ?_
                have big : ((old ++ row) ++ later).length < sizeLine := by
                  obtain ⟨bs, _, _, hn, _⟩ := gd8
                  exact Nat.lt_of_le_of_lt (nodup_le hn (inU later x1)) hU1
                refine ⟨_, rfl, _, rfl, d, b, u0, _, rfl, rfl, rfl, hG, gd8, hin, big, fun u gd9 => ?_⟩
                generalize hu9 : upd H8 d u = H9 at *
                obtain ⟨_, c9⟩ := upd_eq hu9
                have dd : ∀ {q : Addr} {xs : List V}, H8 q = some (.lst xs) → H9 q = some (.lst xs) := fun h => (c9 _ (dR h gd8)).trans h
                have td : ∀ q xs, H8 q = some (.tup xs) → H9 q = some (.tup xs) := fun q xs h => (c9 q (by
                  obtain ⟨bs, hb, _⟩ := gd8
                  exact ne_of h hb (by intro z; unfold GDO at z; cases z))).trans h
                have hL9 := dd hL8
                have lls : ls.length ≤ ((old ++ row) ++ later).length := by
                  rw [paired_len gl8, List.length_append]
                  omega
                refine ⟨_, rfl, .inl ⟨rfl, _, SqL.of hL9⟩, _, rfl, Lt, _, _, rfl, rfl, hL9, by rw [List.length_map]; omega, ?_⟩
                generalize hu10 : upd H9 Lt _ = H10
                obtain ⟨k10, c10⟩ := upd_eq hu10
                have tk10 : ∀ q xs, H8 q = some (.tup xs) → H10 q = some (.tup xs) := fun q xs h => (c10 q (ne_of (td q xs h) hL9 (by intro z; cases z))).trans (td q xs h)
                refine ⟨_, ls ++ [b], later ++ [u0], rfl, (e8.chg nd0 c9).chg nHL c10, (c10 R nRL).trans (dd hR8), pairedMono (fun a b k => k.keep tk10) gr8, by rw [k10]; simp, paired_snoc (hG.keep tk10) (pairedMono (fun a b k => k.keep tk10) gl8), ?_, ?_, ?_, ?_, (c10 M nML).trans (dd hM8), pairedMono (fun a b k => k.keep tk10) gM8⟩
                · rw [← List.append_assoc]
                  exact gd9.keep (c10 d ndL) fun q xs h => (c10 q (ne_of h hL9 (by intro z; cases z))).trans h
                · intro u hu
                  rcases List.mem_append.mp hu with h | h
                  · exact x1 u h
                  · rw [List.mem_singleton] at h
                    rw [h]
                    exact ⟨t, htr, List.mem_of_getElem? hu0⟩
                · intro t' ht' u hu
                  rw [← List.append_assoc]
                  exact List.mem_append_left _ (x2 t' ht' u hu)
                · intro u hu
                  rw [← List.append_assoc]
                  rw [tk] at hu
                  rcases List.mem_append.mp hu with h | h
                  · exact List.mem_append_left _ (x3 u h)
                  · exact List.mem_append_right _ h
            · rintro σ H8 ⟨z6, ls, later, eσ, e8, hR8, gr8, hL8, gl8, gd8, x1, x2, x3, hM8, gM8⟩
              subst eσ
              rw [List.length_map, lms, List.take_length] at x3
              refine ⟨_, _, ls, later, rfl, e8, hR8, gr8, hL8, gl8, gd8, x1, fun t' ht' u hu => ?_⟩
              rw [List.take_add_one, ht] at ht'
              rcases List.mem_append.mp ht' with h | h
              · exact x2 t' h u hu
              · have : t' = t := by simpa using h
                subst this
                exact x3 u hu
          · rintro σ H6 ⟨z5, z6, ls, later, eσ, e6, hR6, gr6, hL6, gl6, gd6, x1, x2⟩
            subst eσ
            rw [List.length_map, lrs, List.take_length] at x2
            exact ⟨_, rfl, _, _, _, _, Lt, ls, old ++ row, later, rfl, e6, gd6, hL6, gl6, hlt, lev.next x2 x1⟩
        · obtain rfl : i = k := by omega
          have hw := lev.wet C
          obtain ⟨y, ys, ey⟩ := List.exists_cons_of_ne_nil hw
          rw [ey]
          have : PyData.eqv (.list ((y :: ys).map dG)) (.list (([] : List Grid).map dG)) = false := by simp [PyData.eqv, PyData.eqvAll]
          rw [this]
          exact iteT ⟨_, rfl, q H4 e4⟩
    · rintro σ H2 ⟨z3, z4, z5, z6, R, rs, old, row, eσ, e2, gd2, hR2, gr2, hik, lev⟩
      have := C.few
      omega
end
end K30

namespace K30
open PySem PySem.Spec PyProof.Rows L2
theorem tags_ok : ∀ ks ∈ tagsAll, (kindsOk (ks.take 3) = true ∧ kindsOk (ks.take 4) = true) ∧ ks.length = 4 := by decide +kernel
/-- what the plain law gives of a table of n kinds -/
structure Fine (n : Nat) (g : Grid) : Prop where
  ex : ∃ k : Nat, k < 13 ∧ leastM g = some (k : Int) ∧ Cert g k
  th : thOk g = true
  ev : evenOk g = true
  rows : ∀ row ∈ g, rowOk n row
  len : g.length = n
def Combo (n : Nat) (rs : List (List Nat)) : Prop := ∃ r1 ∈ lawRings n, rs = [r1] ∨ ∃ r2 ∈ lawRings n, r2.length + r1.length < 7 ∧ rs = [r1, r2]
def PlainLaw : Prop := ∀ n, n = 3 ∨ n = 4 → ∀ rs, Combo n rs → ∀ b : Nat, b < 2 → Fine n (setCell (laidM n rs) (n - 1) (n - 1) (b : Int))
theorem rings_few : ∀ n : Nat, n = 3 ∨ n = 4 → (∀ s, s ≤ n → (ringsGo n s).length ≤ 1000) ∧ 1 ≤ (lawRings n).length ∧ (lawRings n).length ≤ 1000 ∧ ∀ r ∈ lawRings n, (1 ≤ r.length ∧ r.length ≤ 100 ∧ ∀ a ∈ r, a < n) ∧ 1 ≤ ((lawRings n).filter fun q => decide (q.length + r.length < 7)).length := by
  intro n hn
  have h : (∀ s ∈ List.range 5, (ringsGo 3 s).length ≤ 1000 ∧ (ringsGo 4 s).length ≤ 1000) ∧ (1 ≤ (lawRings 3).length ∧ (lawRings 3).length ≤ 1000 ∧ ∀ r ∈ lawRings 3, (1 ≤ r.length ∧ r.length ≤ 100 ∧ ∀ a ∈ r, a < 3) ∧ 1 ≤ ((lawRings 3).filter fun q => decide (q.length + r.length < 7)).length) ∧
      (1 ≤ (lawRings 4).length ∧ (lawRings 4).length ≤ 1000 ∧ ∀ r ∈ lawRings 4, (1 ≤ r.length ∧ r.length ≤ 100 ∧ ∀ a ∈ r, a < 4) ∧ 1 ≤ ((lawRings 4).filter fun q => decide (q.length + r.length < 7)).length) := by decide +kernel
  obtain ⟨h1, h3, h4⟩ := h
  rcases hn with rfl | rfl
  · exact ⟨fun s hs => (h1 s (List.mem_range.mpr (by omega))).1, h3⟩
  · exact ⟨fun s hs => (h1 s (List.mem_range.mpr (by omega))).2, h4⟩
section
variable {P : Program} {w : World} {K : PySem.W.Frag} {mg : Str → Option Value} {base : Heap}
theorem pe_kcal {X : Cx} {k : Nat} {x y : Str} {sp : Sp} {p pos : Pos} {kws : List Keyword} {tk : TA} (F : KCal X.prog X.w X.K X.mg X.base k x y sp) (hr : Room k X.A) (hg : Gl X x) (hkw : PK X kws tk)
    (hall : (backToKw pos (keywordEach kws X.env)).all (·.1.isSome) = true := by rfl) (hks : (backToKw pos (keywordEach kws X.env)).filterMap (·.1) = [y] := by rfl) (hdb : (x == ("__debug__" : Str)) = false := by decide)
    (hpl : ((backTo pos (starEach [] X.env)).any (·.1) || (backToKw pos (keywordEach kws X.env)).any (·.1.isNone)) = false := by rfl) : PE X (.Call (.Name x p) [] kws pos) (tCallK sp (fun vs zs => vs ++ zs) E0 tNil tk) := by
  obtain ⟨f, fd, G, b, m, kp⟩ := F
  exact pe_callK0 G hr hg m kp b pass0 hkw hall hks hdb hpl
/-! ### _law_right -/
abbrev nRi : List Str := ["_law_well_here", "_law_size", "_law_rings_here", "_law_some", "_law_grid", "_law_mine", "_law_due", "_law_ring"]
theorem scRi : FnScope nRi ["_law_well_here"] (defScope (topS 76)) := ⟨rfl, rfl, rfl, by decide +kernel, rfl, by decide +kernel, by decide +kernel⟩
def spRi : Sp := fun vs H Q _ => ∃ wl : Addr, vs = [.ref wl] ∧ WellOk H wl ∧ ∀ H', FW wl H H' → Q (.bl true) H'
/-- what the law's second pick gives: one ring or two -/
def tSome (K : PySem.W.Frag) (H : Hp) (wl : Addr) : TS := fun D σ H5 => ∃ (n : Nat) (lR S0 ra : Addr) (rs : List Addr) (r1 : List Nat), σ = [some (.ref wl), some (nV n), some (.ref lR), some (.ref S0), none, none, none, none] ∧ (n = 3 ∨ n = 4) ∧ WellOk H5 wl ∧ FW wl H H5 ∧
  H5 lR = some (.lst (rs.map V.ref)) ∧ lR ≠ wl ∧ RingsAt H5 rs (lawRings n) ∧ H5 S0 = some (.lst [.ref ra]) ∧ H S0 = none ∧ S0 ≠ wl ∧ S0 ≠ lR ∧ H5 ra = some (.tup (rV r1)) ∧ r1 ∈ lawRings n ∧
  ∀ H6 ras rings, FW wl H H6 → WellOk H6 wl → H6 S0 = some (.lst (ras.map V.ref)) → RingsAt H6 ras rings → Combo n rings → D.nx σ H6
theorem WellOk.ext {H H' : Hp} {wl : Addr} (h : WellOk H wl) (e : Ext H H') : WellOk H' wl := let ⟨a, b, c, k, p⟩ := h; ⟨a, b, c, e _ _ k, p⟩
theorem fw_rings {H H' : Hp} {wl : Addr} {rs : List Addr} {L : List (List Nat)} (f : FW wl H H') (hw : WellOk H wl) (h : RingsAt H rs L) : RingsAt H' rs L := by
  obtain ⟨a, b, c, k, _⟩ := hw
  exact pairedMono (fun x r hx => f _ _ hx (ne_of hx k (by intro z; cases z))) h
theorem steps_sq {n : Nat} : ∀ (zs : List (Nat × Nat)) (g : Grid), Sq n g → Sq n (zs.foldl addCell g)
  | [], _, h => h
  | z :: zs, g, h => steps_sq zs (addCell g z) (Sq.set h)
theorem laid_sq (n : Nat) (rings : List (List Nat)) : Sq n (laidM n rings) := by
  have h : ∀ (rs : List (List Nat)) (g : Grid), Sq n g → Sq n (rs.foldl (fun g r => (lawSteps r).foldl addCell g) g) := by
    intro rs
    induction rs with
    | nil => exact fun _ h => h
    | cons r rs ih => exact fun g h => ih _ (steps_sq (lawSteps r) g h)
  exact h rings _ ⟨by simp, fun row hr => by rw [List.eq_of_mem_replicate hr]; simp⟩
theorem fn_ri (T : Txt K mg) (PL : PlainLaw) (f : Addr) (fd : FuncData) (F : FnP K "_law_right" "_law_right" (topS 76) f fd) : FnG P w K mg base 12 f fd ["_law_well_here"] spRi := by
  refine fnG_of F scRi (fun vs H Q E h => ?_) fun cdv A outer s H vs Q hgu hr h => ?_
  · obtain ⟨wl, rfl, _⟩ := h
    rfl
  · obtain ⟨wl, rfl, hw, q⟩ := h
    have nd := scRi.nd
    have cDr : Cal P w K mg base 1 "_law_draw" ["_law_well_here", "_law_many"] spDraw := cal_draw T
    have hr1 := hr.mono (show 1 ≤ 11 by decide)
    have hr2 := hr.mono (show 2 ≤ 11 by decide)
    have hr3 := hr.mono (show 3 ≤ 11 by decide)
    have hr4 := hr.mono (show 4 ≤ 11 by decide)
    have hr6 := hr.mono (show 5 + 1 ≤ 11 by decide)
    have hr10 := hr.mono (show 10 ≤ 11 by decide)
    refine ⟨_, PSs.nox (pss_cons (ps_set (i := 1) nd rfl (Or.inl rfl) (pe_op op_add pe_int (pe_cal cDr hr1 rfl (pa_cons (pv 0) (pa_cons pe_int pa_nil)))))
      (pss_cons (ps_set (i := 2) nd rfl (Or.inl rfl) (pe_cal (cal_lr T) hr1 rfl (pa_cons (pv 1) pa_nil)))
      (pss_cons (ps_set (i := 3) nd rfl (Or.inr rfl) (pe_lst (pa_cons (pe_cal (cal_pick T) hr2 rfl (pa_cons (pv 0) (pa_cons (pv 2) pa_nil))) pa_nil)))
      (pss_cons (psImp (t' := tSome K H wl) (ps_if (pt_cmpR op_eq (pe_cal cDr hr1 rfl (pa_cons (pv 0) (pa_cons pe_int pa_nil))) pe_int (nomark _))
        (pss_one (ps_expr (pe_bm PySem.F.plainAttrs_list PySem.F.slot_list_append PySem.F.type_list_append mt_append (pv 3) (pa_cons (pe_cal (cal_pick T) hr2 rfl (pa_cons (pv 0) (pa_cons
          (pe_lc (own := [("_law_ring", 7)]) (g := gName 7) (tt := tTest (tOp (rI0 fun i j => V.bl (decide (i < j))) (tOp (rI0 fun i j => .int (i + j)) (tCB (lsR K) (tCons (tVar 7) tNil)) (tCB (lsR K) (tCons (tOp (rIxL K) (tVar 3) (tC (.int 0))) tNil))) (tC (.int 7)))) rfl nd (pi_list (pv 2)) (blkOk_by (N := nRi) (sc := defScope (topS 76)) (by decide +kernel)) (fun _ _ _ _ _ => pg_name (i := 7) nd rfl (Or.inl rfl))
            (fun _ _ _ _ _ => pts_one (pt_cmpR op_lt (pe_op op_add (pe_callB call_len_seq (by rfl) T.fr_len PySem.boot_len (pa_cons (pv 7) pa_nil)) (pe_callB call_len_seq (by rfl) T.fr_len PySem.boot_len (pa_cons (pe_ix ix_list (pv 3) pe_int (fun _ _ => rfl)) pa_nil))) pe_int (nomark _))) (fun _ _ _ _ _ => pv 7)) pa_nil))) pa_nil)))) pss_nil) ?_)
      (pss_cons (ps_set (i := 4) nd rfl (Or.inl rfl) (pe_cal (cal_ld T) hr2 rfl (pa_cons (pv 1) (pa_cons (pe_lc (own := [("_law_ring", 7)]) (g := gName 7) (tt := tYes) rfl nd (pi_list (pv 3)) (blkOk_by (N := nRi) (sc := defScope (topS 76)) (by decide +kernel)) (fun _ _ _ _ _ => pg_name (i := 7) nd rfl (Or.inl rfl)) (fun _ _ _ _ _ => pts_nil) (fun _ _ _ _ _ => pe_tup (pa_cons (pv 7) (pa_cons pe_int pa_nil)))) pa_nil))))
      (pss_cons (ps_asg (pe_cal cDr hr1 rfl (pa_cons (pv 0) (pa_cons pe_int pa_nil))) (pg_sub (pe_ix ix_list (pv 4) (pe_op op_sub (pv 1) pe_int) (fun _ _ => rfl)) (pe_op op_sub (pv 1) pe_int) set_list))
      (pss_cons (ps_par (i := 5) (j := 6) (by rfl) nd rfl rfl (by decide) rfl rfl (pa_cons (pe_ical (cal_yard T) hr6 rfl (pa_cons (pe_cal (cal_tg T) hr3 rfl (pa_cons (pv 0) (pa_cons (pv 1) pa_nil))) (pa_cons (pe_cal (cal_fz T) hr1 rfl (pa_cons (pv 4) pa_nil)) pa_nil))) (pa_cons (pe_cal (cal_rn T) hr4 rfl (pa_cons (pe_cal (cal_fz T) hr1 rfl (pa_cons (pv 4) pa_nil)) pa_nil)) pa_nil)) (by rfl))
      (pss_one (ps_ret (pe_cmpR op_eq (pe_callB (cr_repr2 hgu hr.units) (by rfl) T.fr_repr (by decide +kernel) (pa_cons (pe_lst (pa_cons (pe_cal (cal_lm T) hr10 rfl (pa_cons (pv 5) pa_nil)) (pa_cons (pe_kcal (kcal_lm T) hr10 rfl (pk_cons (pv 5) pk_nil)) pa_nil))) pa_nil))
        (pe_callB (cr_repr2 hgu hr.units) (by rfl) T.fr_repr (by decide +kernel) (pa_cons (pe_lst (pa_cons (pv 6) (pa_cons (pv 6) pa_nil))) pa_nil)) (nomark _))))))))))), ?_⟩
    · rintro D σ H5 ⟨n, lR, S0, ra, rs, r1, eσ, hn, hw5, f5, hlR, nlw, hrs, hS, nS, nSw, nSl, hra, hr1m, k⟩
      subst eσ
      obtain ⟨_, _, _, fewR⟩ := rings_few n hn
      obtain ⟨⟨q1, q2, q3⟩, q4⟩ := fewR r1 hr1m
      refine ⟨_, rfl, wl, 2, rfl, hw5, by decide, by decide, fun d1 H6 hd1 f6 hw6 => ⟨rfl, _, rfl, ?_⟩⟩
      have hS6 := f6 _ _ hS nSw
      have hrs6 := fw_rings f6 hw5 hrs
      have hlR6 := f6 _ _ hlR nlw
      have hra6 : H6 ra = some (.tup (rV r1)) := by
        obtain ⟨a, b, c, kk, _⟩ := hw5
        exact f6 _ _ hra (ne_of hra kk (by intro z; cases z))
      by_cases c : d1 = 0
      · subst c
        refine iteT ?_
        refine ⟨_, rfl, .inl ⟨rfl, _, SqL.of hS6⟩, _, rfl, _, rfl, lR, rfl, ⟨_, SqL.of hlR6⟩, fun D2 hD2 => ?_⟩
        have lrs : rs.length = (lawRings n).length := paired_len hrs6
        have lim := (rings_few n hn).2.2.1
        refine lc_list (K := K) (a := lR) (xs := rs.map V.ref) (fun j H' => Ext H6 H' ∧ ∃ fs, H' D2 = some (.lst (fs.map V.ref)) ∧ fs.length ≤ j ∧ RingsAt H' fs (((lawRings n).take j).filter fun q => decide (q.length + r1.length < 7))) ⟨Ext.one hD2, [], upd_same, by simp, .nil⟩ (fun j H' _ ⟨e, _⟩ => SqL.of (e _ _ hlR6)) ?_ ?_
        · rintro j x H7 hx ⟨e7, fs, h7, l7, g7⟩
          obtain ⟨rr, hrr, rfl⟩ := map_get hx
          obtain ⟨r, hr0⟩ := get_of_lt (l := lawRings n) (i := j) (by rw [← lrs]; exact (List.getElem?_eq_some_iff.mp hrr).1)
          have hR := e7 _ _ (paired_get hrs6 hrr hr0)
          have hj : j < (lawRings n).length := (List.getElem?_eq_some_iff.mp hr0).1
          have ef : (((lawRings n).take (j + 1)).filter fun q => decide (q.length + r1.length < 7)) = (((lawRings n).take j).filter fun q => decide (q.length + r1.length < 7)) ++ if r.length + r1.length < 7 then [r] else [] := by
            rw [List.take_add_one, hr0, List.filter_append]
            congr 1
            show List.filter _ [r] = _
            rw [List.filter_cons, List.filter_nil]
            by_cases c : r.length + r1.length < 7
            · rw [if_pos (decide_eq_true c), if_pos c]
            · rw [if_neg (by rw [decide_eq_false c]; exact Bool.false_ne_true), if_neg c]
          refine ⟨rfl, ?_⟩
          refine ⟨_, rfl, rr, _, rfl, .inr (SqT.of hR), _, rfl, S0, _, _, .ref ra, rfl, rfl, SqL.of (e7 _ _ hS6), atI_nat (j := 0) rfl, ra, _, rfl, .inr (SqT.of (e7 _ _ hra6)), _, _, rfl, rfl, _, _, rfl, rfl, _, rfl, ?_⟩
          by_cases c : r.length + r1.length < 7
          · refine iteD (by rw [List.length_map, List.length_map]; omega) ⟨_, rfl, _, h7, by rw [List.length_map]; show _ < 16777216; omega, e7.put hD2, fs ++ [rr], by rw [upd_same]; simp, by simp; omega, ?_⟩
            rw [ef, if_pos c]
            refine paired_snoc ?_ (pairedMono (fun a b k => ?_) g7)
            · rw [upd_ne (ne_of hR h7 (by intro z; cases z))]
              exact hR
            · rw [upd_ne (ne_of k h7 (by intro z; cases z))]
              exact k
          · refine iteN (by rw [List.length_map, List.length_map]; omega) ⟨e7, fs, h7, by omega, ?_⟩
            rw [ef, if_neg c, List.append_nil]
            exact g7
        · rintro H7 ⟨e7, fs, h7, l7, g7⟩
          rw [List.length_map, lrs, List.take_length] at g7
          have lfs := paired_len g7
          have nDw : D2 ≠ wl := by
            obtain ⟨a, b, c, kk, _⟩ := hw6
            exact (ne_of_none kk hD2).symm
          refine ⟨wl, D2, _, rfl, hw6.ext e7, h7, nDw, by rw [List.length_map, lfs]; exact q4, ?_, fun i x H8 hx f8 hw8 => ?_⟩
          · rw [List.length_map, lfs]
            exact Nat.le_trans (List.length_filter_le _ _) lim
          obtain ⟨rb, hrb, rfl⟩ := map_get hx
          obtain ⟨r2, hr2⟩ := get_of_lt (l := (lawRings n).filter fun q => decide (q.length + r1.length < 7)) (i := i) (by rw [← lfs]; exact (List.getElem?_eq_some_iff.mp hrb).1)
          have hr2m := List.mem_filter.mp (List.mem_of_getElem? hr2)
          have hw7 := hw6.ext e7
          have hrb8 : H8 rb = some (.tup (rV r2)) := by
            have a1 := paired_get g7 hrb hr2
            obtain ⟨a, b, c, kk, _⟩ := hw7
            exact f8 _ _ a1 (ne_of a1 kk (by intro z; cases z))
          have hra8 : H8 ra = some (.tup (rV r1)) := by
            have a1 := e7 _ _ hra6
            obtain ⟨a, b, c, kk, _⟩ := hw7
            exact f8 _ _ a1 (ne_of a1 kk (by intro z; cases z))
          have hS8 := f8 _ _ (e7 _ _ hS6) nSw
          refine ⟨S0, _, _, rfl, rfl, hS8, (by show 1 < 16777216; decide), ?_⟩
          generalize hu9 : upd H8 S0 _ = H9
          obtain ⟨k9, c9⟩ := upd_eq hu9
          refine k H9 [ra, rb] [r1, r2] ?_ ?_ k9 ?_ ⟨r1, hr1m, .inr ⟨r2, hr2m.1, of_decide_eq_true hr2m.2, rfl⟩⟩
          · exact Frm.chg (((f5.trans f6).trans e7.frm).trans f8) (.inr nS) c9
          · obtain ⟨a, b, c, kk, p⟩ := hw8
            exact ⟨a, b, c, (c9 wl nSw.symm).trans kk, p⟩
          · exact .cons ((c9 ra (ne_of hra8 hS8 (by intro z; cases z))).trans hra8) (.cons ((c9 rb (ne_of hrb8 hS8 (by intro z; cases z))).trans hrb8) .nil)
      · refine iteN (by intro e; injection e with e; omega) ?_
        exact k H6 [ra] [r1] (f5.trans f6) hw6 hS6 (.cons hra6 .nil) ⟨r1, hr1m, .inl rfl⟩
    · refine ⟨_, rfl, wl, 2, rfl, hw, by decide, by decide, fun d0 H1 hd0 f1 hw1 => ⟨_, _, rfl, rfl, ?_⟩⟩
      obtain ⟨n, hn, hn34⟩ : ∃ n : Nat, (3 : Int) + (d0 : Int) = (n : Int) ∧ (n = 3 ∨ n = 4) := ⟨3 + d0, by omega, by omega⟩
      show gName 1 (V.int ((3 : Int) + (d0 : Int))) _ _ _
      rw [hn]
      obtain ⟨fw1, fw2, fw3, fw4⟩ := rings_few n hn34
      refine ⟨_, rfl, n, rfl, by omega, by omega, fw1, fun lR rs H2 e2 nlR hlR hrs => ?_⟩
      obtain ⟨wa, wb, wc, hwl, hwc⟩ := hw1
      have hw2 : WellOk H2 wl := ⟨wa, wb, wc, e2 _ _ hwl, hwc⟩
      have nlw : lR ≠ wl := (ne_of_none hwl nlR).symm
      have lrs : rs.length = (lawRings n).length := paired_len hrs
      refine ⟨_, rfl, _, rfl, wl, lR, _, rfl, hw2, hlR, nlw, by rw [List.length_map, lrs]; exact fw2, by rw [List.length_map, lrs]; exact fw3, fun i x H3 hx f3 hw3 => ⟨(by show 1 ≤ 16777216; decide), fun S0 nS0 => ?_⟩⟩
      obtain ⟨ra, hra, rfl⟩ := map_get hx
      obtain ⟨r1, hr1⟩ := get_of_lt (l := lawRings n) (i := i) (by rw [← lrs]; exact (List.getElem?_eq_some_iff.mp hra).1)
      generalize hu4 : upd H3 S0 _ = H4
      obtain ⟨k4, c4⟩ := upd_eq hu4
      have e4 : Ext H3 H4 := Ext.refl.chg nS0 c4
      have hlR3 := f3 _ _ hlR nlw
      have hrs3 := fw_rings f3 hw2 hrs
      have f13 : FW wl H H3 := (f1.trans e2.frm).trans f3
      have nSw : S0 ≠ wl := by
        obtain ⟨a, b, c, kk, _⟩ := hw3
        exact (ne_of_none kk nS0).symm
      have nS : H S0 = none := by
        cases e : H S0 with
        | none => rfl
        | some o =>
          have := f13 _ _ e nSw
          rw [nS0] at this
          cases this
      refine ⟨n, lR, S0, ra, rs, r1, rfl, hn34, hw3.ext e4, f13.trans e4.frm, e4 _ _ hlR3, nlw, pairedMono (fun a b k => e4 _ _ k) hrs3, k4, nS, nSw, (ne_of_none hlR3 nS0).symm, e4 _ _ (paired_get hrs3 hra hr1), List.mem_of_getElem? hr1, fun H6 ras rings f6 hw6 hS6 hrg combo => ?_⟩
      have okR : ∀ r ∈ rings, 1 ≤ r.length ∧ r.length ≤ 100 ∧ ∀ a ∈ r, a < n := by
        obtain ⟨q1, hq1, hq⟩ := combo
        intro r hr
        rcases hq with rfl | ⟨q2, hq2, _, rfl⟩
        · rw [List.mem_singleton] at hr
          subst hr
          exact (fw4 _ hq1).1
        · rcases List.mem_cons.mp hr with rfl | hr
          · exact (fw4 _ hq1).1
          · rw [List.mem_singleton] at hr
            subst hr
            exact (fw4 _ hq2).1
      have lr2 : ras.length ≤ 2 := by
        rw [paired_len hrg]
        obtain ⟨q1, hq1, hq⟩ := combo
        rcases hq with rfl | ⟨q2, hq2, _, rfl⟩ <;> simp
      refine ⟨_, rfl, _, rfl, S0, rfl, ⟨_, SqL.of hS6⟩, fun D hD => ?_⟩
      refine lc_list (K := K) (a := S0) (xs := ras.map V.ref) (fun j H' => Ext H6 H' ∧ ∃ pps, H' D = some (.lst (pps.map V.ref)) ∧ pps.length ≤ j ∧ Paired (OneR H') pps (rings.take j)) ⟨Ext.one hD, [], upd_same, by simp, .nil⟩ (fun j H' _ ⟨e, _⟩ => SqL.of (e _ _ hS6)) ?_ ?_
      · rintro j x H7 hx ⟨e7, pps, h7, l7, g7⟩
        obtain ⟨ro, hro, rfl⟩ := map_get hx
        obtain ⟨r, hr0⟩ := get_of_lt (l := rings) (i := j) (by rw [← paired_len hrg]; exact (List.getElem?_eq_some_iff.mp hro).1)
        have hR := e7 _ _ (paired_get hrg hro hr0)
        have hj : j < ras.length := (List.getElem?_eq_some_iff.mp hro).1
        refine ⟨rfl, ?_⟩
        refine ⟨_, rfl, (by show 2 ≤ 16777216; decide), fun t nt => ⟨_, (upd_ne (ne_of_none h7 nt)).trans h7, by rw [List.length_map]; show _ < 16777216; omega, (e7.new nt).put hD, pps ++ [t], by rw [upd_same]; simp, by simp; omega, ?_⟩⟩
        rw [List.take_add_one, hr0]
        have ntD : t ≠ D := (ne_of_none h7 nt).symm
        have keep : ∀ b xs, H7 b = some (.tup xs) → upd (upd H7 t (.tup [.ref ro, .int 1])) D (.lst (pps.map V.ref ++ [.ref t])) b = some (.tup xs) := fun b xs h => by
          rw [upd_ne (ne_of h h7 (by intro z; cases z)), upd_ne (ne_of_none h nt)]
          exact h
        have tN : upd (upd H7 t (.tup [.ref ro, .int 1])) D (.lst (pps.map V.ref ++ [.ref t])) t = some (.tup [.ref ro, .int 1]) := by
          rw [upd_ne ntD]
          exact upd_same
        exact paired_snoc ⟨ro, tN, keep _ _ hR⟩ (pairedMono (fun a b k => let ⟨ra', k1, k2⟩ := k; ⟨ra', keep _ _ k1, keep _ _ k2⟩) g7)
      · rintro H7 ⟨e7, pps, h7, l7, g7⟩
        rw [List.length_map, paired_len hrg, List.take_length] at g7
        refine ⟨n, D, pps, rings, rfl, h7, g7, by omega, okR, fun ga0 gras H8 e8 gl8 => ?_⟩
        have hw7 := hw6.ext e7
        obtain ⟨va, vb, vc, hv7, hvc⟩ := hw7
        have hw8 : WellOk H8 wl := ⟨va, vb, vc, e8 _ _ hv7, hvc⟩
        have f8 : FW wl H H8 := (f6.trans e7.frm).trans e8.frm
        have sq8 : Sq n (laidM n rings) := laid_sq n rings
        refine ⟨_, rfl, wl, 2, rfl, hw8, by decide, by decide, fun d2 H9 hd2 f9 hw9 => ?_⟩
        have gl9 : GridL H7 H9 ga0 (laidM n rings) gras := by
          have ng : ∀ r, H7 r = none → r ≠ wl := fun r h e => by
            rw [e, hv7] at h
            cases h
          exact ⟨f9 _ _ gl8.top (ng _ gl8.fa), gl8.fa, gl8.nd, gl8.na, gl8.fr, paired_memL gl8.rows fun a b ha k => f9 _ _ k (ng _ (gl8.fr a ha))⟩
        have n1 : (n : Int) - 1 = ((n - 1 : Nat) : Int) := by omega
        obtain ⟨ro, row, hro, hrow, hRow, hro0, upg⟩ := gl9.at_ (p := n - 1) (by rw [sq8.1]; omega)
        refine ⟨_, rfl, _, rfl, _, _, rfl, rfl, ga0, _, _, .ref ro, rfl, rfl, SqL.of gl9.top, (by rw [n1]; exact atI_nat (by rw [List.getElem?_map, hro]; rfl)), _, rfl, _, _, rfl, rfl, ro, _, _, n - 1, rfl, rfl, hRow, (by rw [n1]; exact ixN_of (by rw [List.length_map, sq8.row hrow]; omega)), ?_⟩
        rw [set_map]
        generalize hu10 : upd H9 ro _ = H10
        obtain ⟨k10, c10⟩ := upd_eq hu10
        have nrow : ro ≠ wl := fun e => by
          rw [e, hv7] at hro0
          cases hro0
        have gl10 := upg (n - 1) (d2 : Int) H10 k10 c10
        have hw10 : WellOk H10 wl := by
          obtain ⟨a, b, c, kk, p⟩ := hw9
          exact ⟨a, b, c, (c10 wl nrow.symm).trans kk, p⟩
        have hro_H : H ro = none := by
          cases e : H ro with
          | none => rfl
          | some o =>
            have := (f6.trans e7.frm) _ _ e nrow
            rw [hro0] at this
            cases this
        have f10 : FW wl H H10 := Frm.chg (f8.trans f9) (.inr hro_H) c10
        have fine := PL n hn34 rings combo d2 hd2
        generalize hgg : setCell (laidM n rings) (n - 1) (n - 1) (d2 : Int) = g at *
        obtain ⟨⟨k, hk13, hkl, hkc⟩, hth, hev, hrows, hglen⟩ := fine
        refine ⟨_, rfl, _, rfl, wl, n, rfl, hw10, by omega, fun t ks H11 hks f11 hw11 nt ht => ?_⟩
        have nwg : ∀ r, H7 r = none → r ≠ wl := fun r h e => by
          rw [e, hv7] at h
          cases h
        have top11 := f11 _ _ gl10.top (nwg _ gl10.fa)
        have rows11 : Paired (fun r (row : List Int) => H11 r = some (.lst (row.map V.int))) gras g := paired_memL gl10.rows fun a b ha k => f11 _ _ k (nwg _ (gl10.fr a ha))
        refine ⟨_, rfl, ga0, g, gras, rfl, top11, rows11, by omega, fun gt H12 e12 ngt gT => ?_⟩
        obtain ⟨⟨kk3, kk4⟩, kk⟩ := tags_ok ks hks
        have hkk : kindsOk (ks.take n) = true := by
          rcases hn34 with h | h
          · rw [h]; exact kk3
          · rw [h]; exact kk4
        have hkn : (ks.take n).length = n := by
          rw [List.length_take]
          omega
        have hrows' : ∀ row ∈ g, rowOk (ks.take n).length row := by
          rw [hkn]
          exact hrows
        refine fun x dx nx ndx nex => spYard_mk (ks := ks.take n) (g := g) nx ndx nex (e12 _ _ ht) hkk gT (by rw [hkn]; exact hglen) hrows' hev fun H13 e13 yd => ?_
        have e11_13 := e12.trans e13
        refine ⟨_, rfl, ga0, g, gras, rfl, e11_13 _ _ top11, pairedMono (fun a b k => e11_13 _ _ k) rows11, by omega, fun gb H14 e14 ngb gT2 => ⟨gb, g, k, rfl, gT2, hkc, fun H15 e15 => ⟨_, _, rfl, ?_⟩⟩⟩
        have yd15 := yd.ext (e14.trans e15)
        have gT15 := gT.ext ((e13.trans e14).trans e15)
        refine ⟨_, rfl, x, t, gt, g, k, rfl, yd15, gT15, hth, hkl, fun H16 e16 => ?_⟩
        refine ⟨_, rfl, x, t, gt, g, k, rfl, yd15.ext e16, gT15.ext e16, hth, hkl, fun H17 e17 => ⟨(by show 2 ≤ 16777216; decide), fun l1 nl1 => ?_⟩⟩
        have e18 : Ext H17 (upd H17 l1 (.lst [.int (k : Int), .int (k : Int)])) := Ext.one nl1
        refine ⟨l1, k, rfl, SqL.of upd_same, hk13, _, rfl, _, rfl, (by show 2 ≤ 16777216; decide), fun l2 nl2 => ⟨l2, k, rfl, SqL.of upd_same, hk13, rfl, ?_⟩⟩
        have eAll : Ext H11 (upd (upd H17 l1 (.lst [.int (k : Int), .int (k : Int)])) l2 (.lst [.int (k : Int), .int (k : Int)])) := (((((e11_13.trans e14).trans e15).trans e16).trans e17).trans e18).new nl2
        have := q _ ((f10.trans f11).trans eAll.frm)
        rw [show decide (V.str (repr2 k) = V.str (repr2 k)) = true from decide_eq_true rfl]
        exact this
end
end K30

namespace K30
open PySem PySem.Spec PyProof.Rows L2
section
variable {P : Program} {w : World} {K : PySem.W.Frag} {mg : Str → Option Value} {base : Heap}
theorem sq_keep {H H' : Hp} {a : Addr} {xs : List V} (h : SqL K H a xs) (k : ∀ o, H a = some o → H' a = some o) : SqL K H' a xs := by
  rcases h with (h | ⟨o, h⟩) | h
  · exact .inl (.inl (k _ h))
  · exact .inl (.inr ⟨o, k _ h⟩)
  · exact .inr h
/-! ### law -/
abbrev nLaw : List Str := ["_law_script", "_law_spot"]
theorem scLaw : FnScope nLaw ["_law_script"] (defScope (topS 77)) := ⟨rfl, rfl, rfl, by decide +kernel, rfl, by decide +kernel, by decide +kernel⟩
def spLaw (K : PySem.W.Frag) : Sp := fun vs H Q _ => ∃ (a : Addr) (ns : List Int), vs = [.ref a] ∧ SqL K H a (ns.map V.int) ∧ ns.length ≤ 1000 ∧ ∀ H', Q (.bl true) H'
theorem fn_law (T : Txt K mg) (PL : PlainLaw) (f : Addr) (fd : FuncData) (F : FnP K "law" "law" (topS 77) f fd) : FnG P w K mg base 13 f fd ["_law_script"] (spLaw K) := by
  refine fnG_of F scLaw (fun vs H Q E h => ?_) fun cdv A outer s H vs Q hgu hr h => ?_
  · obtain ⟨a, ns, rfl, _⟩ := h
    rfl
  · obtain ⟨a, ns, rfl, hs, hl, q⟩ := h
    have nd := scLaw.nd
    obtain ⟨fr, fdr, Fr, mr⟩ := T.def_law_right
    have Gr : FnG P w K mg base 12 fr fdr ["_law_well_here"] spRi := fn_ri T PL fr fdr Fr
    have br : Binds K fdr ["_law_well_here"] [] := Fr.bindsN (fun _ _ _ _ _ _ us hl => match us, hl with | [_], _ => rfl)
    have cW : Cal P w K mg base 1 "_law_well" ["_law_script", "_law_spot"] (spWell K) := cal_well T
    have hr1 := hr.mono (show 1 ≤ 12 by decide)
    refine ⟨_, PSs.nox (pss_one (ps_ret (pe_callB (cr_all rfl) (by rfl) T.fr_all (by decide +kernel) (pa_cons (pe_lc (own := [("_law_spot", 1)]) (g := gName 1) (tt := tYes) (te := tCall spRi [] E0 (tCons (tCall (spWell K) [] E0 (tCons (tVar 0) (tCons (tVar 1) tNil))) tNil)) rfl nd (pi_range1 rfl T.fr_range (pa_cons pe_int pa_nil)) (blkOk_by (N := nLaw) (sc := defScope (topS 77)) (by decide +kernel)) (fun _ _ _ _ _ => pg_name (i := 1) nd rfl (Or.inl rfl)) (fun _ _ _ _ _ => pts_nil)
      (fun _ _ _ _ _ => pe_callG Gr hgu hr rfl mr Fr.kp br (pa_cons (pe_cal cW hr1 rfl (pa_cons (pv 0) (pa_cons (pv 1) pa_nil))) pa_nil))) pa_nil)))), ?_⟩
    refine ⟨2, rfl, by decide, by decide, fun D hD => ?_⟩
    refine lc_range (lo := 0) (n := 2) (fun i H' => Ext H H' ∧ H' D = some (.lst ((List.replicate i true).map V.bl))) ⟨Ext.one hD, upd_same⟩ ?_ ?_
    · rintro i H1 hi ⟨e1, h1⟩
      rw [Int.zero_add]
      refine ⟨rfl, ?_⟩
      refine ⟨_, rfl, _, rfl, a, ns, i, rfl, sq_keep hs (e1 a), hl, by omega, fun H' e' => sq_keep hs fun o ho => e' _ _ (e1 _ _ ho), fun wl H2 e2 nwl hw => ⟨wl, rfl, hw, fun H3 f3 => ?_⟩⟩
      have nw : H wl = none := e1.nil nwl
      have e3 : Ext H H3 := fun q' o ho => f3 _ _ (e2 _ _ (e1 _ _ ho)) (ne_of_none ho nw)
      refine ⟨_, f3 _ _ (e2 _ _ h1) (ne_of_none h1 nwl), ?_, e3.put hD, ?_⟩
      · rw [List.length_map, List.length_replicate]
        show _ < 16777216
        omega
      · rw [upd_same, List.replicate_succ']
        simp
    · rintro H1 ⟨e1, h1⟩
      refine ⟨D, _, rfl, SqL.of h1, ?_⟩
      rw [show (List.replicate 2 true).all id = true from rfl]
      exact q H1
end
end K30

namespace K30
open PySem PySem.Spec PyProof.Rows L2
/-! ### what the head tells of the class with slots -/
def slot1B (K : PySem.W.Frag) (f : Str) (i : Nat) : Bool :=
  He.eqO (PySem.W.findIn K (.ref (He.ga K "Yard")) f) (some (some (.ref (He.ma K (He.ga K "Yard") f)))) && (He.eqO (PySem.W.specialIn K (.ref (He.ma K (He.ga K "Yard") f)) "__get__") (some (some (.builtin "member_descriptor.__get__"))) &&
    (decide (PySem.W.takesIn K (.ref (He.ma K (He.ga K "Yard") f)) = some true) && (decide (PySem.W.typeIn K (.ref (He.ma K (He.ga K "Yard") f)) = some (.type "member_descriptor")) && decide (PySem.W.slotIn K (He.ma K (He.ga K "Yard") f) (He.ga K "Yard") = some i))))
theorem slot1B_ok {K : PySem.W.Frag} {f : Str} {i : Nat} (hi : i < 1000) (h : slot1B K f i = true) : SlX.Slot1 K (He.ga K "Yard") f (He.ma K (He.ga K "Yard") f) i := by
  unfold slot1B at h
  obtain ⟨a, h⟩ := He.ba h
  obtain ⟨b, h⟩ := He.ba h
  obtain ⟨c, h⟩ := He.ba h
  obtain ⟨d, e⟩ := He.ba h
  exact ⟨He.eqO_ok a, He.eqO_ok b, of_decide_eq_true c, of_decide_eq_true d, of_decide_eq_true e, hi⟩
def slB (K : PySem.W.Frag) : Bool :=
  (PySem.W.plainGet K (He.ga K "Yard") Str.empty && (PySem.W.isClsIn K (He.ga K "Yard") && (PySem.W.plainOver K (He.ga K "Yard") && He.eqO (PySem.W.findIn K (.ref (He.ga K "Yard")) "__setattr__") (some (some (.builtin "object.__setattr__")))))) &&
    ((He.eqO (PySem.W.findIn K (.ref (He.ga K "Yard")) "__class__") (some (some (.builtin "object.__class__"))) && (He.eqO (PySem.W.specialIn K (.builtin "object.__class__") "__get__") (some (some (.builtin "getset_descriptor.__get__"))) && (decide (PySem.W.takesIn K (.builtin "object.__class__") = some true) && decide (PySem.W.mroIn K (He.ga K "Yard") (.type "object") = some true)))) &&
    (slot1B K "shape" 1 && (slot1B K "body" 0 && decide (PySem.W.kitOne K (.ref (He.ga K "Yard")) (.ref (He.ga K "Yard")) = some true))))
theorem slB_ok {K : PySem.W.Frag} (h : slB K = true) : SlX.SCls K (He.ga K "Yard") ∧ SlX.SIsi K (He.ga K "Yard") ∧ SlX.Slot1 K (He.ga K "Yard") "shape" (He.ma K (He.ga K "Yard") "shape") 1 ∧ SlX.Slot1 K (He.ga K "Yard") "body" (He.ma K (He.ga K "Yard") "body") 0 ∧ PySem.W.kitOne K (.ref (He.ga K "Yard")) (.ref (He.ga K "Yard")) = some true := by
  unfold slB at h
  obtain ⟨h1, h⟩ := He.ba h
  obtain ⟨h2, h⟩ := He.ba h
  obtain ⟨h3, h⟩ := He.ba h
  obtain ⟨h4, h5⟩ := He.ba h
  obtain ⟨a1, h1⟩ := He.ba h1
  obtain ⟨a2, h1⟩ := He.ba h1
  obtain ⟨a3, a4⟩ := He.ba h1
  obtain ⟨b1, h2⟩ := He.ba h2
  obtain ⟨b2, h2⟩ := He.ba h2
  obtain ⟨b3, b4⟩ := He.ba h2
  exact ⟨⟨a1, a2, a3, He.eqO_ok a4⟩, ⟨He.eqO_ok b1, He.eqO_ok b2, of_decide_eq_true b3, of_decide_eq_true b4⟩, slot1B_ok (by decide) h3, slot1B_ok (by decide) h4, of_decide_eq_true h5⟩
abbrev AlK : Type := Bool × He.AlD
def obsK (fa : List He.Fa) (fn : List He.DefD) (K : PySem.W.Frag) : AlK := (slB K, He.obsD fa fn K)
def valK (fn : List He.DefD) : AlK := (true, He.valD fn)
/-- what the walk needs to see: the module's names, five classes with their names, the functions' codes -/
def fnRefs (g : Addr → Option Obj) (a : Addr) : List Addr := match g a with
  | some ⟨_, _, .func fd, _⟩ => He.refV fd.code ++ He.refV fd.defaults
  | _ => []
def allRefs (g : Addr → Option Obj) (a : Addr) : List Addr := match g a with
  | some o => He.refsO o
  | none => []
def asK (g : Addr → Option Obj) : List Addr :=
  let fs := allRefs g mainGlobals
  let ns := ([PySem.Str.ofString "Arc", PySem.Str.ofString "Step", PySem.Str.ofString "Transport", PySem.Str.ofString "Threes", PySem.Str.ofString "Yard"].map (He.ga (He.frG g [mainGlobals]))).flatMap (allRefs g)
  let ms := ns.flatMap (allRefs g)
  mainGlobals :: (fs ++ (ns ++ (ms ++ (fs.flatMap (fnRefs g) ++ ms.flatMap (fnRefs g)))))
def obsKG (fa : List He.Fa) (fn : List He.DefD) (g : Addr → Option Obj) : AlK := obsK fa fn (He.frG g (asK g))
def hookK (fa : List He.Fa) (fn : List He.DefD) : PySem.W.Hook where
  α := AlK
  obs := fun s => obsKG fa fn s.heap.get?
  val := fun _ => valK fn
  says := fun _ h => ∃ K : PySem.W.Frag, K.In h ∧ obsK fa fn K = valK fn
  of := fun _ _ e => ⟨_, He.frG_in, e⟩
  keeps := fun _ _ _ ⟨K, hK, c⟩ k => ⟨K, PySem.W.Frag.In.keeps hK k, c⟩
theorem obsKG_eq {fa : List He.Fa} {fn : List He.DefD} {g : Addr → Option Obj} {s : Shared} (h : ∀ a, g a = s.heap.get? a) : obsKG fa fn g = (hookK fa fn).obs s := by
  have : g = s.heap.get? := funext h
  subst this
  rfl
/-! ### the facts -/
def fa0 : List He.Fa := [.cls "Arc", .noat "Arc" "tail", .noat "Arc" "head", .noat "Arc" "cost", .noat "Arc" "room", .noat "Arc" "flow", .cls "Step", .noat "Step" "arc", .noat "Step" "begin", .noat "Step" "end", .noat "Step" "cost", .noat "Step" "sign", .noat "Step" "rest", .cls "Transport", .noat "Transport" "nodes", .noat "Transport" "hard", .noat "Transport" "softs", .noat "Transport" "arcs", .noat "Transport" "rest", .noat "Transport" "done", .cls "Threes", .noat "Threes" "rings", .noat "Threes" "steps", .noat "Threes" "transport", .mkr "Arc", .glo "Arc", .mkr "Step", .glo "Step", .mkr "Transport", .glo "Transport"]
def fa1 : List He.Fa := [.mkr "Threes", .glo "Threes", .mkr "Yard", .glo "Yard", .meth "Transport" "push", .meth "Transport" "fill_softs", .meth "Transport" "carry_all", .meth "Transport" "next_source", .meth "Transport" "spent", .meth "Threes" "ends_of", .meth "Threes" "most", .meth "Yard" "out", .meth "Yard" "size", .glo "steps_on", .glo "distances", .glo "way_back", .glo "is_integer", .glo "is_count", .glo "is_name", .glo "check_kinds", .glo "is_row", .glo "check_rows", .glo "lopsided", .glo "check_yard", .glo "rings_of", .glo "steps_of", .glo "is_upper", .glo "moves_of", .glo "least_moves", .glo "_law_well"]
def fa2 : List He.Fa := [.glo "_law_draw", .glo "_law_pick", .glo "_law_rings", .glo "_law_steps", .glo "_law_laid", .glo "_law_tags", .glo "_law_frozen", .glo "_law_out", .glo "_law_swaps_from", .glo "_law_moves_from", .glo "_law_turned", .glo "_law_rounds", .glo "_law_right", .glo "law", .free "len", .free "list", .free "tuple", .free "zip", .free "range", .free "enumerate", .free "isinstance", .free "int", .free "bool", .free "str", .free "sum", .free "all", .free "min", .free "abs", .free "divmod", .free "repr"]
def fa3 : List He.Fa := [.int "MOST_KINDS" 4, .int "MOST_COUNT" 1000000000000000000000000000000, .str "DIGITS" "0123456789", .str "LETTERS" "abcdefghijklmnopqrstuvwxyz"]
def fa : List He.Fa := fa0 ++ fa1 ++ fa2 ++ fa3
def fn0 : List He.DefD := [⟨("Arc", some "__init__"), "__init__", "Arc.__init__", defArgs (inClass (topS 2) 0), defBody (inClass (topS 2) 0), defScope (inClass (topS 2) 0), [], []⟩, ⟨("Step", some "__init__"), "__init__", "Step.__init__", defArgs (inClass (topS 3) 0), defBody (inClass (topS 3) 0), defScope (inClass (topS 3) 0), [], []⟩, ⟨("Transport", some "__init__"), "__init__", "Transport.__init__", defArgs (inClass (topS 7) 0), defBody (inClass (topS 7) 0), defScope (inClass (topS 7) 0), [], []⟩, ⟨("Threes", some "__init__"), "__init__", "Threes.__init__", defArgs (inClass (topS 59) 0), defBody (inClass (topS 59) 0), defScope (inClass (topS 59) 0), [], []⟩, ⟨("Yard", some "__init__"), "__init__", "Yard.__init__", defArgs (inClass (topS 46) 1), defBody (inClass (topS 46) 1), defScope (inClass (topS 46) 1), [], []⟩, ⟨("Transport", some "push"), "push", "Transport.push", defArgs (inClass (topS 7) 1), defBody (inClass (topS 7) 1), defScope (inClass (topS 7) 1), [], []⟩, ⟨("Transport", some "fill_softs"), "fill_softs", "Transport.fill_softs", defArgs (inClass (topS 7) 2), defBody (inClass (topS 7) 2), defScope (inClass (topS 7) 2), [], []⟩, ⟨("Transport", some "carry_all"), "carry_all", "Transport.carry_all", defArgs (inClass (topS 7) 3), defBody (inClass (topS 7) 3), defScope (inClass (topS 7) 3), [], []⟩, ⟨("Transport", some "next_source"), "next_source", "Transport.next_source", defArgs (inClass (topS 7) 4), defBody (inClass (topS 7) 4), defScope (inClass (topS 7) 4), [], []⟩, ⟨("Transport", some "spent"), "spent", "Transport.spent", defArgs (inClass (topS 7) 5), defBody (inClass (topS 7) 5), defScope (inClass (topS 7) 5), [], []⟩, ⟨("Threes", some "ends_of"), "ends_of", "Threes.ends_of", defArgs (inClass (topS 59) 1), defBody (inClass (topS 59) 1), defScope (inClass (topS 59) 1), [], []⟩, ⟨("Threes", some "most"), "most", "Threes.most", defArgs (inClass (topS 59) 2), defBody (inClass (topS 59) 2), defScope (inClass (topS 59) 2), [], []⟩, ⟨("Yard", some "out"), "out", "Yard.out", defArgs (inClass (topS 46) 6), defBody (inClass (topS 46) 6), defScope (inClass (topS 46) 6), [], []⟩, ⟨("Yard", some "size"), "size", "Yard.size", defArgs (inClass (topS 46) 7), defBody (inClass (topS 46) 7), defScope (inClass (topS 46) 7), [], []⟩, ⟨("steps_on", none), "steps_on", "steps_on", defArgs (topS 4), defBody (topS 4), defScope (topS 4), [], []⟩, ⟨("distances", none), "distances", "distances", defArgs (topS 5), defBody (topS 5), defScope (topS 5), [], []⟩, ⟨("way_back", none), "way_back", "way_back", defArgs (topS 6), defBody (topS 6), defScope (topS 6), [], []⟩, ⟨("is_integer", none), "is_integer", "is_integer", defArgs (topS 25), defBody (topS 25), defScope (topS 25), [], []⟩, ⟨("is_count", none), "is_count", "is_count", defArgs (topS 26), defBody (topS 26), defScope (topS 26), [], []⟩, ⟨("is_name", none), "is_name", "is_name", defArgs (topS 27), defBody (topS 27), defScope (topS 27), [], []⟩, ⟨("check_kinds", none), "check_kinds", "check_kinds", defArgs (topS 32), defBody (topS 32), defScope (topS 32), [], []⟩, ⟨("is_row", none), "is_row", "is_row", defArgs (topS 33), defBody (topS 33), defScope (topS 33), [], []⟩, ⟨("check_rows", none), "check_rows", "check_rows", defArgs (topS 34), defBody (topS 34), defScope (topS 34), [], []⟩, ⟨("lopsided", none), "lopsided", "lopsided", defArgs (topS 35), defBody (topS 35), defScope (topS 35), [], []⟩, ⟨("check_yard", none), "check_yard", "check_yard", defArgs (topS 51), defBody (topS 51), defScope (topS 51), [], []⟩]
def fn1 : List He.DefD := [⟨("rings_of", none), "rings_of", "rings_of", defArgs (topS 55), defBody (topS 55), defScope (topS 55), [], []⟩, ⟨("steps_of", none), "steps_of", "steps_of", defArgs (topS 56), defBody (topS 56), defScope (topS 56), [], []⟩, ⟨("is_upper", none), "is_upper", "is_upper", defArgs (topS 58), defBody (topS 58), defScope (topS 58), [], []⟩, ⟨("moves_of", none), "moves_of", "moves_of", defArgs (topS 60), defBody (topS 60), defScope (topS 60), [], []⟩, ⟨("least_moves", none), "least_moves", "least_moves", defArgs (topS 61), defBody (topS 61), defScope (topS 61), [], []⟩, ⟨("_law_well", none), "_law_well", "_law_well", defArgs (topS 63), defBody (topS 63), defScope (topS 63), [], []⟩, ⟨("_law_draw", none), "_law_draw", "_law_draw", defArgs (topS 64), defBody (topS 64), defScope (topS 64), [], []⟩, ⟨("_law_pick", none), "_law_pick", "_law_pick", defArgs (topS 65), defBody (topS 65), defScope (topS 65), [], []⟩, ⟨("_law_rings", none), "_law_rings", "_law_rings", defArgs (topS 66), defBody (topS 66), defScope (topS 66), [], []⟩, ⟨("_law_steps", none), "_law_steps", "_law_steps", defArgs (topS 67), defBody (topS 67), defScope (topS 67), [], []⟩, ⟨("_law_laid", none), "_law_laid", "_law_laid", defArgs (topS 68), defBody (topS 68), defScope (topS 68), [], []⟩, ⟨("_law_tags", none), "_law_tags", "_law_tags", defArgs (topS 69), defBody (topS 69), defScope (topS 69), [], []⟩, ⟨("_law_frozen", none), "_law_frozen", "_law_frozen", defArgs (topS 70), defBody (topS 70), defScope (topS 70), [], []⟩, ⟨("_law_out", none), "_law_out", "_law_out", defArgs (topS 71), defBody (topS 71), defScope (topS 71), [], []⟩, ⟨("_law_swaps_from", none), "_law_swaps_from", "_law_swaps_from", defArgs (topS 72), defBody (topS 72), defScope (topS 72), [], []⟩, ⟨("_law_moves_from", none), "_law_moves_from", "_law_moves_from", defArgs (topS 73), defBody (topS 73), defScope (topS 73), [], []⟩, ⟨("_law_turned", none), "_law_turned", "_law_turned", defArgs (topS 74), defBody (topS 74), defScope (topS 74), [], []⟩, ⟨("_law_rounds", none), "_law_rounds", "_law_rounds", defArgs (topS 75), defBody (topS 75), defScope (topS 75), [], []⟩, ⟨("_law_right", none), "_law_right", "_law_right", defArgs (topS 76), defBody (topS 76), defScope (topS 76), [], []⟩, ⟨("law", none), "law", "law", defArgs (topS 77), defBody (topS 77), defScope (topS 77), [], []⟩]
def fn : List He.DefD := fn0 ++ fn1
theorem txt {K : PySem.W.Frag} {h : Heap} {mg : Str → Option Value} (X : K.In h) (G : h.Ns mainGlobals mg) (c : obsK fa fn K = valK fn) : Txt K mg :=
  have sl : slB K = true := congrArg Prod.fst c
  have s : He.SaysD fa fn K := congrArg Prod.snd c
  {
  cls_Arc := He.cls_ok (s.fact 0 rfl),
  na_Arc_tail := He.noat_ok (s.fact 1 rfl),
  na_Arc_head := He.noat_ok (s.fact 2 rfl),
  na_Arc_cost := He.noat_ok (s.fact 3 rfl),
  na_Arc_room := He.noat_ok (s.fact 4 rfl),
  na_Arc_flow := He.noat_ok (s.fact 5 rfl),
  cls_Step := He.cls_ok (s.fact 6 rfl),
  na_Step_arc := He.noat_ok (s.fact 7 rfl),
  na_Step_begin := He.noat_ok (s.fact 8 rfl),
  na_Step_end := He.noat_ok (s.fact 9 rfl),
  na_Step_cost := He.noat_ok (s.fact 10 rfl),
  na_Step_sign := He.noat_ok (s.fact 11 rfl),
  na_Step_rest := He.noat_ok (s.fact 12 rfl),
  cls_Transport := He.cls_ok (s.fact 13 rfl),
  na_Transport_nodes := He.noat_ok (s.fact 14 rfl),
  na_Transport_hard := He.noat_ok (s.fact 15 rfl),
  na_Transport_softs := He.noat_ok (s.fact 16 rfl),
  na_Transport_arcs := He.noat_ok (s.fact 17 rfl),
  na_Transport_rest := He.noat_ok (s.fact 18 rfl),
  na_Transport_done := He.noat_ok (s.fact 19 rfl),
  cls_Threes := He.cls_ok (s.fact 20 rfl),
  na_Threes_rings := He.noat_ok (s.fact 21 rfl),
  na_Threes_steps := He.noat_ok (s.fact 22 rfl),
  na_Threes_transport := He.noat_ok (s.fact 23 rfl),
  ini_Arc := let ⟨fd, h⟩ := s.def_ 0 rfl; ⟨_, fd, h, He.mkr_ok (s.fact 24 rfl), He.glo_ok X G (s.fact 25 rfl)⟩,
  ini_Step := let ⟨fd, h⟩ := s.def_ 1 rfl; ⟨_, fd, h, He.mkr_ok (s.fact 26 rfl), He.glo_ok X G (s.fact 27 rfl)⟩,
  ini_Transport := let ⟨fd, h⟩ := s.def_ 2 rfl; ⟨_, fd, h, He.mkr_ok (s.fact 28 rfl), He.glo_ok X G (s.fact 29 rfl)⟩,
  ini_Threes := let ⟨fd, h⟩ := s.def_ 3 rfl; ⟨_, fd, h, He.mkr_ok (s.fact 30 rfl), He.glo_ok X G (s.fact 31 rfl)⟩,
  ini_Yard := let ⟨fd, h⟩ := s.def_ 4 rfl; ⟨_, fd, h, He.mkr_ok (s.fact 32 rfl), He.glo_ok X G (s.fact 33 rfl)⟩,
  met_push := let ⟨fd, h⟩ := s.def_ 5 rfl; ⟨_, fd, h, He.meth_ok (s.fact 34 rfl)⟩,
  met_fill_softs := let ⟨fd, h⟩ := s.def_ 6 rfl; ⟨_, fd, h, He.meth_ok (s.fact 35 rfl)⟩,
  met_carry_all := let ⟨fd, h⟩ := s.def_ 7 rfl; ⟨_, fd, h, He.meth_ok (s.fact 36 rfl)⟩,
  met_next_source := let ⟨fd, h⟩ := s.def_ 8 rfl; ⟨_, fd, h, He.meth_ok (s.fact 37 rfl)⟩,
  met_spent := let ⟨fd, h⟩ := s.def_ 9 rfl; ⟨_, fd, h, He.meth_ok (s.fact 38 rfl)⟩,
  met_ends_of := let ⟨fd, h⟩ := s.def_ 10 rfl; ⟨_, fd, h, He.meth_ok (s.fact 39 rfl)⟩,
  met_most := let ⟨fd, h⟩ := s.def_ 11 rfl; ⟨_, fd, h, He.meth_ok (s.fact 40 rfl)⟩,
  met_out := let ⟨fd, h⟩ := s.def_ 12 rfl; ⟨_, fd, h, He.meth_ok (s.fact 41 rfl)⟩,
  met_size := let ⟨fd, h⟩ := s.def_ 13 rfl; ⟨_, fd, h, He.meth_ok (s.fact 42 rfl)⟩,
  def_steps_on := let ⟨fd, h⟩ := s.def_ 14 rfl; ⟨_, fd, h, He.glo_ok X G (s.fact 43 rfl)⟩,
  def_distances := let ⟨fd, h⟩ := s.def_ 15 rfl; ⟨_, fd, h, He.glo_ok X G (s.fact 44 rfl)⟩,
  def_way_back := let ⟨fd, h⟩ := s.def_ 16 rfl; ⟨_, fd, h, He.glo_ok X G (s.fact 45 rfl)⟩,
  def_is_integer := let ⟨fd, h⟩ := s.def_ 17 rfl; ⟨_, fd, h, He.glo_ok X G (s.fact 46 rfl)⟩,
  def_is_count := let ⟨fd, h⟩ := s.def_ 18 rfl; ⟨_, fd, h, He.glo_ok X G (s.fact 47 rfl)⟩,
  def_is_name := let ⟨fd, h⟩ := s.def_ 19 rfl; ⟨_, fd, h, He.glo_ok X G (s.fact 48 rfl)⟩,
  def_check_kinds := let ⟨fd, h⟩ := s.def_ 20 rfl; ⟨_, fd, h, He.glo_ok X G (s.fact 49 rfl)⟩,
  def_is_row := let ⟨fd, h⟩ := s.def_ 21 rfl; ⟨_, fd, h, He.glo_ok X G (s.fact 50 rfl)⟩,
  def_check_rows := let ⟨fd, h⟩ := s.def_ 22 rfl; ⟨_, fd, h, He.glo_ok X G (s.fact 51 rfl)⟩,
  def_lopsided := let ⟨fd, h⟩ := s.def_ 23 rfl; ⟨_, fd, h, He.glo_ok X G (s.fact 52 rfl)⟩,
  def_check_yard := let ⟨fd, h⟩ := s.def_ 24 rfl; ⟨_, fd, h, He.glo_ok X G (s.fact 53 rfl)⟩,
  def_rings_of := let ⟨fd, h⟩ := s.def_ 25 rfl; ⟨_, fd, h, He.glo_ok X G (s.fact 54 rfl)⟩,
  def_steps_of := let ⟨fd, h⟩ := s.def_ 26 rfl; ⟨_, fd, h, He.glo_ok X G (s.fact 55 rfl)⟩,
  def_is_upper := let ⟨fd, h⟩ := s.def_ 27 rfl; ⟨_, fd, h, He.glo_ok X G (s.fact 56 rfl)⟩,
  def_moves_of := let ⟨fd, h⟩ := s.def_ 28 rfl; ⟨_, fd, h, He.glo_ok X G (s.fact 57 rfl)⟩,
  def_least_moves := let ⟨fd, h⟩ := s.def_ 29 rfl; ⟨_, fd, h, He.glo_ok X G (s.fact 58 rfl)⟩,
  def_law_well := let ⟨fd, h⟩ := s.def_ 30 rfl; ⟨_, fd, h, He.glo_ok X G (s.fact 59 rfl)⟩,
  def_law_draw := let ⟨fd, h⟩ := s.def_ 31 rfl; ⟨_, fd, h, He.glo_ok X G (s.fact 60 rfl)⟩,
  def_law_pick := let ⟨fd, h⟩ := s.def_ 32 rfl; ⟨_, fd, h, He.glo_ok X G (s.fact 61 rfl)⟩,
  def_law_rings := let ⟨fd, h⟩ := s.def_ 33 rfl; ⟨_, fd, h, He.glo_ok X G (s.fact 62 rfl)⟩,
  def_law_steps := let ⟨fd, h⟩ := s.def_ 34 rfl; ⟨_, fd, h, He.glo_ok X G (s.fact 63 rfl)⟩,
  def_law_laid := let ⟨fd, h⟩ := s.def_ 35 rfl; ⟨_, fd, h, He.glo_ok X G (s.fact 64 rfl)⟩,
  def_law_tags := let ⟨fd, h⟩ := s.def_ 36 rfl; ⟨_, fd, h, He.glo_ok X G (s.fact 65 rfl)⟩,
  def_law_frozen := let ⟨fd, h⟩ := s.def_ 37 rfl; ⟨_, fd, h, He.glo_ok X G (s.fact 66 rfl)⟩,
  def_law_out := let ⟨fd, h⟩ := s.def_ 38 rfl; ⟨_, fd, h, He.glo_ok X G (s.fact 67 rfl)⟩,
  def_law_swaps_from := let ⟨fd, h⟩ := s.def_ 39 rfl; ⟨_, fd, h, He.glo_ok X G (s.fact 68 rfl)⟩,
  def_law_moves_from := let ⟨fd, h⟩ := s.def_ 40 rfl; ⟨_, fd, h, He.glo_ok X G (s.fact 69 rfl)⟩,
  def_law_turned := let ⟨fd, h⟩ := s.def_ 41 rfl; ⟨_, fd, h, He.glo_ok X G (s.fact 70 rfl)⟩,
  def_law_rounds := let ⟨fd, h⟩ := s.def_ 42 rfl; ⟨_, fd, h, He.glo_ok X G (s.fact 71 rfl)⟩,
  def_law_right := let ⟨fd, h⟩ := s.def_ 43 rfl; ⟨_, fd, h, He.glo_ok X G (s.fact 72 rfl)⟩,
  fr_len := He.free_ok X G (s.fact 74 rfl),
  fr_list := He.free_ok X G (s.fact 75 rfl),
  fr_tuple := He.free_ok X G (s.fact 76 rfl),
  fr_zip := He.free_ok X G (s.fact 77 rfl),
  fr_range := He.free_ok X G (s.fact 78 rfl),
  fr_enumerate := He.free_ok X G (s.fact 79 rfl),
  fr_isinstance := He.free_ok X G (s.fact 80 rfl),
  fr_int := He.free_ok X G (s.fact 81 rfl),
  fr_bool := He.free_ok X G (s.fact 82 rfl),
  fr_str := He.free_ok X G (s.fact 83 rfl),
  fr_sum := He.free_ok X G (s.fact 84 rfl),
  fr_all := He.free_ok X G (s.fact 85 rfl),
  fr_min := He.free_ok X G (s.fact 86 rfl),
  fr_abs := He.free_ok X G (s.fact 87 rfl),
  fr_divmod := He.free_ok X G (s.fact 88 rfl),
  fr_repr := He.free_ok X G (s.fact 89 rfl),
  int_MOST_KINDS := He.int_ok X G (s.fact 90 rfl),
  int_MOST_COUNT := He.int_ok X G (s.fact 91 rfl),
  str_DIGITS := He.str_ok X G (s.fact 92 rfl),
  str_LETTERS := He.str_ok X G (s.fact 93 rfl),
  scls := (slB_ok sl).1,
  sisi := (slB_ok sl).2.1,
  slot0 := (slB_ok sl).2.2.1,
  slot1 := (slB_ok sl).2.2.2.1,
  kit_Yard := (slB_ok sl).2.2.2.2,
  mg_Yard := He.glo_ok X G (s.fact 33 rfl) }
theorem facts {P : Program} {w : World} {K : PySem.W.Frag} {h : Heap} {mg : Str → Option Value} {f : Addr} (PL : PlainLaw) (X : K.In h) (G : h.Ns mainGlobals mg) (hfa : mg ("law" : Str) = some (.ref f)) (c : obsK fa fn K = valK fn) :
    ∃ fd : FuncData, (∀ (s : Shared) (v : Value), BindsTo s fd ⟨[v], []⟩ [("_law_script", v)]) ∧ ∀ base : Heap, K.In base → base.Ns mainGlobals mg → FnG P w K mg base 13 f fd ["_law_script"] (spLaw K) := by
  have s : He.SaysD fa fn K := congrArg Prod.snd c
  obtain ⟨fd, F⟩ := s.def_ 44 rfl
  have e := hfa.symm.trans (He.glo_ok X G (s.fact 73 (f := .glo "law") rfl))
  cases e
  have b := FunD.bindsA (ps := ["_law_script"]) F fun _ _ _ _ _ _ us hl => match us, hl with | [_], _ => rfl
  exact ⟨fd, fun s v => b s [v] rfl, fun base _ _ => fn_law (txt X G c) PL _ fd F⟩
end K30

namespace K30
open PySem PySem.Spec PyProof.Rows L2
def looseA : List PySem.Str := [PySem.Str.ofString "_wall", PySem.Str.ofString "Arc", PySem.Str.ofString "Step", PySem.Str.ofString "steps_on", PySem.Str.ofString "distances", PySem.Str.ofString "way_back", PySem.Str.ofString "Transport", PySem.Str.ofString "WrongValue", PySem.Str.ofString "InvalidText", PySem.Str.ofString "InvalidMove", PySem.Str.ofString "InvalidNumber", PySem.Str.ofString "NotYard", PySem.Str.ofString "InvalidKinds", PySem.Str.ofString "InvalidRows", PySem.Str.ofString "InvalidPlan", PySem.Str.ofString "NotPossible", PySem.Str.ofString "Unbalanced", PySem.Str.ofString "NotThere", PySem.Str.ofString "OtherKinds", PySem.Str.ofString "TooGreat", PySem.Str.ofString "DIGITS", PySem.Str.ofString "LETTERS", PySem.Str.ofString "is_integer", PySem.Str.ofString "is_count", PySem.Str.ofString "is_name", PySem.Str.ofString "written_count", PySem.Str.ofString "MOST_KINDS", PySem.Str.ofString "MOST_COUNT", PySem.Str.ofString "check_kinds", PySem.Str.ofString "is_row", PySem.Str.ofString "check_rows", PySem.Str.ofString "lopsided", PySem.Str.ofString "is_swap", PySem.Str.ofString "is_turn", PySem.Str.ofString "is_kind"]
def looseB : List PySem.Str := [PySem.Str.ofString "is_move", PySem.Str.ofString "places_of", PySem.Str.ofString "most_times", PySem.Str.ofString "can_make", PySem.Str.ofString "rows_behind", PySem.Str.ofString "is_block", PySem.Str.ofString "check_great", PySem.Str.ofString "Yard", PySem.Str.ofString "row_lines", PySem.Str.ofString "text_kinds", PySem.Str.ofString "text_row", PySem.Str.ofString "text_yard", PySem.Str.ofString "check_yard", PySem.Str.ofString "check_move", PySem.Str.ofString "check_times", PySem.Str.ofString "rings_of", PySem.Str.ofString "steps_of", PySem.Str.ofString "is_upper", PySem.Str.ofString "Threes", PySem.Str.ofString "moves_of", PySem.Str.ofString "least_moves", PySem.Str.ofString "_law_well", PySem.Str.ofString "_law_draw", PySem.Str.ofString "_law_pick", PySem.Str.ofString "_law_rings", PySem.Str.ofString "_law_steps", PySem.Str.ofString "_law_laid", PySem.Str.ofString "_law_tags", PySem.Str.ofString "_law_frozen", PySem.Str.ofString "_law_out", PySem.Str.ofString "_law_swaps_from", PySem.Str.ofString "_law_moves_from", PySem.Str.ofString "_law_turned", PySem.Str.ofString "_law_rounds", PySem.Str.ofString "_law_right"]
def looseN : List PySem.Str := looseA ++ looseB
abbrev R0 : PySem.W.OpenRow := PySem.W.OpenLaw.row PySem.Challenge.rw_swapkinds_k30_whole_moves_by_search
abbrev hk : PySem.W.Hook := hookK fa fn
def ob (s : PySem.W.SharedT) : AlK := obsKG fa fn (HandSHeadRun.getT s)
theorem ob_eq (s : PySem.W.SharedT) : ob s = hk.obs s.abs := obsKG_eq (HandSHeadRun.getT_eq s)
theorem run (w : World) : HandSHeadRun.RunEq R0 (PySem.W.view R0.prog [77]) hk ob 9000 looseN w := by
  intro os
  kernel_rfl
end K30

namespace K30
/-! ### potentials -/
def sumN (n : Nat) (f : Nat → Int) : Int := ((List.range n).map f).sum
theorem sumN_succ (n : Nat) (f : Nat → Int) : sumN (n + 1) f = sumN n f + f n := by
  unfold sumN
  rw [List.range_succ, List.map_append, List.sum_append]
  simp
theorem sumN_congr {n : Nat} {f g : Nat → Int} (h : ∀ i, i < n → f i = g i) : sumN n f = sumN n g := by
  induction n with
  | zero => rfl
  | succ n ih => rw [sumN_succ, sumN_succ, ih fun i hi => h i (by omega), h n (by omega)]
theorem sumN_le {n : Nat} {f g : Nat → Int} (h : ∀ i, i < n → f i ≤ g i) : sumN n f ≤ sumN n g := by
  induction n with
  | zero => exact Int.le_refl _
  | succ n ih =>
    rw [sumN_succ, sumN_succ]
    have := ih fun i hi => h i (by omega)
    have := h n (by omega)
    omega
theorem sumN_upd {n p : Nat} {f g : Nat → Int} (hp : p < n) (h : ∀ i, i ≠ p → f i = g i) : sumN n f = sumN n g + (f p - g p) := by
  induction n with
  | zero => omega
  | succ n ih =>
    rw [sumN_succ, sumN_succ]
    by_cases c : p = n
    · subst c
      rw [sumN_congr (g := g) fun i hi => h i (by omega)]
      omega
    · rw [ih (by omega), h n (fun e => c e.symm)]
      omega
theorem cell_set {n : Nat} {g : Grid} (sq : Sq n g) {p a : Nat} (hp : p < n) (ha : a < n) (v : Int) (i j : Nat) : cell (setCell g p a v) i j = if i = p ∧ j = a then v else cell g i j := by
  obtain ⟨row, hrow⟩ := get_of_lt (l := g) (i := p) (by rw [sq.1]; exact hp)
  have hl := sq.row hrow
  unfold cell setCell
  rw [getD_some hrow]
  by_cases c : i = p
  · subst c
    have e : (g.set i (row.set a v)).getD i [] = row.set a v := by
      rw [List.getD_eq_getElem?_getD, List.getElem?_set_self (by rw [sq.1]; exact hp)]
      rfl
    rw [e, getD_some hrow]
    by_cases c2 : j = a
    · subst c2
      rw [if_pos ⟨rfl, rfl⟩, List.getD_eq_getElem?_getD, List.getElem?_set_self (by rw [hl]; exact ha)]
      rfl
    · rw [if_neg (fun z => c2 z.2), List.getD_eq_getElem?_getD, List.getElem?_set_ne (fun z => c2 z.symm), ← List.getD_eq_getElem?_getD]
  · rw [if_neg (fun z => c z.1), List.getD_eq_getElem?_getD (l := g.set p _), List.getElem?_set_ne (fun z => c z.symm), ← List.getD_eq_getElem?_getD]
def phi (n : Nat) (W : Nat → Nat → Int) (g : Grid) : Int := sumN n fun i => sumN n fun j => W i j * cell g i j
theorem phi_set {n : Nat} {g : Grid} (sq : Sq n g) {p a : Nat} (hp : p < n) (ha : a < n) (v : Int) (W : Nat → Nat → Int) : phi n W (setCell g p a v) = phi n W g + W p a * (v - cell g p a) := by
  unfold phi
  rw [sumN_upd (p := p) (g := fun i => sumN n fun j => W i j * cell g i j) hp fun i hi => sumN_congr fun j _ => by rw [cell_set sq hp ha, if_neg (fun z => hi z.1)]]
  rw [sumN_upd (n := n) (p := a) (f := fun j => W p j * cell (setCell g p a v) p j) (g := fun j => W p j * cell g p j) ha fun j hj => by rw [cell_set sq hp ha, if_neg (fun z => hj z.2)]]
  rw [cell_set sq hp ha, if_pos ⟨rfl, rfl⟩, Int.mul_sub]
  omega
structure Nn (n : Nat) (g : Grid) : Prop where
  sq : Sq n g
  pos : ∀ i j, 0 ≤ cell g i j
theorem bump_sq {n : Nat} {g : Grid} (sq : Sq n g) (r x y : Nat) : Sq n (bump g r x y) := Sq.set (Sq.set sq)
theorem bump_cell {n : Nat} {g : Grid} (sq : Sq n g) {r x y : Nat} (hr : r < n) (hx : x < n) (hy : y < n) (i j : Nat) :
    cell (bump g r x y) i j = cell g i j + (if i = r ∧ j = y then 1 else 0) - (if i = r ∧ j = x then 1 else 0) := by
  unfold bump
  rw [cell_set (Sq.set sq) hr hy, cell_set sq hr hx, cell_set sq hr hx]
  by_cases c1 : i = r ∧ j = y
  · obtain ⟨rfl, rfl⟩ := c1
    by_cases c2 : j = x
    · subst c2
      simp
    · simp [c2]
  · rw [if_neg c1, if_neg c1]
    by_cases c2 : i = r ∧ j = x
    · obtain ⟨rfl, rfl⟩ := c2
      simp
    · rw [if_neg c2, if_neg c2]
      omega
theorem bump_phi {n : Nat} {g : Grid} (sq : Sq n g) {r x y : Nat} (hr : r < n) (hx : x < n) (hy : y < n) (W : Nat → Nat → Int) : phi n W (bump g r x y) = phi n W g + W r y - W r x := by
  unfold bump
  rw [phi_set (Sq.set sq) hr hy, phi_set sq hr hx]
  have e1 : cell g r x - 1 - cell g r x = -1 := by omega
  have e2 : ∀ c : Int, c + 1 - c = 1 := fun c => by omega
  rw [e1, e2, Int.mul_neg, Int.mul_one, Int.mul_one]
  omega
theorem bump_nn {n : Nat} {g : Grid} (h : Nn n g) {r x y : Nat} (hr : r < n) (hx : x < n) (hy : y < n) (hc : 0 < cell g r x) : Nn n (bump g r x y) := by
  refine ⟨bump_sq h.sq r x y, fun i j => ?_⟩
  rw [bump_cell h.sq hr hx hy]
  have := h.pos i j
  by_cases c : i = r ∧ j = x
  · rw [if_pos c]
    obtain ⟨k1, k2⟩ := c
    have k3 : 0 < cell g i j := by rw [k1, k2]; exact hc
    split <;> omega
  · rw [if_neg c]
    split <;> omega
/-- what a move does: Nn stays, every potential changes by the swap's or the turn's terms -/
theorem swap_does {n : Nat} {g : Grid} (h : Nn n g) {p a q b : Nat} (hp : p < n) (ha : a < n) (hq : q < n) (hb : b < n) (npq : p ≠ q) (c1 : 0 < cell g p a) (c2 : 0 < cell g q b) :
    Nn n (swapG g p a q b) ∧ ∀ W, phi n W (swapG g p a q b) = phi n W g + W p b - W p a + W q a - W q b := by
  have h1 := bump_nn h hp ha hb c1
  have e1 : cell (bump g p a b) q b = cell g q b := by
    rw [bump_cell h.sq hp ha hb, if_neg (fun z => npq z.1.symm), if_neg (fun z => npq z.1.symm)]
    omega
  refine ⟨bump_nn h1 hq hb ha (by rw [e1]; exact c2), fun W => ?_⟩
  unfold swapG
  rw [bump_phi h1.sq hq hb ha, bump_phi h.sq hp ha hb]
theorem turn_does {n : Nat} {g : Grid} (h : Nn n g) {p a q b r c : Nat} (hp : p < n) (ha : a < n) (hq : q < n) (hb : b < n) (hr : r < n) (hc : c < n) (npq : p ≠ q) (npr : p ≠ r) (nqr : q ≠ r) (c1 : 0 < cell g p a) (c2 : 0 < cell g q b) (c3 : 0 < cell g r c) :
    Nn n (turnG g p a q b r c) ∧ ∀ W, phi n W (turnG g p a q b r c) = phi n W g + W p c - W p a + W q a - W q b + W r b - W r c := by
  have h1 := bump_nn h hp ha hc c1
  have e1 : cell (bump g p a c) q b = cell g q b := by
    rw [bump_cell h.sq hp ha hc, if_neg (fun z => npq z.1.symm), if_neg (fun z => npq z.1.symm)]
    omega
  have h2 := bump_nn h1 hq hb ha (by rw [e1]; exact c2)
  have e2 : cell (bump (bump g p a c) q b a) r c = cell g r c := by
    rw [bump_cell h1.sq hq hb ha, if_neg (fun z => nqr z.1.symm), if_neg (fun z => nqr z.1.symm), bump_cell h.sq hp ha hc, if_neg (fun z => npr z.1.symm), if_neg (fun z => npr z.1.symm)]
    omega
  refine ⟨bump_nn h2 hr hc hb (by rw [e2]; exact c3), fun W => ?_⟩
  unfold turnG
  rw [bump_phi h2.sq hr hc hb, bump_phi h1.sq hq hb ha, bump_phi h.sq hp ha hc]
/-- the moves -/
theorem mem_swaps {g u : Grid} : u ∈ swapsF g ↔ ∃ p a q b, p < g.length ∧ a < g.length ∧ q < g.length ∧ b < g.length ∧ p < q ∧ a ≠ b ∧ 0 < cell g p a ∧ 0 < cell g q b ∧ u = swapG g p a q b := by
  unfold swapsF sw1 sw2 sw3 cs
  simp only [List.mem_flatMap, List.mem_range]
  constructor
  · rintro ⟨p, hp, a, ha, k, hk, b, hb, hu⟩
    by_cases c : a ≠ b ∧ 0 < cell g p a ∧ 0 < cell g (p + 1 + k) b
    · rw [if_pos c] at hu
      exact ⟨p, a, p + 1 + k, b, hp, ha, by omega, hb, by omega, c.1, c.2.1, c.2.2, by simpa using hu⟩
    · rw [if_neg c] at hu
      cases hu
  · rintro ⟨p, a, q, b, hp, ha, hq, hb, hpq, h1, h2, h3, rfl⟩
    refine ⟨p, hp, a, ha, q - (p + 1), by omega, b, hb, ?_⟩
    rw [show p + 1 + (q - (p + 1)) = q by omega, if_pos ⟨h1, h2, h3⟩]
    simp
theorem mem_turned {g u : Grid} {p q r : Nat} : u ∈ turnedF g p q r ↔ ∃ a b c, a < g.length ∧ b < g.length ∧ c < g.length ∧ 0 < cell g p a ∧ 0 < cell g q b ∧ 0 < cell g r c ∧ u = turnG g p a q b r c := by
  unfold turnedF tn1 tn2 ct
  simp only [List.mem_flatMap, List.mem_range]
  constructor
  · rintro ⟨a, ha, b, hb, c, hc, hu⟩
    by_cases k : 0 < cell g p a ∧ 0 < cell g q b ∧ 0 < cell g r c
    · rw [if_pos k] at hu
      exact ⟨a, b, c, ha, hb, hc, k.1, k.2.1, k.2.2, by simpa using hu⟩
    · rw [if_neg k] at hu
      cases hu
  · rintro ⟨a, b, c, ha, hb, hc, h1, h2, h3, rfl⟩
    refine ⟨a, ha, b, hb, c, hc, ?_⟩
    rw [if_pos ⟨h1, h2, h3⟩]
    simp
theorem mem_moves {g u : Grid} : u ∈ movesF g ↔ u ∈ swapsF g ∨ ∃ p q r, p < g.length ∧ q < g.length ∧ r < g.length ∧ q > p ∧ r > p ∧ q ≠ r ∧ u ∈ turnedF g p q r := by
  unfold movesF mv1 mv2 mv3
  simp only [List.mem_append, List.mem_flatMap, List.mem_range]
  constructor
  · rintro (h | ⟨p, hp, q, hq, r, hr, h⟩)
    · exact .inl h
    · by_cases k : q > p ∧ r > p ∧ q ≠ r
      · rw [if_pos k] at h
        exact .inr ⟨p, q, r, hp, hq, hr, k.1, k.2.1, k.2.2, h⟩
      · rw [if_neg k] at h
        cases h
  · rintro (h | ⟨p, q, r, hp, hq, hr, k1, k2, k3, h⟩)
    · exact .inl h
    · exact .inr ⟨p, hp, q, hq, r, hr, by rw [if_pos ⟨k1, k2, k3⟩]; exact h⟩
/-- weights of 0 and 1, none on the diagonal, that no turn lowers by more than 2 -/
structure WOk (n : Nat) (W : Nat → Nat → Int) : Prop where
  bit : ∀ p a, p < n → a < n → W p a = 0 ∨ W p a = 1
  diag : ∀ p, p < n → W p p = 0
  turn : ∀ p q r a b c, p < n → q < n → r < n → a < n → b < n → c < n → W p a + W q b + W r c ≤ W p c + W q a + W r b + 2
theorem moves_does {n : Nat} {g u : Grid} (h : Nn n g) (hu : u ∈ movesF g) : Nn n u ∧ (∀ W, WOk n W → phi n W g ≤ phi n W u + 2) ∧ ∀ i, phi n (fun p _ => if p = i then 1 else 0) u = phi n (fun p _ => if p = i then 1 else 0) g := by
  have gl := h.sq.1
  rcases mem_moves.mp hu with hs | ⟨p, q, r, hp, hq, hr, k1, k2, k3, ht⟩
  · obtain ⟨p, a, q, b, hp, ha, hq, hb, hpq, _, c1, c2, rfl⟩ := mem_swaps.mp hs
    rw [gl] at hp ha hq hb
    obtain ⟨d1, d2⟩ := swap_does h hp ha hq hb (by omega) c1 c2
    refine ⟨d1, fun W ok => ?_, fun i => ?_⟩
    · rw [d2]
      have := ok.bit p b hp hb
      have := ok.bit p a hp ha
      have := ok.bit q a hq ha
      have := ok.bit q b hq hb
      omega
    · rw [d2]
      omega
  · obtain ⟨a, b, c, ha, hb, hc, c1, c2, c3, rfl⟩ := mem_turned.mp ht
    rw [gl] at hp hq hr ha hb hc
    obtain ⟨d1, d2⟩ := turn_does h hp ha hq hb hr hc (by omega) (by omega) k3 c1 c2 c3
    refine ⟨d1, fun W ok => ?_, fun i => ?_⟩
    · rw [d2]
      have := ok.turn p q r a b c hp hq hr ha hb hc
      omega
    · rw [d2]
      omega
theorem sum_getD (l : List Int) : l.sum = sumN l.length fun k => l.getD k 0 := by
  unfold sumN
  rw [range_map_getD (fun x => x) 0 l]
  simp
theorem out_phi {n : Nat} {g : Grid} (h : Nn n g) {W : Nat → Nat → Int} (ok : WOk n W) : phi n W g ≤ outG g := by
  have e : outG g = sumN n fun k => (g.getD k []).sum - cell g k k := by
    unfold outG sumN
    rw [h.sq.1]
  rw [e]
  refine sumN_le fun i hi => ?_
  obtain ⟨row, hrow⟩ := get_of_lt (l := g) (i := i) (by rw [h.sq.1]; exact hi)
  have e2 : (g.getD i []).sum = sumN n fun j => cell g i j := by
    rw [getD_some hrow, sum_getD, h.sq.row hrow]
    refine sumN_congr fun j _ => ?_
    unfold cell
    rw [getD_some hrow]
  rw [e2]
  have e3 : (sumN n fun j => cell g i j) - cell g i i = sumN n fun j => if j = i then 0 else cell g i j := by
    have := sumN_upd (n := n) (p := i) (f := fun j => if j = i then (0 : Int) else cell g i j) (g := fun j => cell g i j) hi fun j hj => if_neg hj
    rw [this]
    simp
    omega
  rw [e3]
  refine sumN_le fun j hj => ?_
  by_cases c : j = i
  · subst c
    rw [if_pos rfl, ok.diag _ hj]
    simp
  · rw [if_neg c]
    have := h.pos i j
    rcases ok.bit i j hi hj with k | k <;> rw [k] <;> omega
theorem reach_does {n : Nat} {g : Grid} (h : Nn n g) : ∀ {j : Nat} {t : Grid}, Reach g j t → Nn n t ∧ (∀ W, WOk n W → phi n W g ≤ phi n W t + 2 * j) ∧ ∀ i, phi n (fun p _ => if p = i then 1 else 0) t = phi n (fun p _ => if p = i then 1 else 0) g
  | _, _, .zero => ⟨h, fun W _ => by omega, fun i => rfl⟩
  | _, _, .step (m := m) r hu => by
    obtain ⟨h1, h2, h3⟩ := reach_does h r
    obtain ⟨d1, d2, d3⟩ := moves_does h1 hu
    refine ⟨d1, fun W ok => ?_, fun i => (d3 i).trans (h3 i)⟩
    have := h2 W ok
    have := d2 W ok
    omega
end K30

namespace K30
open PySem
/-! ### all tables with small rows -/
def rowsL : Nat → List (List Int)
  | 0 => [[]]
  | n + 1 => ([0, 1, 2, 3] : List Int).flatMap fun x => (rowsL n).map (x :: ·)
def rowsR (n : Nat) : List (List Int) := (rowsL n).filter fun r => decide (r.sum ≤ 3)
def gridsU (R : List (List Int)) : Nat → List Grid
  | 0 => [[]]
  | m + 1 => R.flatMap fun r => (gridsU R m).map (r :: ·)
theorem mem_rowsL : ∀ {r : List Int}, (∀ x ∈ r, 0 ≤ x ∧ x ≤ 3) → r ∈ rowsL r.length
  | [], _ => by simp [rowsL]
  | x :: r, h => by
    obtain ⟨h1, h2⟩ := h x (by simp)
    refine List.mem_flatMap.mpr ⟨x, ?_, List.mem_map.mpr ⟨r, mem_rowsL fun y hy => h y (List.mem_cons_of_mem _ hy), rfl⟩⟩
    have : x = 0 ∨ x = 1 ∨ x = 2 ∨ x = 3 := by omega
    simpa using this
theorem le_sum : ∀ {r : List Int}, (∀ x ∈ r, 0 ≤ x) → 0 ≤ r.sum ∧ ∀ x ∈ r, x ≤ r.sum
  | [], _ => by simp
  | y :: r, h => by
    obtain ⟨i1, i2⟩ := le_sum (r := r) fun x hx => h x (List.mem_cons_of_mem _ hx)
    have hy := h y (by simp)
    rw [List.sum_cons]
    refine ⟨by omega, fun x hx => ?_⟩
    rcases List.mem_cons.mp hx with rfl | hx
    · omega
    · have := i2 x hx
      omega
theorem mem_gridsU {R : List (List Int)} : ∀ {g : Grid}, (∀ r ∈ g, r ∈ R) → g ∈ gridsU R g.length
  | [], _ => by simp [gridsU]
  | r :: g, h => List.mem_flatMap.mpr ⟨r, h r (by simp), List.mem_map.mpr ⟨g, mem_gridsU fun q hq => h q (List.mem_cons_of_mem _ hq), rfl⟩⟩
theorem sum_const (l : List (List Int)) (c : Nat) : (l.map fun _ => c).sum = l.length * c := by
  induction l with
  | nil => simp
  | cons a l ih => simp [ih, Nat.succ_mul, Nat.add_mul]; omega
theorem len_gridsU (R : List (List Int)) : ∀ m, (gridsU R m).length = R.length ^ m
  | 0 => rfl
  | m + 1 => by
    show (R.flatMap fun r => (gridsU R m).map (r :: ·)).length = _
    rw [List.length_flatMap]
    simp only [List.length_map, len_gridsU R m]
    rw [sum_const, Nat.pow_succ, Nat.mul_comm]
theorem rowsR_few : (rowsR 3).length = 20 ∧ (rowsR 4).length = 35 := by decide +kernel
/-! ### the certificate of a table -/
def wt (B : List (Nat × Nat)) (p a : Nat) : Int := if p = a then 0 else if B.contains (p, a) then 0 else 1
def wCheck (n : Nat) (B : List (Nat × Nat)) : Bool :=
  (List.range n).all fun p => (List.range n).all fun q => (List.range n).all fun r => (List.range n).all fun a => (List.range n).all fun b => (List.range n).all fun c =>
    decide (wt B p a + wt B q b + wt B r c ≤ wt B p c + wt B q a + wt B r b + 2)
theorem wOk {n : Nat} {B : List (Nat × Nat)} (h : wCheck n B = true) : WOk n (wt B) := by
  refine ⟨fun p a _ _ => ?_, fun p _ => by simp [wt], fun p q r a b c hp hq hr ha hb hc => ?_⟩
  · unfold wt
    split
    · exact .inl rfl
    · split
      · exact .inl rfl
      · exact .inr rfl
  · unfold wCheck at h
    simp only [List.all_eq_true, List.mem_range, decide_eq_true_eq] at h
    exact h p hp q hq r hr a ha b hb c hc
def stepP (g : Grid) : List Nat → Option Grid
  | [p, a, q, b] => if p < q ∧ q < g.length ∧ a < g.length ∧ b < g.length ∧ a ≠ b ∧ 0 < cell g p a ∧ 0 < cell g q b then some (swapG g p a q b) else none
  | [p, a, q, b, r, c] => if q > p ∧ r > p ∧ q ≠ r ∧ q < g.length ∧ r < g.length ∧ a < g.length ∧ b < g.length ∧ c < g.length ∧ 0 < cell g p a ∧ 0 < cell g q b ∧ 0 < cell g r c then some (turnG g p a q b r c) else none
  | _ => none
def runP (g : Grid) : List (List Nat) → Option Grid
  | [] => some g
  | m :: ms => (stepP g m).bind fun u => runP u ms
theorem stepP_ok {g u : Grid} {m : List Nat} (h : stepP g m = some u) : u ∈ movesF g := by
  unfold stepP at h
  split at h
  · rename_i p a q b
    split at h
    · rename_i k
      cases h
      exact mem_moves.mpr (.inl (mem_swaps.mpr ⟨p, a, q, b, by omega, k.2.2.1, k.2.1, k.2.2.2.1, k.1, k.2.2.2.2.1, k.2.2.2.2.2.1, k.2.2.2.2.2.2, rfl⟩))
    · cases h
  · rename_i p a q b r c
    split at h
    · rename_i k
      cases h
      obtain ⟨k1, k2, k3, k4, k5, k6, k7, k8, k9, k10, k11⟩ := k
      exact mem_moves.mpr (.inr ⟨p, q, r, by omega, k4, k5, k1, k2, k3, mem_turned.mpr ⟨a, b, c, k6, k7, k8, k9, k10, k11, rfl⟩⟩)
    · cases h
  · cases h
theorem runP_ok {g : Grid} : ∀ {ms : List (List Nat)} {m : Nat} {t u : Grid}, Reach g m t → runP t ms = some u → Reach g (m + ms.length) u
  | [], m, t, u, r, h => by
    cases h
    exact r
  | x :: ms, m, t, u, r, h => by
    unfold runP at h
    obtain ⟨v, h1, h2⟩ := Option.bind_eq_some_iff.mp h
    have := runP_ok (.step r (stepP_ok h1)) h2
    rw [show m + (x :: ms).length = m + 1 + ms.length by simp; omega]
    exact this
abbrev Entry := Grid × Nat × Nat × List (List Nat)
def bars3 : List (List (Nat × Nat)) := [[(0, 1), (0, 2)], [(0, 1), (1, 0)], [(0, 2), (1, 2)], [(0, 2), (2, 0)], [(1, 2), (2, 1)]]
def bars4 : List (List (Nat × Nat)) := [[(0, 2), (0, 3), (1, 2), (1, 3)], [(0, 1), (0, 3), (2, 1), (2, 3)], [(0, 3), (1, 2), (2, 1), (3, 0)], [(0, 1), (0, 2), (3, 1), (3, 2)], [(0, 2), (1, 3), (2, 0), (3, 1)], [(0, 1), (1, 0), (2, 3), (3, 2)]]
def barOf (n i : Nat) : List (Nat × Nat) := (if n = 3 then bars3 else bars4).getD i []
theorem bars_ok : (bars3.all (wCheck 3) && bars4.all (wCheck 4)) = true := by decide +kernel
def okE (z : Entry) : Bool :=
  let g := z.1
  let n := g.length
  decide (n = 3 ∨ n = 4) && (g.all fun r => decide (r.length = n) && (r.all fun x => decide (0 ≤ x)) && decide (r.sum ≤ 3)) && evenOk g && thOk g && decide (leastM g = some (z.2.1 : Int)) && decide (z.2.1 < 12) &&
    decide (z.2.2.1 < (if n = 3 then bars3 else bars4).length) && decide (2 * (z.2.1 : Int) ≤ phi n (wt (barOf n z.2.2.1)) g + 1) && decide (z.2.2.2.length = z.2.1) && (match runP g z.2.2.2 with | some h => decide (outG h = 0) | none => false)
theorem rowsum {n : Nat} {g : Grid} (sq : Sq n g) {i : Nat} (hi : i < n) : phi n (fun p _ => if p = i then 1 else 0) g = (g.getD i []).sum := by
  obtain ⟨row, hrow⟩ := get_of_lt (l := g) (i := i) (by rw [sq.1]; exact hi)
  have e2 : (g.getD i []).sum = sumN n fun j => cell g i j := by
    rw [getD_some hrow, sum_getD, sq.row hrow]
    refine sumN_congr fun j _ => ?_
    unfold cell
    rw [getD_some hrow]
  rw [e2]
  unfold phi
  rw [sumN_upd (p := i) (g := fun _ => 0) hi fun k hk => ?_]
  · have z : ∀ m, sumN m (fun _ => (0 : Int)) = 0 := fun m => by
      induction m with
      | zero => rfl
      | succ m ih => rw [sumN_succ, ih]; rfl
    rw [z]
    simp
  · have z : ∀ m, (sumN m fun j => (if k = i then (1 : Int) else 0) * cell g k j) = 0 := fun m => by
      induction m with
      | zero => rfl
      | succ m ih => rw [sumN_succ, ih, if_neg hk]; simp
    exact z n
theorem nn_small {n : Nat} {t : Grid} (h : Nn n t) (hs : ∀ i, i < n → (t.getD i []).sum ≤ 3) : t ∈ gridsU (rowsR n) n := by
  have := mem_gridsU (R := rowsR n) (g := t) fun r hr => ?_
  · rw [h.sq.1] at this
    exact this
  · obtain ⟨i, hi⟩ := List.mem_iff_getElem?.mp hr
    have hin : i < n := by rw [← h.sq.1]; exact (List.getElem?_eq_some_iff.mp hi).1
    have hl := h.sq.row hi
    have hp : ∀ x ∈ r, 0 ≤ x := fun x hx => by
      obtain ⟨j, hj⟩ := List.mem_iff_getElem?.mp hx
      have := h.pos i j
      rw [cell_of hi hj] at this
      exact this
    have hsum := hs i hin
    rw [getD_some hi] at hsum
    obtain ⟨s1, s2⟩ := le_sum hp
    unfold rowsR
    rw [List.mem_filter]
    refine ⟨?_, decide_eq_true hsum⟩
    have := mem_rowsL (r := r) fun x hx => ⟨hp x hx, by have := s2 x hx; omega⟩
    rw [hl] at this
    exact this
theorem okE_fine {z : Entry} (h : okE z = true) : Fine z.1.length z.1 := by
  obtain ⟨g, k, bi, path⟩ := z
  unfold okE at h
  simp only [Bool.and_eq_true, decide_eq_true_eq, List.all_eq_true] at h
  obtain ⟨⟨⟨⟨⟨⟨⟨⟨⟨h34, hrow⟩, hev⟩, hth⟩, hle⟩, hk⟩, hbi⟩, hphi⟩, hpl⟩, hrun⟩ := h
  have sq : Sq g.length g := ⟨rfl, fun r hr => (hrow r hr).1.1⟩
  have nn : Nn g.length g := by
    refine ⟨sq, fun i j => ?_⟩
    unfold cell
    rw [List.getD_eq_getElem?_getD (l := g)]
    cases e : g[i]? with
    | none => simp
    | some r =>
      simp only [Option.getD_some]
      rw [List.getD_eq_getElem?_getD]
      cases e2 : r[j]? with
      | none => simp
      | some x =>
        simp only [Option.getD_some]
        exact (hrow r (List.mem_of_getElem? e)).1.2 x (List.mem_of_getElem? e2)
  have wok : WOk g.length (wt (barOf g.length bi)) := by
    have hb := bars_ok
    rw [Bool.and_eq_true, List.all_eq_true, List.all_eq_true] at hb
    unfold barOf
    rcases h34 with e | e
    · rw [e] at hbi ⊢
      rw [if_pos rfl] at hbi ⊢
      rw [List.getD_eq_getElem?_getD, List.getElem?_eq_getElem hbi]
      exact wOk (hb.1 _ (List.getElem_mem hbi))
    · rw [e] at hbi ⊢
      rw [if_neg (by decide)] at hbi ⊢
      rw [List.getD_eq_getElem?_getD, List.getElem?_eq_getElem hbi]
      exact wOk (hb.2 _ (List.getElem_mem hbi))
  refine ⟨⟨k, by show k < 13; have : k < 12 := hk; omega, hle, ?_⟩, hth, hev, fun r hr => ⟨(hrow r hr).1.1, fun x hx => ⟨(hrow r hr).1.2 x hx, ?_⟩⟩, rfl⟩
  · refine ⟨fun j t hj r c => ?_, ?_, hk, fun j t r => ?_, gridsU (rowsR g.length) g.length, ?_, fun j t r => ?_⟩
    · obtain ⟨d1, d2, _⟩ := reach_does nn r
      have a1 := d2 _ wok
      have a2 := out_phi d1 wok
      rw [c] at a2
      have a3 : 2 * (k : Int) ≤ phi g.length (wt (barOf g.length bi)) g + 1 := hphi
      have a4 : j < k := hj
      omega
    · cases e : runP g path with
      | none => simp [e] at hrun
      | some u =>
        simp only [e, decide_eq_true_eq] at hrun
        have hpl' : path.length = k := hpl
        have := runP_ok (g := g) .zero e
        rw [Nat.zero_add, hpl'] at this
        exact ⟨u, this, hrun⟩
    · obtain ⟨d1, _⟩ := reach_does nn r
      have e := d1.sq.1
      refine ⟨by rw [e]; exact d1.sq, ?_⟩
      have : g.length = 3 ∨ g.length = 4 := h34
      omega
    · rw [len_gridsU]
      have : g.length = 3 ∨ g.length = 4 := h34
      rcases this with e | e
      · rw [e, rowsR_few.1]
        show _ < 16777216
        decide
      · rw [e, rowsR_few.2]
        show _ < 16777216
        decide
    · obtain ⟨d1, _, d3⟩ := reach_does nn r
      refine nn_small d1 fun i hi => ?_
      rw [← rowsum d1.sq hi, d3 i, rowsum sq hi]
      obtain ⟨row, hrw⟩ := get_of_lt (l := g) (i := i) hi
      rw [getD_some hrw]
      exact (hrow row (List.mem_of_getElem? hrw)).2
  · have hsum := (hrow r hr).2
    have := (le_sum (r := r) (hrow r hr).1.2).2 x hx
    have : x ≤ 3 := by omega
    omega
end K30

namespace K30
def tab0 : List Entry := [
([[0, 0, 0], [0, 0, 1], [0, 1, 0]], 1, 0, [[1, 2, 2, 1]]),
([[0, 0, 0], [0, 0, 1], [0, 1, 1]], 1, 0, [[1, 2, 2, 1]]),
([[0, 0, 0], [0, 0, 2], [0, 2, 0]], 2, 0, [[1, 2, 2, 1], [1, 2, 2, 1]]),
([[0, 0, 0], [0, 0, 2], [0, 2, 1]], 2, 0, [[1, 2, 2, 1], [1, 2, 2, 1]]),
([[0, 0, 1], [0, 0, 0], [1, 0, 0]], 1, 1, [[0, 2, 2, 0]]),
([[0, 0, 1], [0, 0, 0], [1, 0, 1]], 1, 1, [[0, 2, 2, 0]]),
([[0, 0, 1], [0, 0, 1], [1, 1, 0]], 2, 1, [[0, 2, 2, 0], [1, 2, 2, 1]]),
([[0, 0, 1], [0, 0, 1], [1, 1, 1]], 2, 1, [[0, 2, 2, 0], [1, 2, 2, 1]]),
([[0, 0, 1], [1, 0, 0], [0, 1, 0]], 1, 0, [[0, 2, 2, 1, 1, 0]]),
([[0, 0, 1], [1, 0, 0], [0, 1, 1]], 1, 0, [[0, 2, 2, 1, 1, 0]]),
([[0, 0, 1], [1, 0, 1], [0, 2, 0]], 2, 0, [[1, 2, 2, 1], [0, 2, 2, 1, 1, 0]]),
([[0, 0, 1], [1, 0, 1], [0, 2, 1]], 2, 0, [[1, 2, 2, 1], [0, 2, 2, 1, 1, 0]]),
([[0, 0, 2], [0, 0, 0], [2, 0, 0]], 2, 1, [[0, 2, 2, 0], [0, 2, 2, 0]]),
([[0, 0, 2], [0, 0, 0], [2, 0, 1]], 2, 1, [[0, 2, 2, 0], [0, 2, 2, 0]]),
([[0, 0, 2], [1, 0, 0], [1, 1, 0]], 2, 1, [[0, 2, 2, 0], [0, 2, 2, 1, 1, 0]])]
def tab1 : List Entry := [
([[0, 0, 2], [1, 0, 0], [1, 1, 1]], 2, 1, [[0, 2, 2, 0], [0, 2, 2, 1, 1, 0]]),
([[0, 0, 2], [2, 0, 0], [0, 2, 0]], 2, 0, [[0, 2, 2, 1, 1, 0], [0, 2, 2, 1, 1, 0]]),
([[0, 0, 2], [2, 0, 0], [0, 2, 1]], 2, 0, [[0, 2, 2, 1, 1, 0], [0, 2, 2, 1, 1, 0]]),
([[0, 1, 0], [0, 0, 1], [1, 0, 0]], 1, 0, [[0, 1, 1, 2, 2, 0]]),
([[0, 1, 0], [0, 0, 1], [1, 0, 1]], 1, 0, [[0, 1, 1, 2, 2, 0]]),
([[0, 1, 0], [0, 0, 2], [1, 1, 0]], 2, 0, [[1, 2, 2, 1], [0, 1, 1, 2, 2, 0]]),
([[0, 1, 0], [0, 0, 2], [1, 1, 1]], 2, 0, [[1, 2, 2, 1], [0, 1, 1, 2, 2, 0]]),
([[0, 1, 0], [1, 0, 0], [0, 0, 0]], 1, 2, [[0, 1, 1, 0]]),
([[0, 1, 0], [1, 0, 0], [0, 0, 1]], 1, 2, [[0, 1, 1, 0]]),
([[0, 1, 0], [1, 0, 1], [0, 1, 0]], 2, 3, [[0, 1, 1, 0], [1, 2, 2, 1]]),
([[0, 1, 0], [1, 0, 1], [0, 1, 1]], 2, 3, [[0, 1, 1, 0], [1, 2, 2, 1]]),
([[0, 1, 1], [0, 0, 1], [2, 0, 0]], 2, 1, [[0, 2, 2, 0], [0, 1, 1, 2, 2, 0]]),
([[0, 1, 1], [0, 0, 1], [2, 0, 1]], 2, 1, [[0, 2, 2, 0], [0, 1, 1, 2, 2, 0]]),
([[0, 1, 1], [1, 0, 0], [1, 0, 0]], 2, 4, [[0, 1, 1, 0], [0, 2, 2, 0]]),
([[0, 1, 1], [1, 0, 0], [1, 0, 1]], 2, 4, [[0, 1, 1, 0], [0, 2, 2, 0]])]
def tab2 : List Entry := [
([[0, 1, 1], [1, 0, 1], [1, 1, 0]], 2, 0, [[0, 1, 1, 2, 2, 0], [0, 2, 2, 1, 1, 0]]),
([[0, 1, 1], [1, 0, 1], [1, 1, 1]], 2, 0, [[0, 1, 1, 2, 2, 0], [0, 2, 2, 1, 1, 0]]),
([[0, 1, 1], [2, 0, 0], [0, 1, 0]], 2, 2, [[0, 1, 1, 0], [0, 2, 2, 1, 1, 0]]),
([[0, 1, 1], [2, 0, 0], [0, 1, 1]], 2, 2, [[0, 1, 1, 0], [0, 2, 2, 1, 1, 0]]),
([[0, 2, 0], [0, 0, 2], [2, 0, 0]], 2, 0, [[0, 1, 1, 2, 2, 0], [0, 1, 1, 2, 2, 0]]),
([[0, 2, 0], [0, 0, 2], [2, 0, 1]], 2, 0, [[0, 1, 1, 2, 2, 0], [0, 1, 1, 2, 2, 0]]),
([[0, 2, 0], [1, 0, 1], [1, 0, 0]], 2, 2, [[0, 1, 1, 0], [0, 1, 1, 2, 2, 0]]),
([[0, 2, 0], [1, 0, 1], [1, 0, 1]], 2, 2, [[0, 1, 1, 0], [0, 1, 1, 2, 2, 0]]),
([[0, 2, 0], [2, 0, 0], [0, 0, 0]], 2, 2, [[0, 1, 1, 0], [0, 1, 1, 0]]),
([[0, 2, 0], [2, 0, 0], [0, 0, 1]], 2, 2, [[0, 1, 1, 0], [0, 1, 1, 0]]),
([[0, 0, 0, 0], [0, 0, 0, 0], [0, 0, 0, 1], [0, 0, 1, 0]], 1, 0, [[2, 3, 3, 2]]),
([[0, 0, 0, 0], [0, 0, 0, 0], [0, 0, 0, 1], [0, 0, 1, 1]], 1, 0, [[2, 3, 3, 2]]),
([[0, 0, 0, 0], [0, 0, 0, 0], [0, 0, 0, 2], [0, 0, 2, 0]], 2, 0, [[2, 3, 3, 2], [2, 3, 3, 2]]),
([[0, 0, 0, 0], [0, 0, 0, 0], [0, 0, 0, 2], [0, 0, 2, 1]], 2, 0, [[2, 3, 3, 2], [2, 3, 3, 2]]),
([[0, 0, 0, 0], [0, 0, 0, 1], [0, 0, 0, 0], [0, 1, 0, 0]], 1, 1, [[1, 3, 3, 1]])]
def tab3 : List Entry := [
([[0, 0, 0, 0], [0, 0, 0, 1], [0, 0, 0, 0], [0, 1, 0, 1]], 1, 1, [[1, 3, 3, 1]]),
([[0, 0, 0, 0], [0, 0, 0, 1], [0, 0, 0, 1], [0, 1, 1, 0]], 2, 2, [[1, 3, 3, 1], [2, 3, 3, 2]]),
([[0, 0, 0, 0], [0, 0, 0, 1], [0, 0, 0, 1], [0, 1, 1, 1]], 2, 2, [[1, 3, 3, 1], [2, 3, 3, 2]]),
([[0, 0, 0, 0], [0, 0, 0, 1], [0, 1, 0, 0], [0, 0, 1, 0]], 1, 3, [[1, 3, 3, 2, 2, 1]]),
([[0, 0, 0, 0], [0, 0, 0, 1], [0, 1, 0, 0], [0, 0, 1, 1]], 1, 3, [[1, 3, 3, 2, 2, 1]]),
([[0, 0, 0, 0], [0, 0, 0, 1], [0, 1, 0, 1], [0, 0, 2, 0]], 2, 0, [[2, 3, 3, 2], [1, 3, 3, 2, 2, 1]]),
([[0, 0, 0, 0], [0, 0, 0, 1], [0, 1, 0, 1], [0, 0, 2, 1]], 2, 0, [[2, 3, 3, 2], [1, 3, 3, 2, 2, 1]]),
([[0, 0, 0, 0], [0, 0, 0, 2], [0, 0, 0, 0], [0, 2, 0, 0]], 2, 1, [[1, 3, 3, 1], [1, 3, 3, 1]]),
([[0, 0, 0, 0], [0, 0, 0, 2], [0, 0, 0, 0], [0, 2, 0, 1]], 2, 1, [[1, 3, 3, 1], [1, 3, 3, 1]]),
([[0, 0, 0, 0], [0, 0, 0, 2], [0, 1, 0, 0], [0, 1, 1, 0]], 2, 1, [[1, 3, 3, 1], [1, 3, 3, 2, 2, 1]]),
([[0, 0, 0, 0], [0, 0, 0, 2], [0, 1, 0, 0], [0, 1, 1, 1]], 2, 1, [[1, 3, 3, 1], [1, 3, 3, 2, 2, 1]]),
([[0, 0, 0, 0], [0, 0, 0, 2], [0, 2, 0, 0], [0, 0, 2, 0]], 2, 3, [[1, 3, 3, 2, 2, 1], [1, 3, 3, 2, 2, 1]]),
([[0, 0, 0, 0], [0, 0, 0, 2], [0, 2, 0, 0], [0, 0, 2, 1]], 2, 3, [[1, 3, 3, 2, 2, 1], [1, 3, 3, 2, 2, 1]]),
([[0, 0, 0, 0], [0, 0, 1, 0], [0, 0, 0, 1], [0, 1, 0, 0]], 1, 3, [[1, 2, 2, 3, 3, 1]]),
([[0, 0, 0, 0], [0, 0, 1, 0], [0, 0, 0, 1], [0, 1, 0, 1]], 1, 3, [[1, 2, 2, 3, 3, 1]])]
def tab4 : List Entry := [
([[0, 0, 0, 0], [0, 0, 1, 0], [0, 0, 0, 2], [0, 1, 1, 0]], 2, 0, [[2, 3, 3, 2], [1, 2, 2, 3, 3, 1]]),
([[0, 0, 0, 0], [0, 0, 1, 0], [0, 0, 0, 2], [0, 1, 1, 1]], 2, 0, [[2, 3, 3, 2], [1, 2, 2, 3, 3, 1]]),
([[0, 0, 0, 0], [0, 0, 1, 0], [0, 1, 0, 0], [0, 0, 0, 0]], 1, 3, [[1, 2, 2, 1]]),
([[0, 0, 0, 0], [0, 0, 1, 0], [0, 1, 0, 0], [0, 0, 0, 1]], 1, 3, [[1, 2, 2, 1]]),
([[0, 0, 0, 0], [0, 0, 1, 0], [0, 1, 0, 1], [0, 0, 1, 0]], 2, 4, [[1, 2, 2, 1], [2, 3, 3, 2]]),
([[0, 0, 0, 0], [0, 0, 1, 0], [0, 1, 0, 1], [0, 0, 1, 1]], 2, 4, [[1, 2, 2, 1], [2, 3, 3, 2]]),
([[0, 0, 0, 0], [0, 0, 1, 1], [0, 0, 0, 1], [0, 2, 0, 0]], 2, 1, [[1, 3, 3, 1], [1, 2, 2, 3, 3, 1]]),
([[0, 0, 0, 0], [0, 0, 1, 1], [0, 0, 0, 1], [0, 2, 0, 1]], 2, 1, [[1, 3, 3, 1], [1, 2, 2, 3, 3, 1]]),
([[0, 0, 0, 0], [0, 0, 1, 1], [0, 1, 0, 0], [0, 1, 0, 0]], 2, 5, [[1, 2, 2, 1], [1, 3, 3, 1]]),
([[0, 0, 0, 0], [0, 0, 1, 1], [0, 1, 0, 0], [0, 1, 0, 1]], 2, 5, [[1, 2, 2, 1], [1, 3, 3, 1]]),
([[0, 0, 0, 0], [0, 0, 1, 1], [0, 1, 0, 1], [0, 1, 1, 0]], 2, 3, [[1, 2, 2, 3, 3, 1], [1, 3, 3, 2, 2, 1]]),
([[0, 0, 0, 0], [0, 0, 1, 1], [0, 1, 0, 1], [0, 1, 1, 1]], 2, 3, [[1, 2, 2, 3, 3, 1], [1, 3, 3, 2, 2, 1]]),
([[0, 0, 0, 0], [0, 0, 1, 1], [0, 2, 0, 0], [0, 0, 1, 0]], 2, 3, [[1, 2, 2, 1], [1, 3, 3, 2, 2, 1]]),
([[0, 0, 0, 0], [0, 0, 1, 1], [0, 2, 0, 0], [0, 0, 1, 1]], 2, 3, [[1, 2, 2, 1], [1, 3, 3, 2, 2, 1]]),
([[0, 0, 0, 0], [0, 0, 2, 0], [0, 0, 0, 2], [0, 2, 0, 0]], 2, 3, [[1, 2, 2, 3, 3, 1], [1, 2, 2, 3, 3, 1]])]
def tab5 : List Entry := [
([[0, 0, 0, 0], [0, 0, 2, 0], [0, 0, 0, 2], [0, 2, 0, 1]], 2, 3, [[1, 2, 2, 3, 3, 1], [1, 2, 2, 3, 3, 1]]),
([[0, 0, 0, 0], [0, 0, 2, 0], [0, 1, 0, 1], [0, 1, 0, 0]], 2, 3, [[1, 2, 2, 1], [1, 2, 2, 3, 3, 1]]),
([[0, 0, 0, 0], [0, 0, 2, 0], [0, 1, 0, 1], [0, 1, 0, 1]], 2, 3, [[1, 2, 2, 1], [1, 2, 2, 3, 3, 1]]),
([[0, 0, 0, 0], [0, 0, 2, 0], [0, 2, 0, 0], [0, 0, 0, 0]], 2, 3, [[1, 2, 2, 1], [1, 2, 2, 1]]),
([[0, 0, 0, 0], [0, 0, 2, 0], [0, 2, 0, 0], [0, 0, 0, 1]], 2, 3, [[1, 2, 2, 1], [1, 2, 2, 1]]),
([[0, 0, 0, 1], [0, 0, 0, 0], [0, 0, 0, 0], [1, 0, 0, 0]], 1, 3, [[0, 3, 3, 0]]),
([[0, 0, 0, 1], [0, 0, 0, 0], [0, 0, 0, 0], [1, 0, 0, 1]], 1, 3, [[0, 3, 3, 0]]),
([[0, 0, 0, 1], [0, 0, 0, 0], [0, 0, 0, 1], [1, 0, 1, 0]], 2, 4, [[0, 3, 3, 0], [2, 3, 3, 2]]),
([[0, 0, 0, 1], [0, 0, 0, 0], [0, 0, 0, 1], [1, 0, 1, 1]], 2, 4, [[0, 3, 3, 0], [2, 3, 3, 2]]),
([[0, 0, 0, 1], [0, 0, 0, 0], [1, 0, 0, 0], [0, 0, 1, 0]], 1, 3, [[0, 3, 3, 2, 2, 0]]),
([[0, 0, 0, 1], [0, 0, 0, 0], [1, 0, 0, 0], [0, 0, 1, 1]], 1, 3, [[0, 3, 3, 2, 2, 0]]),
([[0, 0, 0, 1], [0, 0, 0, 0], [1, 0, 0, 1], [0, 0, 2, 0]], 2, 0, [[2, 3, 3, 2], [0, 3, 3, 2, 2, 0]]),
([[0, 0, 0, 1], [0, 0, 0, 0], [1, 0, 0, 1], [0, 0, 2, 1]], 2, 0, [[2, 3, 3, 2], [0, 3, 3, 2, 2, 0]]),
([[0, 0, 0, 1], [0, 0, 0, 1], [0, 0, 0, 0], [1, 1, 0, 0]], 2, 5, [[0, 3, 3, 0], [1, 3, 3, 1]]),
([[0, 0, 0, 1], [0, 0, 0, 1], [0, 0, 0, 0], [1, 1, 0, 1]], 2, 5, [[0, 3, 3, 0], [1, 3, 3, 1]])]
def tab6 : List Entry := [
([[0, 0, 0, 1], [0, 0, 0, 1], [0, 1, 0, 0], [1, 0, 1, 0]], 2, 3, [[0, 3, 3, 0], [1, 3, 3, 2, 2, 1]]),
([[0, 0, 0, 1], [0, 0, 0, 1], [0, 1, 0, 0], [1, 0, 1, 1]], 2, 3, [[0, 3, 3, 0], [1, 3, 3, 2, 2, 1]]),
([[0, 0, 0, 1], [0, 0, 0, 1], [1, 0, 0, 0], [0, 1, 1, 0]], 2, 1, [[1, 3, 3, 1], [0, 3, 3, 2, 2, 0]]),
([[0, 0, 0, 1], [0, 0, 0, 1], [1, 0, 0, 0], [0, 1, 1, 1]], 2, 1, [[1, 3, 3, 1], [0, 3, 3, 2, 2, 0]]),
([[0, 0, 0, 1], [0, 0, 0, 1], [1, 1, 0, 0], [0, 0, 2, 0]], 2, 3, [[0, 3, 3, 2, 2, 0], [1, 3, 3, 2, 2, 1]]),
([[0, 0, 0, 1], [0, 0, 0, 1], [1, 1, 0, 0], [0, 0, 2, 1]], 2, 3, [[0, 3, 3, 2, 2, 0], [1, 3, 3, 2, 2, 1]]),
([[0, 0, 0, 1], [0, 0, 1, 0], [0, 0, 0, 1], [1, 1, 0, 0]], 2, 3, [[0, 3, 3, 0], [1, 2, 2, 3, 3, 1]]),
([[0, 0, 0, 1], [0, 0, 1, 0], [0, 0, 0, 1], [1, 1, 0, 1]], 2, 3, [[0, 3, 3, 0], [1, 2, 2, 3, 3, 1]]),
([[0, 0, 0, 1], [0, 0, 1, 0], [0, 1, 0, 0], [1, 0, 0, 0]], 2, 3, [[0, 3, 3, 0], [1, 2, 2, 1]]),
([[0, 0, 0, 1], [0, 0, 1, 0], [0, 1, 0, 0], [1, 0, 0, 1]], 2, 3, [[0, 3, 3, 0], [1, 2, 2, 1]]),
([[0, 0, 0, 1], [0, 0, 1, 0], [1, 0, 0, 0], [0, 1, 0, 0]], 2, 5, [[0, 3, 2, 0], [1, 2, 2, 3, 3, 1]]),
([[0, 0, 0, 1], [0, 0, 1, 0], [1, 0, 0, 0], [0, 1, 0, 1]], 2, 5, [[0, 3, 2, 0], [1, 2, 2, 3, 3, 1]]),
([[0, 0, 0, 1], [0, 0, 1, 0], [1, 0, 0, 1], [0, 1, 1, 0]], 2, 3, [[0, 3, 3, 2, 2, 0], [1, 2, 2, 3, 3, 1]]),
([[0, 0, 0, 1], [0, 0, 1, 0], [1, 0, 0, 1], [0, 1, 1, 1]], 2, 3, [[0, 3, 3, 2, 2, 0], [1, 2, 2, 3, 3, 1]]),
([[0, 0, 0, 1], [0, 0, 1, 0], [1, 1, 0, 0], [0, 0, 1, 0]], 2, 3, [[1, 2, 2, 1], [0, 3, 3, 2, 2, 0]])]
def tab7 : List Entry := [
([[0, 0, 0, 1], [0, 0, 1, 0], [1, 1, 0, 0], [0, 0, 1, 1]], 2, 3, [[1, 2, 2, 1], [0, 3, 3, 2, 2, 0]]),
([[0, 0, 0, 1], [0, 0, 1, 1], [1, 0, 0, 0], [0, 2, 0, 0]], 3, 5, [[0, 3, 2, 0], [1, 3, 3, 1], [1, 2, 2, 3, 3, 1]]),
([[0, 0, 0, 1], [0, 0, 1, 1], [1, 0, 0, 0], [0, 2, 0, 1]], 3, 5, [[0, 3, 2, 0], [1, 3, 3, 1], [1, 2, 2, 3, 3, 1]]),
([[0, 0, 0, 1], [0, 0, 2, 0], [1, 1, 0, 0], [0, 1, 0, 0]], 3, 5, [[0, 3, 2, 0], [1, 2, 2, 1], [1, 2, 2, 3, 3, 1]]),
([[0, 0, 0, 1], [0, 0, 2, 0], [1, 1, 0, 0], [0, 1, 0, 1]], 3, 5, [[0, 3, 2, 0], [1, 2, 2, 1], [1, 2, 2, 3, 3, 1]]),
([[0, 0, 0, 1], [1, 0, 0, 0], [0, 0, 0, 0], [0, 1, 0, 0]], 1, 3, [[0, 3, 3, 1, 1, 0]]),
([[0, 0, 0, 1], [1, 0, 0, 0], [0, 0, 0, 0], [0, 1, 0, 1]], 1, 3, [[0, 3, 3, 1, 1, 0]]),
([[0, 0, 0, 1], [1, 0, 0, 0], [0, 0, 0, 1], [0, 1, 1, 0]], 2, 0, [[2, 3, 3, 2], [0, 3, 3, 1, 1, 0]]),
([[0, 0, 0, 1], [1, 0, 0, 0], [0, 0, 0, 1], [0, 1, 1, 1]], 2, 0, [[2, 3, 3, 2], [0, 3, 3, 1, 1, 0]]),
([[0, 0, 0, 1], [1, 0, 0, 0], [0, 1, 0, 0], [0, 0, 1, 0]], 2, 4, [[0, 3, 1, 0], [1, 3, 3, 2, 2, 1]]),
([[0, 0, 0, 1], [1, 0, 0, 0], [0, 1, 0, 0], [0, 0, 1, 1]], 2, 4, [[0, 3, 1, 0], [1, 3, 3, 2, 2, 1]]),
([[0, 0, 0, 1], [1, 0, 0, 0], [0, 1, 0, 1], [0, 0, 2, 0]], 3, 4, [[0, 3, 1, 0], [2, 3, 3, 2], [1, 3, 3, 2, 2, 1]]),
([[0, 0, 0, 1], [1, 0, 0, 0], [0, 1, 0, 1], [0, 0, 2, 1]], 3, 4, [[0, 3, 1, 0], [2, 3, 3, 2], [1, 3, 3, 2, 2, 1]]),
([[0, 0, 0, 1], [1, 0, 0, 1], [0, 0, 0, 0], [0, 2, 0, 0]], 2, 1, [[1, 3, 3, 1], [0, 3, 3, 1, 1, 0]]),
([[0, 0, 0, 1], [1, 0, 0, 1], [0, 0, 0, 0], [0, 2, 0, 1]], 2, 1, [[1, 3, 3, 1], [0, 3, 3, 1, 1, 0]])]
def tab8 : List Entry := [
([[0, 0, 0, 1], [1, 0, 0, 1], [0, 1, 0, 0], [0, 1, 1, 0]], 2, 3, [[0, 3, 3, 1, 1, 0], [1, 3, 3, 2, 2, 1]]),
([[0, 0, 0, 1], [1, 0, 0, 1], [0, 1, 0, 0], [0, 1, 1, 1]], 2, 3, [[0, 3, 3, 1, 1, 0], [1, 3, 3, 2, 2, 1]]),
([[0, 0, 0, 1], [1, 0, 1, 0], [0, 0, 0, 1], [0, 2, 0, 0]], 2, 3, [[0, 3, 3, 1, 1, 0], [1, 2, 2, 3, 3, 1]]),
([[0, 0, 0, 1], [1, 0, 1, 0], [0, 0, 0, 1], [0, 2, 0, 1]], 2, 3, [[0, 3, 3, 1, 1, 0], [1, 2, 2, 3, 3, 1]]),
([[0, 0, 0, 1], [1, 0, 1, 0], [0, 1, 0, 0], [0, 1, 0, 0]], 2, 3, [[1, 2, 2, 1], [0, 3, 3, 1, 1, 0]]),
([[0, 0, 0, 1], [1, 0, 1, 0], [0, 1, 0, 0], [0, 1, 0, 1]], 2, 3, [[1, 2, 2, 1], [0, 3, 3, 1, 1, 0]]),
([[0, 0, 0, 1], [1, 0, 1, 0], [0, 2, 0, 0], [0, 0, 1, 0]], 3, 4, [[0, 3, 1, 0], [1, 2, 2, 1], [1, 3, 3, 2, 2, 1]]),
([[0, 0, 0, 1], [1, 0, 1, 0], [0, 2, 0, 0], [0, 0, 1, 1]], 3, 4, [[0, 3, 1, 0], [1, 2, 2, 1], [1, 3, 3, 2, 2, 1]]),
([[0, 0, 0, 2], [0, 0, 0, 0], [0, 0, 0, 0], [2, 0, 0, 0]], 2, 3, [[0, 3, 3, 0], [0, 3, 3, 0]]),
([[0, 0, 0, 2], [0, 0, 0, 0], [0, 0, 0, 0], [2, 0, 0, 1]], 2, 3, [[0, 3, 3, 0], [0, 3, 3, 0]]),
([[0, 0, 0, 2], [0, 0, 0, 0], [1, 0, 0, 0], [1, 0, 1, 0]], 2, 3, [[0, 3, 3, 0], [0, 3, 3, 2, 2, 0]]),
([[0, 0, 0, 2], [0, 0, 0, 0], [1, 0, 0, 0], [1, 0, 1, 1]], 2, 3, [[0, 3, 3, 0], [0, 3, 3, 2, 2, 0]]),
([[0, 0, 0, 2], [0, 0, 0, 0], [2, 0, 0, 0], [0, 0, 2, 0]], 2, 3, [[0, 3, 3, 2, 2, 0], [0, 3, 3, 2, 2, 0]]),
([[0, 0, 0, 2], [0, 0, 0, 0], [2, 0, 0, 0], [0, 0, 2, 1]], 2, 3, [[0, 3, 3, 2, 2, 0], [0, 3, 3, 2, 2, 0]]),
([[0, 0, 0, 2], [0, 0, 1, 0], [1, 0, 0, 0], [1, 1, 0, 0]], 3, 5, [[0, 3, 2, 0], [0, 3, 3, 0], [1, 2, 2, 3, 3, 1]])]
def tab9 : List Entry := [
([[0, 0, 0, 2], [0, 0, 1, 0], [1, 0, 0, 0], [1, 1, 0, 1]], 3, 5, [[0, 3, 2, 0], [0, 3, 3, 0], [1, 2, 2, 3, 3, 1]]),
([[0, 0, 0, 2], [1, 0, 0, 0], [0, 0, 0, 0], [1, 1, 0, 0]], 2, 3, [[0, 3, 3, 0], [0, 3, 3, 1, 1, 0]]),
([[0, 0, 0, 2], [1, 0, 0, 0], [0, 0, 0, 0], [1, 1, 0, 1]], 2, 3, [[0, 3, 3, 0], [0, 3, 3, 1, 1, 0]]),
([[0, 0, 0, 2], [1, 0, 0, 0], [0, 1, 0, 0], [1, 0, 1, 0]], 3, 4, [[0, 3, 1, 0], [0, 3, 3, 0], [1, 3, 3, 2, 2, 1]]),
([[0, 0, 0, 2], [1, 0, 0, 0], [0, 1, 0, 0], [1, 0, 1, 1]], 3, 4, [[0, 3, 1, 0], [0, 3, 3, 0], [1, 3, 3, 2, 2, 1]]),
([[0, 0, 0, 2], [1, 0, 0, 0], [1, 0, 0, 0], [0, 1, 1, 0]], 2, 3, [[0, 3, 3, 1, 1, 0], [0, 3, 3, 2, 2, 0]]),
([[0, 0, 0, 2], [1, 0, 0, 0], [1, 0, 0, 0], [0, 1, 1, 1]], 2, 3, [[0, 3, 3, 1, 1, 0], [0, 3, 3, 2, 2, 0]]),
([[0, 0, 0, 2], [2, 0, 0, 0], [0, 0, 0, 0], [0, 2, 0, 0]], 2, 3, [[0, 3, 3, 1, 1, 0], [0, 3, 3, 1, 1, 0]]),
([[0, 0, 0, 2], [2, 0, 0, 0], [0, 0, 0, 0], [0, 2, 0, 1]], 2, 3, [[0, 3, 3, 1, 1, 0], [0, 3, 3, 1, 1, 0]]),
([[0, 0, 1, 0], [0, 0, 0, 0], [0, 0, 0, 1], [1, 0, 0, 0]], 1, 3, [[0, 2, 2, 3, 3, 0]]),
([[0, 0, 1, 0], [0, 0, 0, 0], [0, 0, 0, 1], [1, 0, 0, 1]], 1, 3, [[0, 2, 2, 3, 3, 0]]),
([[0, 0, 1, 0], [0, 0, 0, 0], [0, 0, 0, 2], [1, 0, 1, 0]], 2, 0, [[2, 3, 3, 2], [0, 2, 2, 3, 3, 0]]),
([[0, 0, 1, 0], [0, 0, 0, 0], [0, 0, 0, 2], [1, 0, 1, 1]], 2, 0, [[2, 3, 3, 2], [0, 2, 2, 3, 3, 0]]),
([[0, 0, 1, 0], [0, 0, 0, 0], [1, 0, 0, 0], [0, 0, 0, 0]], 1, 1, [[0, 2, 2, 0]]),
([[0, 0, 1, 0], [0, 0, 0, 0], [1, 0, 0, 0], [0, 0, 0, 1]], 1, 1, [[0, 2, 2, 0]])]
def tab10 : List Entry := [
([[0, 0, 1, 0], [0, 0, 0, 0], [1, 0, 0, 1], [0, 0, 1, 0]], 2, 2, [[0, 2, 2, 0], [2, 3, 3, 2]]),
([[0, 0, 1, 0], [0, 0, 0, 0], [1, 0, 0, 1], [0, 0, 1, 1]], 2, 2, [[0, 2, 2, 0], [2, 3, 3, 2]]),
([[0, 0, 1, 0], [0, 0, 0, 1], [0, 0, 0, 1], [1, 1, 0, 0]], 2, 1, [[1, 3, 3, 1], [0, 2, 2, 3, 3, 0]]),
([[0, 0, 1, 0], [0, 0, 0, 1], [0, 0, 0, 1], [1, 1, 0, 1]], 2, 1, [[1, 3, 3, 1], [0, 2, 2, 3, 3, 0]]),
([[0, 0, 1, 0], [0, 0, 0, 1], [0, 1, 0, 0], [1, 0, 0, 0]], 2, 5, [[0, 2, 2, 1], [0, 1, 1, 3, 3, 0]]),
([[0, 0, 1, 0], [0, 0, 0, 1], [0, 1, 0, 0], [1, 0, 0, 1]], 2, 5, [[0, 2, 2, 1], [0, 1, 1, 3, 3, 0]]),
([[0, 0, 1, 0], [0, 0, 0, 1], [0, 1, 0, 1], [1, 0, 1, 0]], 2, 3, [[0, 2, 2, 3, 3, 0], [1, 3, 3, 2, 2, 1]]),
([[0, 0, 1, 0], [0, 0, 0, 1], [0, 1, 0, 1], [1, 0, 1, 1]], 2, 3, [[0, 2, 2, 3, 3, 0], [1, 3, 3, 2, 2, 1]]),
([[0, 0, 1, 0], [0, 0, 0, 1], [1, 0, 0, 0], [0, 1, 0, 0]], 2, 1, [[0, 2, 2, 0], [1, 3, 3, 1]]),
([[0, 0, 1, 0], [0, 0, 0, 1], [1, 0, 0, 0], [0, 1, 0, 1]], 2, 1, [[0, 2, 2, 0], [1, 3, 3, 1]]),
([[0, 0, 1, 0], [0, 0, 0, 1], [1, 1, 0, 0], [0, 0, 1, 0]], 2, 1, [[0, 2, 2, 0], [1, 3, 3, 2, 2, 1]]),
([[0, 0, 1, 0], [0, 0, 0, 1], [1, 1, 0, 0], [0, 0, 1, 1]], 2, 1, [[0, 2, 2, 0], [1, 3, 3, 2, 2, 1]]),
([[0, 0, 1, 0], [0, 0, 0, 2], [0, 1, 0, 0], [1, 1, 0, 0]], 3, 5, [[0, 2, 2, 1], [1, 3, 3, 1], [0, 1, 1, 3, 3, 0]]),
([[0, 0, 1, 0], [0, 0, 0, 2], [0, 1, 0, 0], [1, 1, 0, 1]], 3, 5, [[0, 2, 2, 1], [1, 3, 3, 1], [0, 1, 1, 3, 3, 0]]),
([[0, 0, 1, 0], [0, 0, 1, 0], [0, 0, 0, 2], [1, 1, 0, 0]], 2, 3, [[0, 2, 2, 3, 3, 0], [1, 2, 2, 3, 3, 1]])]
def tab11 : List Entry := [
([[0, 0, 1, 0], [0, 0, 1, 0], [0, 0, 0, 2], [1, 1, 0, 1]], 2, 3, [[0, 2, 2, 3, 3, 0], [1, 2, 2, 3, 3, 1]]),
([[0, 0, 1, 0], [0, 0, 1, 0], [0, 1, 0, 1], [1, 0, 0, 0]], 2, 3, [[1, 2, 2, 1], [0, 2, 2, 3, 3, 0]]),
([[0, 0, 1, 0], [0, 0, 1, 0], [0, 1, 0, 1], [1, 0, 0, 1]], 2, 3, [[1, 2, 2, 1], [0, 2, 2, 3, 3, 0]]),
([[0, 0, 1, 0], [0, 0, 1, 0], [1, 0, 0, 1], [0, 1, 0, 0]], 2, 1, [[0, 2, 2, 0], [1, 2, 2, 3, 3, 1]]),
([[0, 0, 1, 0], [0, 0, 1, 0], [1, 0, 0, 1], [0, 1, 0, 1]], 2, 1, [[0, 2, 2, 0], [1, 2, 2, 3, 3, 1]]),
([[0, 0, 1, 0], [0, 0, 1, 0], [1, 1, 0, 0], [0, 0, 0, 0]], 2, 5, [[0, 2, 2, 0], [1, 2, 2, 1]]),
([[0, 0, 1, 0], [0, 0, 1, 0], [1, 1, 0, 0], [0, 0, 0, 1]], 2, 5, [[0, 2, 2, 0], [1, 2, 2, 1]]),
([[0, 0, 1, 0], [0, 0, 1, 1], [0, 2, 0, 0], [1, 0, 0, 0]], 3, 5, [[0, 2, 2, 1], [1, 2, 2, 1], [0, 1, 1, 3, 3, 0]]),
([[0, 0, 1, 0], [0, 0, 1, 1], [0, 2, 0, 0], [1, 0, 0, 1]], 3, 5, [[0, 2, 2, 1], [1, 2, 2, 1], [0, 1, 1, 3, 3, 0]]),
([[0, 0, 1, 0], [1, 0, 0, 0], [0, 0, 0, 1], [0, 1, 0, 0]], 2, 2, [[0, 2, 1, 0], [1, 2, 2, 3, 3, 1]]),
([[0, 0, 1, 0], [1, 0, 0, 0], [0, 0, 0, 1], [0, 1, 0, 1]], 2, 2, [[0, 2, 1, 0], [1, 2, 2, 3, 3, 1]]),
([[0, 0, 1, 0], [1, 0, 0, 0], [0, 0, 0, 2], [0, 1, 1, 0]], 3, 2, [[0, 2, 1, 0], [2, 3, 3, 2], [1, 2, 2, 3, 3, 1]]),
([[0, 0, 1, 0], [1, 0, 0, 0], [0, 0, 0, 2], [0, 1, 1, 1]], 3, 2, [[0, 2, 1, 0], [2, 3, 3, 2], [1, 2, 2, 3, 3, 1]]),
([[0, 0, 1, 0], [1, 0, 0, 0], [0, 1, 0, 0], [0, 0, 0, 0]], 1, 3, [[0, 2, 2, 1, 1, 0]]),
([[0, 0, 1, 0], [1, 0, 0, 0], [0, 1, 0, 0], [0, 0, 0, 1]], 1, 3, [[0, 2, 2, 1, 1, 0]])]
def tab12 : List Entry := [
([[0, 0, 1, 0], [1, 0, 0, 0], [0, 1, 0, 1], [0, 0, 1, 0]], 2, 0, [[2, 3, 3, 2], [0, 2, 2, 1, 1, 0]]),
([[0, 0, 1, 0], [1, 0, 0, 0], [0, 1, 0, 1], [0, 0, 1, 1]], 2, 0, [[2, 3, 3, 2], [0, 2, 2, 1, 1, 0]]),
([[0, 0, 1, 0], [1, 0, 0, 1], [0, 0, 0, 1], [0, 2, 0, 0]], 3, 2, [[0, 2, 1, 0], [1, 3, 3, 1], [1, 2, 2, 3, 3, 1]]),
([[0, 0, 1, 0], [1, 0, 0, 1], [0, 0, 0, 1], [0, 2, 0, 1]], 3, 2, [[0, 2, 1, 0], [1, 3, 3, 1], [1, 2, 2, 3, 3, 1]]),
([[0, 0, 1, 0], [1, 0, 0, 1], [0, 1, 0, 0], [0, 1, 0, 0]], 2, 1, [[1, 3, 3, 1], [0, 2, 2, 1, 1, 0]]),
([[0, 0, 1, 0], [1, 0, 0, 1], [0, 1, 0, 0], [0, 1, 0, 1]], 2, 1, [[1, 3, 3, 1], [0, 2, 2, 1, 1, 0]]),
([[0, 0, 1, 0], [1, 0, 0, 1], [0, 2, 0, 0], [0, 0, 1, 0]], 2, 3, [[0, 2, 2, 1, 1, 0], [1, 3, 3, 2, 2, 1]]),
([[0, 0, 1, 0], [1, 0, 0, 1], [0, 2, 0, 0], [0, 0, 1, 1]], 2, 3, [[0, 2, 2, 1, 1, 0], [1, 3, 3, 2, 2, 1]]),
([[0, 0, 1, 0], [1, 0, 1, 0], [0, 1, 0, 1], [0, 1, 0, 0]], 2, 3, [[0, 2, 2, 1, 1, 0], [1, 2, 2, 3, 3, 1]]),
([[0, 0, 1, 0], [1, 0, 1, 0], [0, 1, 0, 1], [0, 1, 0, 1]], 2, 3, [[0, 2, 2, 1, 1, 0], [1, 2, 2, 3, 3, 1]]),
([[0, 0, 1, 0], [1, 0, 1, 0], [0, 2, 0, 0], [0, 0, 0, 0]], 2, 3, [[1, 2, 2, 1], [0, 2, 2, 1, 1, 0]]),
([[0, 0, 1, 0], [1, 0, 1, 0], [0, 2, 0, 0], [0, 0, 0, 1]], 2, 3, [[1, 2, 2, 1], [0, 2, 2, 1, 1, 0]]),
([[0, 0, 1, 1], [0, 0, 0, 0], [0, 0, 0, 1], [2, 0, 0, 0]], 2, 3, [[0, 3, 3, 0], [0, 2, 2, 3, 3, 0]]),
([[0, 0, 1, 1], [0, 0, 0, 0], [0, 0, 0, 1], [2, 0, 0, 1]], 2, 3, [[0, 3, 3, 0], [0, 2, 2, 3, 3, 0]]),
([[0, 0, 1, 1], [0, 0, 0, 0], [1, 0, 0, 0], [1, 0, 0, 0]], 2, 5, [[0, 2, 2, 0], [0, 3, 3, 0]])]
def tab13 : List Entry := [
([[0, 0, 1, 1], [0, 0, 0, 0], [1, 0, 0, 0], [1, 0, 0, 1]], 2, 5, [[0, 2, 2, 0], [0, 3, 3, 0]]),
([[0, 0, 1, 1], [0, 0, 0, 0], [1, 0, 0, 1], [1, 0, 1, 0]], 2, 3, [[0, 2, 2, 3, 3, 0], [0, 3, 3, 2, 2, 0]]),
([[0, 0, 1, 1], [0, 0, 0, 0], [1, 0, 0, 1], [1, 0, 1, 1]], 2, 3, [[0, 2, 2, 3, 3, 0], [0, 3, 3, 2, 2, 0]]),
([[0, 0, 1, 1], [0, 0, 0, 0], [2, 0, 0, 0], [0, 0, 1, 0]], 2, 1, [[0, 2, 2, 0], [0, 3, 3, 2, 2, 0]]),
([[0, 0, 1, 1], [0, 0, 0, 0], [2, 0, 0, 0], [0, 0, 1, 1]], 2, 1, [[0, 2, 2, 0], [0, 3, 3, 2, 2, 0]]),
([[0, 0, 1, 1], [0, 0, 0, 1], [0, 1, 0, 0], [2, 0, 0, 0]], 3, 5, [[0, 2, 2, 1], [0, 3, 3, 0], [0, 1, 1, 3, 3, 0]]),
([[0, 0, 1, 1], [0, 0, 0, 1], [0, 1, 0, 0], [2, 0, 0, 1]], 3, 5, [[0, 2, 2, 1], [0, 3, 3, 0], [0, 1, 1, 3, 3, 0]]),
([[0, 0, 1, 1], [0, 0, 1, 0], [2, 0, 0, 0], [0, 1, 0, 0]], 3, 5, [[0, 2, 2, 0], [0, 3, 2, 0], [1, 2, 2, 3, 3, 1]]),
([[0, 0, 1, 1], [0, 0, 1, 0], [2, 0, 0, 0], [0, 1, 0, 1]], 3, 5, [[0, 2, 2, 0], [0, 3, 2, 0], [1, 2, 2, 3, 3, 1]]),
([[0, 0, 1, 1], [1, 0, 0, 0], [0, 0, 0, 1], [1, 1, 0, 0]], 2, 3, [[0, 2, 2, 3, 3, 0], [0, 3, 3, 1, 1, 0]]),
([[0, 0, 1, 1], [1, 0, 0, 0], [0, 0, 0, 1], [1, 1, 0, 1]], 2, 3, [[0, 2, 2, 3, 3, 0], [0, 3, 3, 1, 1, 0]]),
([[0, 0, 1, 1], [1, 0, 0, 0], [0, 1, 0, 0], [1, 0, 0, 0]], 2, 3, [[0, 3, 3, 0], [0, 2, 2, 1, 1, 0]]),
([[0, 0, 1, 1], [1, 0, 0, 0], [0, 1, 0, 0], [1, 0, 0, 1]], 2, 3, [[0, 3, 3, 0], [0, 2, 2, 1, 1, 0]]),
([[0, 0, 1, 1], [1, 0, 0, 0], [1, 0, 0, 0], [0, 1, 0, 0]], 2, 1, [[0, 2, 2, 0], [0, 3, 3, 1, 1, 0]]),
([[0, 0, 1, 1], [1, 0, 0, 0], [1, 0, 0, 0], [0, 1, 0, 1]], 2, 1, [[0, 2, 2, 0], [0, 3, 3, 1, 1, 0]])]
def tab14 : List Entry := [
([[0, 0, 1, 1], [1, 0, 0, 0], [1, 1, 0, 0], [0, 0, 1, 0]], 2, 3, [[0, 2, 2, 1, 1, 0], [0, 3, 3, 2, 2, 0]]),
([[0, 0, 1, 1], [1, 0, 0, 0], [1, 1, 0, 0], [0, 0, 1, 1]], 2, 3, [[0, 2, 2, 1, 1, 0], [0, 3, 3, 2, 2, 0]]),
([[0, 0, 1, 1], [2, 0, 0, 0], [0, 1, 0, 0], [0, 1, 0, 0]], 2, 3, [[0, 2, 2, 1, 1, 0], [0, 3, 3, 1, 1, 0]]),
([[0, 0, 1, 1], [2, 0, 0, 0], [0, 1, 0, 0], [0, 1, 0, 1]], 2, 3, [[0, 2, 2, 1, 1, 0], [0, 3, 3, 1, 1, 0]]),
([[0, 0, 2, 0], [0, 0, 0, 0], [0, 0, 0, 2], [2, 0, 0, 0]], 2, 3, [[0, 2, 2, 3, 3, 0], [0, 2, 2, 3, 3, 0]]),
([[0, 0, 2, 0], [0, 0, 0, 0], [0, 0, 0, 2], [2, 0, 0, 1]], 2, 3, [[0, 2, 2, 3, 3, 0], [0, 2, 2, 3, 3, 0]]),
([[0, 0, 2, 0], [0, 0, 0, 0], [1, 0, 0, 1], [1, 0, 0, 0]], 2, 1, [[0, 2, 2, 0], [0, 2, 2, 3, 3, 0]]),
([[0, 0, 2, 0], [0, 0, 0, 0], [1, 0, 0, 1], [1, 0, 0, 1]], 2, 1, [[0, 2, 2, 0], [0, 2, 2, 3, 3, 0]]),
([[0, 0, 2, 0], [0, 0, 0, 0], [2, 0, 0, 0], [0, 0, 0, 0]], 2, 1, [[0, 2, 2, 0], [0, 2, 2, 0]]),
([[0, 0, 2, 0], [0, 0, 0, 0], [2, 0, 0, 0], [0, 0, 0, 1]], 2, 1, [[0, 2, 2, 0], [0, 2, 2, 0]]),
([[0, 0, 2, 0], [0, 0, 0, 1], [1, 1, 0, 0], [1, 0, 0, 0]], 3, 5, [[0, 2, 2, 0], [0, 2, 2, 1], [0, 1, 1, 3, 3, 0]]),
([[0, 0, 2, 0], [0, 0, 0, 1], [1, 1, 0, 0], [1, 0, 0, 1]], 3, 5, [[0, 2, 2, 0], [0, 2, 2, 1], [0, 1, 1, 3, 3, 0]]),
([[0, 0, 2, 0], [1, 0, 0, 0], [0, 1, 0, 1], [1, 0, 0, 0]], 2, 3, [[0, 2, 2, 1, 1, 0], [0, 2, 2, 3, 3, 0]]),
([[0, 0, 2, 0], [1, 0, 0, 0], [0, 1, 0, 1], [1, 0, 0, 1]], 2, 3, [[0, 2, 2, 1, 1, 0], [0, 2, 2, 3, 3, 0]]),
([[0, 0, 2, 0], [1, 0, 0, 0], [1, 0, 0, 1], [0, 1, 0, 0]], 3, 2, [[0, 2, 1, 0], [0, 2, 2, 0], [1, 2, 2, 3, 3, 1]])]
def tab15 : List Entry := [
([[0, 0, 2, 0], [1, 0, 0, 0], [1, 0, 0, 1], [0, 1, 0, 1]], 3, 2, [[0, 2, 1, 0], [0, 2, 2, 0], [1, 2, 2, 3, 3, 1]]),
([[0, 0, 2, 0], [1, 0, 0, 0], [1, 1, 0, 0], [0, 0, 0, 0]], 2, 1, [[0, 2, 2, 0], [0, 2, 2, 1, 1, 0]]),
([[0, 0, 2, 0], [1, 0, 0, 0], [1, 1, 0, 0], [0, 0, 0, 1]], 2, 1, [[0, 2, 2, 0], [0, 2, 2, 1, 1, 0]]),
([[0, 0, 2, 0], [2, 0, 0, 0], [0, 2, 0, 0], [0, 0, 0, 0]], 2, 3, [[0, 2, 2, 1, 1, 0], [0, 2, 2, 1, 1, 0]]),
([[0, 0, 2, 0], [2, 0, 0, 0], [0, 2, 0, 0], [0, 0, 0, 1]], 2, 3, [[0, 2, 2, 1, 1, 0], [0, 2, 2, 1, 1, 0]]),
([[0, 1, 0, 0], [0, 0, 0, 1], [0, 0, 0, 0], [1, 0, 0, 0]], 1, 3, [[0, 1, 1, 3, 3, 0]]),
([[0, 1, 0, 0], [0, 0, 0, 1], [0, 0, 0, 0], [1, 0, 0, 1]], 1, 3, [[0, 1, 1, 3, 3, 0]]),
([[0, 1, 0, 0], [0, 0, 0, 1], [0, 0, 0, 1], [1, 0, 1, 0]], 2, 0, [[2, 3, 3, 2], [0, 1, 1, 3, 3, 0]]),
([[0, 1, 0, 0], [0, 0, 0, 1], [0, 0, 0, 1], [1, 0, 1, 1]], 2, 0, [[2, 3, 3, 2], [0, 1, 1, 3, 3, 0]]),
([[0, 1, 0, 0], [0, 0, 0, 1], [1, 0, 0, 0], [0, 0, 1, 0]], 2, 2, [[0, 1, 1, 3], [0, 3, 3, 2, 2, 0]]),
([[0, 1, 0, 0], [0, 0, 0, 1], [1, 0, 0, 0], [0, 0, 1, 1]], 2, 2, [[0, 1, 1, 3], [0, 3, 3, 2, 2, 0]]),
([[0, 1, 0, 0], [0, 0, 0, 1], [1, 0, 0, 1], [0, 0, 2, 0]], 3, 2, [[0, 1, 1, 3], [2, 3, 3, 2], [0, 3, 3, 2, 2, 0]]),
([[0, 1, 0, 0], [0, 0, 0, 1], [1, 0, 0, 1], [0, 0, 2, 1]], 3, 2, [[0, 1, 1, 3], [2, 3, 3, 2], [0, 3, 3, 2, 2, 0]]),
([[0, 1, 0, 0], [0, 0, 0, 2], [0, 0, 0, 0], [1, 1, 0, 0]], 2, 1, [[1, 3, 3, 1], [0, 1, 1, 3, 3, 0]]),
([[0, 1, 0, 0], [0, 0, 0, 2], [0, 0, 0, 0], [1, 1, 0, 1]], 2, 1, [[1, 3, 3, 1], [0, 1, 1, 3, 3, 0]])]
def tab16 : List Entry := [
([[0, 1, 0, 0], [0, 0, 0, 2], [0, 1, 0, 0], [1, 0, 1, 0]], 2, 3, [[0, 1, 1, 3, 3, 0], [1, 3, 3, 2, 2, 1]]),
([[0, 1, 0, 0], [0, 0, 0, 2], [0, 1, 0, 0], [1, 0, 1, 1]], 2, 3, [[0, 1, 1, 3, 3, 0], [1, 3, 3, 2, 2, 1]]),
([[0, 1, 0, 0], [0, 0, 0, 2], [1, 0, 0, 0], [0, 1, 1, 0]], 3, 2, [[0, 1, 1, 3], [1, 3, 3, 1], [0, 3, 3, 2, 2, 0]]),
([[0, 1, 0, 0], [0, 0, 0, 2], [1, 0, 0, 0], [0, 1, 1, 1]], 3, 2, [[0, 1, 1, 3], [1, 3, 3, 1], [0, 3, 3, 2, 2, 0]]),
([[0, 1, 0, 0], [0, 0, 1, 0], [0, 0, 0, 1], [1, 0, 0, 0]], 2, 4, [[0, 1, 1, 2], [0, 2, 2, 3, 3, 0]]),
([[0, 1, 0, 0], [0, 0, 1, 0], [0, 0, 0, 1], [1, 0, 0, 1]], 2, 4, [[0, 1, 1, 2], [0, 2, 2, 3, 3, 0]]),
([[0, 1, 0, 0], [0, 0, 1, 0], [0, 0, 0, 2], [1, 0, 1, 0]], 3, 4, [[0, 1, 1, 2], [2, 3, 3, 2], [0, 2, 2, 3, 3, 0]]),
([[0, 1, 0, 0], [0, 0, 1, 0], [0, 0, 0, 2], [1, 0, 1, 1]], 3, 4, [[0, 1, 1, 2], [2, 3, 3, 2], [0, 2, 2, 3, 3, 0]]),
([[0, 1, 0, 0], [0, 0, 1, 0], [1, 0, 0, 0], [0, 0, 0, 0]], 1, 3, [[0, 1, 1, 2, 2, 0]]),
([[0, 1, 0, 0], [0, 0, 1, 0], [1, 0, 0, 0], [0, 0, 0, 1]], 1, 3, [[0, 1, 1, 2, 2, 0]]),
([[0, 1, 0, 0], [0, 0, 1, 0], [1, 0, 0, 1], [0, 0, 1, 0]], 2, 0, [[2, 3, 3, 2], [0, 1, 1, 2, 2, 0]]),
([[0, 1, 0, 0], [0, 0, 1, 0], [1, 0, 0, 1], [0, 0, 1, 1]], 2, 0, [[2, 3, 3, 2], [0, 1, 1, 2, 2, 0]]),
([[0, 1, 0, 0], [0, 0, 1, 1], [0, 0, 0, 1], [1, 1, 0, 0]], 2, 3, [[0, 1, 1, 3, 3, 0], [1, 2, 2, 3, 3, 1]]),
([[0, 1, 0, 0], [0, 0, 1, 1], [0, 0, 0, 1], [1, 1, 0, 1]], 2, 3, [[0, 1, 1, 3, 3, 0], [1, 2, 2, 3, 3, 1]]),
([[0, 1, 0, 0], [0, 0, 1, 1], [0, 1, 0, 0], [1, 0, 0, 0]], 2, 3, [[1, 2, 2, 1], [0, 1, 1, 3, 3, 0]])]
def tab17 : List Entry := [
([[0, 1, 0, 0], [0, 0, 1, 1], [0, 1, 0, 0], [1, 0, 0, 1]], 2, 3, [[1, 2, 2, 1], [0, 1, 1, 3, 3, 0]]),
([[0, 1, 0, 0], [0, 0, 1, 1], [1, 0, 0, 0], [0, 1, 0, 0]], 2, 1, [[1, 3, 3, 1], [0, 1, 1, 2, 2, 0]]),
([[0, 1, 0, 0], [0, 0, 1, 1], [1, 0, 0, 0], [0, 1, 0, 1]], 2, 1, [[1, 3, 3, 1], [0, 1, 1, 2, 2, 0]]),
([[0, 1, 0, 0], [0, 0, 1, 1], [1, 1, 0, 0], [0, 0, 1, 0]], 2, 3, [[0, 1, 1, 2, 2, 0], [1, 3, 3, 2, 2, 1]]),
([[0, 1, 0, 0], [0, 0, 1, 1], [1, 1, 0, 0], [0, 0, 1, 1]], 2, 3, [[0, 1, 1, 2, 2, 0], [1, 3, 3, 2, 2, 1]]),
([[0, 1, 0, 0], [0, 0, 2, 0], [0, 1, 0, 1], [1, 0, 0, 0]], 3, 4, [[0, 1, 1, 2], [1, 2, 2, 1], [0, 2, 2, 3, 3, 0]]),
([[0, 1, 0, 0], [0, 0, 2, 0], [0, 1, 0, 1], [1, 0, 0, 1]], 3, 4, [[0, 1, 1, 2], [1, 2, 2, 1], [0, 2, 2, 3, 3, 0]]),
([[0, 1, 0, 0], [0, 0, 2, 0], [1, 0, 0, 1], [0, 1, 0, 0]], 2, 3, [[0, 1, 1, 2, 2, 0], [1, 2, 2, 3, 3, 1]]),
([[0, 1, 0, 0], [0, 0, 2, 0], [1, 0, 0, 1], [0, 1, 0, 1]], 2, 3, [[0, 1, 1, 2, 2, 0], [1, 2, 2, 3, 3, 1]]),
([[0, 1, 0, 0], [0, 0, 2, 0], [1, 1, 0, 0], [0, 0, 0, 0]], 2, 3, [[1, 2, 2, 1], [0, 1, 1, 2, 2, 0]]),
([[0, 1, 0, 0], [0, 0, 2, 0], [1, 1, 0, 0], [0, 0, 0, 1]], 2, 3, [[1, 2, 2, 1], [0, 1, 1, 2, 2, 0]]),
([[0, 1, 0, 0], [1, 0, 0, 0], [0, 0, 0, 0], [0, 0, 0, 0]], 1, 0, [[0, 1, 1, 0]]),
([[0, 1, 0, 0], [1, 0, 0, 0], [0, 0, 0, 0], [0, 0, 0, 1]], 1, 0, [[0, 1, 1, 0]]),
([[0, 1, 0, 0], [1, 0, 0, 0], [0, 0, 0, 1], [0, 0, 1, 0]], 2, 0, [[0, 1, 1, 0], [2, 3, 3, 2]]),
([[0, 1, 0, 0], [1, 0, 0, 0], [0, 0, 0, 1], [0, 0, 1, 1]], 2, 0, [[0, 1, 1, 0], [2, 3, 3, 2]])]
def tab18 : List Entry := [
([[0, 1, 0, 0], [1, 0, 0, 1], [0, 0, 0, 0], [0, 1, 0, 0]], 2, 2, [[0, 1, 1, 0], [1, 3, 3, 1]]),
([[0, 1, 0, 0], [1, 0, 0, 1], [0, 0, 0, 0], [0, 1, 0, 1]], 2, 2, [[0, 1, 1, 0], [1, 3, 3, 1]]),
([[0, 1, 0, 0], [1, 0, 0, 1], [0, 1, 0, 0], [0, 0, 1, 0]], 2, 0, [[0, 1, 1, 0], [1, 3, 3, 2, 2, 1]]),
([[0, 1, 0, 0], [1, 0, 0, 1], [0, 1, 0, 0], [0, 0, 1, 1]], 2, 0, [[0, 1, 1, 0], [1, 3, 3, 2, 2, 1]]),
([[0, 1, 0, 0], [1, 0, 1, 0], [0, 0, 0, 1], [0, 1, 0, 0]], 2, 0, [[0, 1, 1, 0], [1, 2, 2, 3, 3, 1]]),
([[0, 1, 0, 0], [1, 0, 1, 0], [0, 0, 0, 1], [0, 1, 0, 1]], 2, 0, [[0, 1, 1, 0], [1, 2, 2, 3, 3, 1]]),
([[0, 1, 0, 0], [1, 0, 1, 0], [0, 1, 0, 0], [0, 0, 0, 0]], 2, 4, [[0, 1, 1, 0], [1, 2, 2, 1]]),
([[0, 1, 0, 0], [1, 0, 1, 0], [0, 1, 0, 0], [0, 0, 0, 1]], 2, 4, [[0, 1, 1, 0], [1, 2, 2, 1]]),
([[0, 1, 0, 1], [0, 0, 0, 1], [0, 0, 0, 0], [2, 0, 0, 0]], 2, 3, [[0, 3, 3, 0], [0, 1, 1, 3, 3, 0]]),
([[0, 1, 0, 1], [0, 0, 0, 1], [0, 0, 0, 0], [2, 0, 0, 1]], 2, 3, [[0, 3, 3, 0], [0, 1, 1, 3, 3, 0]]),
([[0, 1, 0, 1], [0, 0, 0, 1], [1, 0, 0, 0], [1, 0, 1, 0]], 2, 3, [[0, 1, 1, 3, 3, 0], [0, 3, 3, 2, 2, 0]]),
([[0, 1, 0, 1], [0, 0, 0, 1], [1, 0, 0, 0], [1, 0, 1, 1]], 2, 3, [[0, 1, 1, 3, 3, 0], [0, 3, 3, 2, 2, 0]]),
([[0, 1, 0, 1], [0, 0, 1, 0], [0, 0, 0, 1], [2, 0, 0, 0]], 3, 4, [[0, 1, 1, 2], [0, 3, 3, 0], [0, 2, 2, 3, 3, 0]]),
([[0, 1, 0, 1], [0, 0, 1, 0], [0, 0, 0, 1], [2, 0, 0, 1]], 3, 4, [[0, 1, 1, 2], [0, 3, 3, 0], [0, 2, 2, 3, 3, 0]]),
([[0, 1, 0, 1], [0, 0, 1, 0], [1, 0, 0, 0], [1, 0, 0, 0]], 2, 3, [[0, 3, 3, 0], [0, 1, 1, 2, 2, 0]])]
def tab19 : List Entry := [
([[0, 1, 0, 1], [0, 0, 1, 0], [1, 0, 0, 0], [1, 0, 0, 1]], 2, 3, [[0, 3, 3, 0], [0, 1, 1, 2, 2, 0]]),
([[0, 1, 0, 1], [0, 0, 1, 0], [2, 0, 0, 0], [0, 0, 1, 0]], 2, 3, [[0, 1, 1, 2, 2, 0], [0, 3, 3, 2, 2, 0]]),
([[0, 1, 0, 1], [0, 0, 1, 0], [2, 0, 0, 0], [0, 0, 1, 1]], 2, 3, [[0, 1, 1, 2, 2, 0], [0, 3, 3, 2, 2, 0]]),
([[0, 1, 0, 1], [1, 0, 0, 0], [0, 0, 0, 0], [1, 0, 0, 0]], 2, 4, [[0, 1, 1, 0], [0, 3, 3, 0]]),
([[0, 1, 0, 1], [1, 0, 0, 0], [0, 0, 0, 0], [1, 0, 0, 1]], 2, 4, [[0, 1, 1, 0], [0, 3, 3, 0]]),
([[0, 1, 0, 1], [1, 0, 0, 0], [1, 0, 0, 0], [0, 0, 1, 0]], 2, 0, [[0, 1, 1, 0], [0, 3, 3, 2, 2, 0]]),
([[0, 1, 0, 1], [1, 0, 0, 0], [1, 0, 0, 0], [0, 0, 1, 1]], 2, 0, [[0, 1, 1, 0], [0, 3, 3, 2, 2, 0]]),
([[0, 1, 0, 1], [1, 0, 0, 1], [0, 0, 0, 0], [1, 1, 0, 0]], 2, 3, [[0, 1, 1, 3, 3, 0], [0, 3, 3, 1, 1, 0]]),
([[0, 1, 0, 1], [1, 0, 0, 1], [0, 0, 0, 0], [1, 1, 0, 1]], 2, 3, [[0, 1, 1, 3, 3, 0], [0, 3, 3, 1, 1, 0]]),
([[0, 1, 0, 1], [1, 0, 1, 0], [1, 0, 0, 0], [0, 1, 0, 0]], 2, 3, [[0, 1, 1, 2, 2, 0], [0, 3, 3, 1, 1, 0]]),
([[0, 1, 0, 1], [1, 0, 1, 0], [1, 0, 0, 0], [0, 1, 0, 1]], 2, 3, [[0, 1, 1, 2, 2, 0], [0, 3, 3, 1, 1, 0]]),
([[0, 1, 0, 1], [2, 0, 0, 0], [0, 0, 0, 0], [0, 1, 0, 0]], 2, 0, [[0, 1, 1, 0], [0, 3, 3, 1, 1, 0]]),
([[0, 1, 0, 1], [2, 0, 0, 0], [0, 0, 0, 0], [0, 1, 0, 1]], 2, 0, [[0, 1, 1, 0], [0, 3, 3, 1, 1, 0]]),
([[0, 1, 0, 1], [2, 0, 0, 0], [0, 1, 0, 0], [0, 0, 1, 0]], 3, 4, [[0, 1, 1, 0], [0, 3, 1, 0], [1, 3, 3, 2, 2, 1]]),
([[0, 1, 0, 1], [2, 0, 0, 0], [0, 1, 0, 0], [0, 0, 1, 1]], 3, 4, [[0, 1, 1, 0], [0, 3, 1, 0], [1, 3, 3, 2, 2, 1]])]
def tab20 : List Entry := [
([[0, 1, 1, 0], [0, 0, 0, 1], [0, 0, 0, 1], [2, 0, 0, 0]], 2, 3, [[0, 1, 1, 3, 3, 0], [0, 2, 2, 3, 3, 0]]),
([[0, 1, 1, 0], [0, 0, 0, 1], [0, 0, 0, 1], [2, 0, 0, 1]], 2, 3, [[0, 1, 1, 3, 3, 0], [0, 2, 2, 3, 3, 0]]),
([[0, 1, 1, 0], [0, 0, 0, 1], [1, 0, 0, 0], [1, 0, 0, 0]], 2, 1, [[0, 2, 2, 0], [0, 1, 1, 3, 3, 0]]),
([[0, 1, 1, 0], [0, 0, 0, 1], [1, 0, 0, 0], [1, 0, 0, 1]], 2, 1, [[0, 2, 2, 0], [0, 1, 1, 3, 3, 0]]),
([[0, 1, 1, 0], [0, 0, 0, 1], [2, 0, 0, 0], [0, 0, 1, 0]], 3, 2, [[0, 1, 1, 3], [0, 2, 2, 0], [0, 3, 3, 2, 2, 0]]),
([[0, 1, 1, 0], [0, 0, 0, 1], [2, 0, 0, 0], [0, 0, 1, 1]], 3, 2, [[0, 1, 1, 3], [0, 2, 2, 0], [0, 3, 3, 2, 2, 0]]),
([[0, 1, 1, 0], [0, 0, 1, 0], [1, 0, 0, 1], [1, 0, 0, 0]], 2, 3, [[0, 1, 1, 2, 2, 0], [0, 2, 2, 3, 3, 0]]),
([[0, 1, 1, 0], [0, 0, 1, 0], [1, 0, 0, 1], [1, 0, 0, 1]], 2, 3, [[0, 1, 1, 2, 2, 0], [0, 2, 2, 3, 3, 0]]),
([[0, 1, 1, 0], [0, 0, 1, 0], [2, 0, 0, 0], [0, 0, 0, 0]], 2, 1, [[0, 2, 2, 0], [0, 1, 1, 2, 2, 0]]),
([[0, 1, 1, 0], [0, 0, 1, 0], [2, 0, 0, 0], [0, 0, 0, 1]], 2, 1, [[0, 2, 2, 0], [0, 1, 1, 2, 2, 0]]),
([[0, 1, 1, 0], [1, 0, 0, 0], [0, 0, 0, 1], [1, 0, 0, 0]], 2, 0, [[0, 1, 1, 0], [0, 2, 2, 3, 3, 0]]),
([[0, 1, 1, 0], [1, 0, 0, 0], [0, 0, 0, 1], [1, 0, 0, 1]], 2, 0, [[0, 1, 1, 0], [0, 2, 2, 3, 3, 0]]),
([[0, 1, 1, 0], [1, 0, 0, 0], [1, 0, 0, 0], [0, 0, 0, 0]], 2, 2, [[0, 1, 1, 0], [0, 2, 2, 0]]),
([[0, 1, 1, 0], [1, 0, 0, 0], [1, 0, 0, 0], [0, 0, 0, 1]], 2, 2, [[0, 1, 1, 0], [0, 2, 2, 0]]),
([[0, 1, 1, 0], [1, 0, 0, 1], [0, 1, 0, 0], [1, 0, 0, 0]], 2, 3, [[0, 1, 1, 3, 3, 0], [0, 2, 2, 1, 1, 0]])]
def tab21 : List Entry := [
([[0, 1, 1, 0], [1, 0, 0, 1], [0, 1, 0, 0], [1, 0, 0, 1]], 2, 3, [[0, 1, 1, 3, 3, 0], [0, 2, 2, 1, 1, 0]]),
([[0, 1, 1, 0], [1, 0, 1, 0], [1, 1, 0, 0], [0, 0, 0, 0]], 2, 3, [[0, 1, 1, 2, 2, 0], [0, 2, 2, 1, 1, 0]]),
([[0, 1, 1, 0], [1, 0, 1, 0], [1, 1, 0, 0], [0, 0, 0, 1]], 2, 3, [[0, 1, 1, 2, 2, 0], [0, 2, 2, 1, 1, 0]]),
([[0, 1, 1, 0], [2, 0, 0, 0], [0, 0, 0, 1], [0, 1, 0, 0]], 3, 2, [[0, 1, 1, 0], [0, 2, 1, 0], [1, 2, 2, 3, 3, 1]]),
([[0, 1, 1, 0], [2, 0, 0, 0], [0, 0, 0, 1], [0, 1, 0, 1]], 3, 2, [[0, 1, 1, 0], [0, 2, 1, 0], [1, 2, 2, 3, 3, 1]]),
([[0, 1, 1, 0], [2, 0, 0, 0], [0, 1, 0, 0], [0, 0, 0, 0]], 2, 0, [[0, 1, 1, 0], [0, 2, 2, 1, 1, 0]]),
([[0, 1, 1, 0], [2, 0, 0, 0], [0, 1, 0, 0], [0, 0, 0, 1]], 2, 0, [[0, 1, 1, 0], [0, 2, 2, 1, 1, 0]]),
([[0, 2, 0, 0], [0, 0, 0, 2], [0, 0, 0, 0], [2, 0, 0, 0]], 2, 3, [[0, 1, 1, 3, 3, 0], [0, 1, 1, 3, 3, 0]]),
([[0, 2, 0, 0], [0, 0, 0, 2], [0, 0, 0, 0], [2, 0, 0, 1]], 2, 3, [[0, 1, 1, 3, 3, 0], [0, 1, 1, 3, 3, 0]]),
([[0, 2, 0, 0], [0, 0, 1, 1], [1, 0, 0, 0], [1, 0, 0, 0]], 2, 3, [[0, 1, 1, 2, 2, 0], [0, 1, 1, 3, 3, 0]]),
([[0, 2, 0, 0], [0, 0, 1, 1], [1, 0, 0, 0], [1, 0, 0, 1]], 2, 3, [[0, 1, 1, 2, 2, 0], [0, 1, 1, 3, 3, 0]]),
([[0, 2, 0, 0], [0, 0, 2, 0], [2, 0, 0, 0], [0, 0, 0, 0]], 2, 3, [[0, 1, 1, 2, 2, 0], [0, 1, 1, 2, 2, 0]]),
([[0, 2, 0, 0], [0, 0, 2, 0], [2, 0, 0, 0], [0, 0, 0, 1]], 2, 3, [[0, 1, 1, 2, 2, 0], [0, 1, 1, 2, 2, 0]]),
([[0, 2, 0, 0], [1, 0, 0, 1], [0, 0, 0, 0], [1, 0, 0, 0]], 2, 0, [[0, 1, 1, 0], [0, 1, 1, 3, 3, 0]]),
([[0, 2, 0, 0], [1, 0, 0, 1], [0, 0, 0, 0], [1, 0, 0, 1]], 2, 0, [[0, 1, 1, 0], [0, 1, 1, 3, 3, 0]])]
def tab22 : List Entry := [
([[0, 2, 0, 0], [1, 0, 0, 1], [1, 0, 0, 0], [0, 0, 1, 0]], 3, 2, [[0, 1, 1, 0], [0, 1, 1, 3], [0, 3, 3, 2, 2, 0]]),
([[0, 2, 0, 0], [1, 0, 0, 1], [1, 0, 0, 0], [0, 0, 1, 1]], 3, 2, [[0, 1, 1, 0], [0, 1, 1, 3], [0, 3, 3, 2, 2, 0]]),
([[0, 2, 0, 0], [1, 0, 1, 0], [0, 0, 0, 1], [1, 0, 0, 0]], 3, 4, [[0, 1, 1, 0], [0, 1, 1, 2], [0, 2, 2, 3, 3, 0]]),
([[0, 2, 0, 0], [1, 0, 1, 0], [0, 0, 0, 1], [1, 0, 0, 1]], 3, 4, [[0, 1, 1, 0], [0, 1, 1, 2], [0, 2, 2, 3, 3, 0]]),
([[0, 2, 0, 0], [1, 0, 1, 0], [1, 0, 0, 0], [0, 0, 0, 0]], 2, 0, [[0, 1, 1, 0], [0, 1, 1, 2, 2, 0]]),
([[0, 2, 0, 0], [1, 0, 1, 0], [1, 0, 0, 0], [0, 0, 0, 1]], 2, 0, [[0, 1, 1, 0], [0, 1, 1, 2, 2, 0]]),
([[0, 2, 0, 0], [2, 0, 0, 0], [0, 0, 0, 0], [0, 0, 0, 0]], 2, 0, [[0, 1, 1, 0], [0, 1, 1, 0]]),
([[0, 2, 0, 0], [2, 0, 0, 0], [0, 0, 0, 0], [0, 0, 0, 1]], 2, 0, [[0, 1, 1, 0], [0, 1, 1, 0]])]
def tabs : List Entry := tab0 ++ tab1 ++ tab2 ++ tab3 ++ tab4 ++ tab5 ++ tab6 ++ tab7 ++ tab8 ++ tab9 ++ tab10 ++ tab11 ++ tab12 ++ tab13 ++ tab14 ++ tab15 ++ tab16 ++ tab17 ++ tab18 ++ tab19 ++ tab20 ++ tab21 ++ tab22
end K30

namespace K30
def combos (n : Nat) : List (List (List Nat)) := (lawRings n).flatMap fun r1 => [r1] :: ((lawRings n).filter fun r2 => decide (r2.length + r1.length < 7)).map fun r2 => [r1, r2]
theorem mem_combos {n : Nat} {rs : List (List Nat)} (h : Combo n rs) : rs ∈ combos n := by
  obtain ⟨r1, h1, h⟩ := h
  refine List.mem_flatMap.mpr ⟨r1, h1, ?_⟩
  rcases h with rfl | ⟨r2, h2, h3, rfl⟩
  · simp
  · exact List.mem_cons_of_mem _ (List.mem_map.mpr ⟨r2, List.mem_filter.mpr ⟨h2, decide_eq_true h3⟩, rfl⟩)
def inTabs (g : Grid) : Bool := tabs.any fun z => decide (z.1 = g)
def allIn (n : Nat) : Bool := (combos n).all fun rs => inTabs (setCell (laidM n rs) (n - 1) (n - 1) 0) && inTabs (setCell (laidM n rs) (n - 1) (n - 1) 1)
theorem all_in : (allIn 3 && allIn 4) = true := by decide +kernel
theorem plain_of (tab_ok : tabs.all okE = true) : PlainLaw := by
  intro n hn rs hc b hb
  have key : ∀ g : Grid, inTabs g = true → g.length = n → Fine n g := fun g hg hl => by
    unfold inTabs at hg
    obtain ⟨z, hz, e⟩ := List.any_eq_true.mp hg
    have e2 : z.1 = g := of_decide_eq_true e
    have f := okE_fine (List.all_eq_true.mp tab_ok z hz)
    rw [e2, hl] at f
    exact f
  have ai := all_in
  rw [Bool.and_eq_true] at ai
  have an : allIn n = true := by
    rcases hn with rfl | rfl
    · exact ai.1
    · exact ai.2
  have hm := List.all_eq_true.mp an rs (mem_combos hc)
  rw [Bool.and_eq_true] at hm
  have hl : ∀ v, (setCell (laidM n rs) (n - 1) (n - 1) v).length = n := fun v => (Sq.set (laid_sq n rs)).1
  have : b = 0 ∨ b = 1 := by omega
  rcases this with rfl | rfl
  · exact key _ hm.1 (hl _)
  · exact key _ hm.2 (hl _)
end K30

namespace K30
theorem tabOk0 : tab0.all okE = true := by decide +kernel
theorem tabOk1 : tab1.all okE = true := by decide +kernel
theorem tabOk2 : tab2.all okE = true := by decide +kernel
theorem tabOk3 : tab3.all okE = true := by decide +kernel
theorem tabOk4 : tab4.all okE = true := by decide +kernel
theorem tabOk5 : tab5.all okE = true := by decide +kernel
theorem tabOk6 : tab6.all okE = true := by decide +kernel
theorem tabOk7 : tab7.all okE = true := by decide +kernel
theorem tabOk8 : tab8.all okE = true := by decide +kernel
theorem tabOk9 : tab9.all okE = true := by decide +kernel
theorem tabOk10 : tab10.all okE = true := by decide +kernel
theorem tabOk11 : tab11.all okE = true := by decide +kernel
theorem tabOk12 : tab12.all okE = true := by decide +kernel
theorem tabOk13 : tab13.all okE = true := by decide +kernel
theorem tabOk14 : tab14.all okE = true := by decide +kernel
theorem tabOk15 : tab15.all okE = true := by decide +kernel
theorem tabOk16 : tab16.all okE = true := by decide +kernel
theorem tabOk17 : tab17.all okE = true := by decide +kernel
theorem tabOk18 : tab18.all okE = true := by decide +kernel
theorem tabOk19 : tab19.all okE = true := by decide +kernel
theorem tabOk20 : tab20.all okE = true := by decide +kernel
theorem tabOk21 : tab21.all okE = true := by decide +kernel
theorem tabOk22 : tab22.all okE = true := by decide +kernel
theorem tab_ok : tabs.all okE = true := by
  unfold tabs
  simp only [List.all_append, tabOk0, tabOk1, tabOk2, tabOk3, tabOk4, tabOk5, tabOk6, tabOk7, tabOk8, tabOk9, tabOk10, tabOk11, tabOk12, tabOk13, tabOk14, tabOk15, tabOk16, tabOk17, tabOk18, tabOk19, tabOk20, tabOk21, tabOk22, Bool.and_self]
end K30

open PySem PySem.W PySem.Calls PyProof.Rows
theorem K30.plain : K30.PlainLaw := K30.plain_of K30.tab_ok
theorem PySem.Challenge.cw_swapkinds_k30_whole_moves_by_search_holds : PySem.Challenge.rw_swapkinds_k30_whole_moves_by_search.Holds := by
  w_on; o_law
  refine HandSHeadRun.head_any (r := OpenLaw.row PySem.Challenge.rw_swapkinds_k30_whole_moves_by_search) (q := view (OpenLaw.row PySem.Challenge.rw_swapkinds_k30_whole_moves_by_search).prog [77]) (H := K30.hk) (ob := K30.ob) (M := 9000) (loose := K30.looseN)
    (d := HandSHeadRun.topDef (OpenLaw.row PySem.Challenge.rw_swapkinds_k30_whole_moves_by_search).prog 77) (kwd := []) K30.ob_eq
    (by kernel_rfl) (fun s => by kernel_rfl) K30.run (by kernel_rfl) (by kernel_rfl) (by kernel_rfl) (by rfl) (by first | assumption | decide +kernel) (by decide +kernel) ⟨rfl, rfl, rfl, rfl, rfl, by decide +kernel⟩ ?hw ?hc
  case hw => w_witness2
  case hc =>
    refine K30.walkG (l := PySem.Challenge.rw_swapkinds_k30_whole_moves_by_search) (n := 63) (k := 13) (x := "_law_script") rfl (by decide) (by kernel_rfl) ⟨rfl, by decide, by decide⟩ ?F
    intro w mg fa h Y G hmg0
    obtain ⟨K, KX, c⟩ := Y
    have hmg : mg ("law" : PySem.Str) = some (.ref fa) := by
      have e : (HandSHeadRun.topDef (OpenLaw.row PySem.Challenge.rw_swapkinds_k30_whole_moves_by_search).prog 77).name = ("law" : PySem.Str) := by kernel_rfl
      rw [← e]
      exact hmg0
    obtain ⟨fd, hb, hF⟩ := K30.facts (P := (PySem.Challenge.rw_swapkinds_k30_whole_moves_by_search).prog) (w := w) K30.plain KX G hmg c
    exact ⟨K, fd, K30.spLaw K, KX, hb, fun H a ns hl _ hS => ⟨a, ns, rfl, hS, by omega, fun _ => rfl⟩, hF⟩

