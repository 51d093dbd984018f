import PyProof.Rows.All
import Wide.All
import OpenK.AllK
import Wide.FinOn
import HandS.ForMost
import KE.GoesEnum
import HandS.Wide
import HandS.Zip
import HandS.Flow
import HandS.IsInst
import HandS.Conv
import HandS.Deep
import HandS.TupAny
import HandS.Walk
import HandS.Evl
import KE.DataMinMax
import HandS.Style
import HandS.EndBits
import PySem.Challenge.RW_putinside_k87_across_all_orders_of_the_s
set_option Elab.async false
set_option linter.all false
set_option maxRecDepth 100000
set_option maxHeartbeats 4000000
/-! enumerate(tuple) as something that is walked -/
namespace DL
open PySem L2
theorem enum_new1 {v : Value} {o : Obj} {H : Heap → Prop} (B : Begins v o H) :
    Meets (Builtin.«enumerate.__new__» ⟨[.type "enumerate", v], []⟩) (fun _ R s => H s.heap ∧
      R (.ok (.ret (.ref (s.heap.push o).objs.size))) { s with heap := (s.heap.push o).push { cls := .type "enumerate", data := .fields #[.none, .bool false, .ref s.heap.objs.size, rawInt 0, .none, .none] } }) :=
  .of_wp fun prog w A R s h => by
    obtain ⟨hp, g, d, tk, os⟩ := s; obtain ⟨h1, h⟩ := h
    have hsub := sub_enumerate
    have q1 : ∀ {A' : Around} {E : Value → Shared → Prop} {Q : Value → Shared → Prop}, Q (.ref hp.objs.size) ⟨hp.push o, g, d, tk, os⟩ → wpAny (model prog w) A' (pyIter v) Q E ⟨hp, g, d, tk, os⟩ :=
      fun q => B.iter prog w _ _ ⟨hp, g, d, tk, os⟩ _ h1 q
    wp_walk using q1
    refine wpAny_stack_any fun st => wpAny_pure ?_
    split
    · rename_i c _ _ _ _ _
      cases (c == Value.type "enumerate")
      · wp_walk using q1
        exact ⟨_, rfl, h⟩
      · wp_walk using q1
        exact ⟨_, rfl, h⟩
    · wp_walk using q1
      exact ⟨_, rfl, h⟩
section
variable {prog : Program} {w : World} {A : Around} {E : Value → Shared → Prop} {s : Shared}
theorem enum_begins1 {v : Value} {o : Obj} {H : Heap → Prop} {Q : Value → Shared → Prop} (B : Begins v o H) (h1 : H s.heap)
    (h : ∀ h', IsEnum h' (s.heap.objs.size + 1) s.heap.objs.size 0 .none → h'.get? s.heap.objs.size = some o → h'.objs.size = s.heap.objs.size + 2 →
      (∀ b o, s.heap.get? b = some o → h'.get? b = some o) → Q (.ref (s.heap.objs.size + 1)) { s with heap := h' }) :
    wpAny (model prog w) A (call (.type "enumerate") [v]) Q E s := by
  refine callType_new F.called_enumerate (by decide) (F.typeCall_enumerate_1 _) (F.newCall_enumerate_1 _) (fun obj => F.args_object_init_2 obj _) F.entry_enumerate_new
    (enum_new1 B) ⟨h1, ?_⟩
  have hz : (s.heap.push o).objs.size = s.heap.objs.size + 1 := Heap.size_push ..
  show _ ∧ _
  rw [hz]
  have he : IsEnum ((s.heap.push o).push { cls := .type "enumerate", data := .fields #[.none, .bool false, .ref s.heap.objs.size, rawInt 0, .none, .none] }) (s.heap.objs.size + 1) s.heap.objs.size 0 .none := by
    have := Heap.get?_push_size (s.heap.push o) (o := { cls := .type "enumerate", data := .fields #[.none, .bool false, .ref s.heap.objs.size, rawInt 0, .none, .none] }) rfl
    rw [hz] at this; exact this
  refine ⟨⟨_, he, rfl⟩, h _ he (Heap.get?_push_of_some _ (Heap.get?_push_size _ B.free)) (by rw [Heap.size_push, hz]) fun b o x => Heap.get?_push_of_some _ (Heap.get?_push_of_some _ x)⟩
end
/-- the tuple at a, each item in a new pair -/
def ItEt (K : PySem.W.Frag) (a : Addr) : It :=
  ⟨fun i H => ∃ (xs : List V) (x : V), SqT K H a xs ∧ xs[i]? = some x, fun i H v H' => ∃ T x, v = .ref T ∧ H T = none ∧ H' = upd H T (.tup [.int (i : Nat), x]) ∧ ∀ xs, SqT K H a xs → xs[i]? = some x, fun i H => ∃ xs : List V, SqT K H a xs ∧ xs.length = i⟩
theorem turn_enumT {P : Program} {w : World} {K : PySem.W.Frag} {elts : List Expr} {kk : Nat} {tpos : Pos} (a e it : Addr) (hai : a ≠ it) (hae : a ≠ e) :
    Turn P w K (.Tuple elts kk tpos) (ItEt K a) [e, it] e (fun i h => (∃ old, IsEnum h e it ((i : Nat) : Int) old) ∧ h.IsTupleIter it a i ∧ e ≠ it) where
  mem := by simp
  obj := fun i h st b hb => by
    obtain ⟨⟨old, he⟩, ⟨o, ho, hc, hd⟩, _⟩ := st
    have e' : b = e ∨ b = it := by simpa using hb
    rcases e' with z | z
    · rw [z]; exact ⟨_, he, fun v q => nomatch q⟩
    · rw [z]; exact ⟨o, ho, fun v q => by rw [hd] at q; cases q⟩
  keep := fun i h h' st k => let ⟨⟨old, he⟩, hi, hne⟩ := st; ⟨⟨old, k e (by simp) _ he⟩, hi.at fun o q => k it (by simp) o q, hne⟩
  item := by
    intro X hP hw hK hc i pins s σ H E I hf st hg
    subst hP hw hK
    obtain ⟨⟨old, he⟩, hit, hne⟩ := st
    obtain ⟨xs, x, hq, hx⟩ := hg
    obtain ⟨its, rv, p, hz⟩ := I.tuple hq
    obtain ⟨u, hu, ru⟩ := rv.get hx
    have hel : e < s.heap.objs.size := Heap.lt_size he
    have hil : it < s.heap.objs.size := by obtain ⟨_, q, _⟩ := hit; exact Heap.lt_size q
    have hlt : i < its.toArray.size := by
      have := (List.getElem?_eq_some_iff.mp hu).1
      simpa using this
    refine wpAny_pyNext_enum_itemC (Draws.tuple (A := X.A.in1) (I.ok.hd hc) it a hai its.toArray) he ⟨hit, p⟩ hlt hne (fun z => ?_) fun y h' tk hy ho st' hT hsz hk => ?_
    · have z' : e = it ∨ e = a := by simpa using z
      rcases z' with z | z
      · exact hne z
      · exact hae z.symm
    have hy : its.toArray[i]? = some y := hy
    have hyu : y = u := by
      have hu' : its.toArray[i]? = some u := by simpa using hu
      rw [hu'] at hy; exact (Option.some.inj hy).symm
    subst hyu
    obtain ⟨hit', _⟩ := st'
    refine ⟨_, rfl, wpAny_letOwnedTupleGo_enum (s := { s with heap := h', toks := tk + 1 }) ho fun h'' he' sb => ?_⟩
    have hT2 : h''.get? s.heap.objs.size = some { cls := .type "tuple", data := .seq #[.int i tk, y] } := (sb.2 _ (Nat.ne_of_gt hel)).trans hT
    have new : ObjOk X.prog X.w (upd H s.heap.objs.size (.tup [.int (i : Nat), x])) h'' s.heap.objs.size (.tup [.int (i : Nat), x]) :=
      ⟨by show 2 ≤ sizeLine; decide, [.int i tk, y], .cons ⟨_, rfl⟩ (.cons ru .nil), ⟨_, hT2, rfl, _, rfl⟩⟩
    have I1 : Inv X pins σ (upd H s.heap.objs.size (.tup [.int (i : Nat), x])) { s with heap := h'', toks := tk + 1 } :=
      I.turnedNew (ch := [e, it]) (fun b ob hb q => (sb.2 b (fun z => hb (by simp [z]))).trans (hk b ob (fun z => hb (by simp [z])) (fun z => hb (by simp [z])) q)) hf (Nat.le_refl _) new
    refine ⟨.ref s.heap.objs.size, _, I1, rfl, ⟨_, x, rfl, I.hok.fresh (Nat.le_refl _), rfl, fun ys hy => by rw [I.tuple_inj hy hq]; exact hx⟩, ⟨⟨y, ?_⟩, hit'.at fun o q => (sb.2 it (Ne.symm hne)).trans q, hne⟩, fun b hb => ?_⟩
    · have e1 : ((i + 1 : Nat) : Int) = (i : Int) + 1 := by omega
      rw [e1]; exact he'
    · have hb' : b < s.heap.objs.size := by
        have e' : b = e ∨ b = it := by simpa using hb
        rcases e' with z | z
        · rw [z]; exact hel
        · rw [z]; exact hil
      rw [upd_ne (Nat.ne_of_lt hb')]
      exact (hf b hb).1
  done := by
    intro X hP hw hK hc i pins s σ H E I hf st hg
    subst hP hw hK
    obtain ⟨⟨old, he⟩, hit, hne⟩ := st
    obtain ⟨xs, hq, hx⟩ := hg
    obtain ⟨its, rv, p, hz⟩ := I.tuple hq
    obtain ⟨f0, f1, f2, f3, f4, f5⟩ := hf it (by simp)
    have hl := rv.length
    have hn : its.toArray.size = i := by simp; omega
    subst hn
    exact wpAny_pyNext_enum_endD (Draws.tuple (A := X.A.in1) (I.ok.hd hc) it a hai its.toArray) he ⟨hit, p⟩ fun h' eb => ⟨rfl, I.turned (t' := s.toks) (fun b o hb q => eb b o hb q) f0 f1 f3 f4 f5⟩
  self := fun A i s Q E st h => let ⟨⟨_, he⟩, _⟩ := st; wpAny_pyIter_enum he h
end DL

set_option Elab.async false
set_option linter.all false
set_option maxRecDepth 100000
set_option maxHeartbeats 4000000
/-! DL: data are trees, mutated lists are cells of a store; a combinator for each construct, with its rule. -/
namespace DL
open PySem L2

/-! ### data, slots, stores -/
abbrev D := PyData
/-- what a name holds: data, a mutable list, or some object at a known address (the script) -/
inductive Sl where
  | d (x : D)
  | c (i : Nat)
  | x (a : Addr)
/-- a mutable list; once `off` it is never changed again -/
inductive Cel where
  | on (xs : List D)
  | off (xs : List D)
def Cel.xs : Cel → List D
  | .on xs => xs
  | .off xs => xs
abbrev Sto := List Cel
/-- a result: a value, or a list just made that nobody else holds -/
inductive Rs where
  | w (x : Sl)
  | fr (xs : List D)
abbrev En := List (Option Sl)
abbrev ED := En → Sto → Option (Rs × Sto)
abbrev BD := En → Sto → Option (Bool × Sto)
abbrev AD := En → Sto → Option (List Sl × Sto)
inductive Out where
  | nx (ρ : En) (S : Sto)
  | rt (r : Rs) (S : Sto)
  | bk (ρ : En) (S : Sto)
  | ct (ρ : En) (S : Sto)
abbrev SD := En → Sto → Option Out
abbrev FD := List Sl → Sto → Option (Rs × Sto)
def frz : Rs → Sl
  | .w x => x
  | .fr xs => .d (.list xs)
/-- the data behind a value, as it stands -/
def rd (S : Sto) : Sl → Option D
  | .d x => some x
  | .c i => (S[i]?).map fun c => .list c.xs
  | .x _ => none

/-! ### how they lie in the heap -/
mutual
inductive Rp (H : Hp) : V → D → Prop
  | non : Rp H .non .none
  | bl (b : Bool) : Rp H (.bl b) (.bool b)
  | int (i : Int) : Rp H (.int i) (.int i)
  | str (x : Str) : Rp H (.str x) (.str x)
  | lst {a : Addr} {xs : List V} {ds : List D} : H a = some (.lst xs) → Rps H xs ds → Rp H (.ref a) (.list ds)
  | tup {a : Addr} {xs : List V} {ds : List D} : H a = some (.tup xs) → Rps H xs ds → Rp H (.ref a) (.tuple ds)
inductive Rps (H : Hp) : List V → List D → Prop
  | nil : Rps H [] []
  | cons {v : V} {vs : List V} {d : D} {ds : List D} : Rp H v d → Rps H vs ds → Rps H (v :: vs) (d :: ds)
end
abbrev Ex (H H' : Hp) : Prop := ∀ a o, H a = some o → H' a = some o
theorem Ex.rfl' {H : Hp} : Ex H H := fun _ _ h => h
theorem Ex.tr {H H1 H2 : Hp} (a : Ex H H1) (b : Ex H1 H2) : Ex H H2 := fun x o h => b x o (a x o h)
mutual
theorem Rp.mono {H H' : Hp} (e : Ex H H') : ∀ (d : D) (v : V), Rp H v d → Rp H' v d
  | .none, _, h => by cases h; exact .non
  | .bool _, _, h => by cases h; exact .bl _
  | .int _, _, h => by cases h; exact .int _
  | .str _, _, h => by cases h; exact .str _
  | .list ds, _, h => by
    cases h with
    | lst ha hs => exact .lst (e _ _ ha) (Rps.mono e ds _ hs)
  | .tuple ds, _, h => by
    cases h with
    | tup ha hs => exact .tup (e _ _ ha) (Rps.mono e ds _ hs)
  | .dict _, _, h => by cases h
theorem Rps.mono {H H' : Hp} (e : Ex H H') : ∀ (ds : List D) (vs : List V), Rps H vs ds → Rps H' vs ds
  | [], _, h => by cases h; exact .nil
  | d :: ds, _, h => by
    cases h with
    | cons h1 h2 => exact .cons (Rp.mono e d _ h1) (Rps.mono e ds _ h2)
end
mutual
theorem Rp.dp {K : PySem.W.Frag} {H : Hp} : ∀ (d : D) (v : V), Rp H v d → Dp K H v d
  | .none, _, h => by cases h; exact .non
  | .bool _, _, h => by cases h; exact .bl _
  | .int _, _, h => by cases h; exact .int _
  | .str _, _, h => by cases h; exact .str _
  | .list ds, _, h => by
    cases h with
    | lst ha hs => exact .lst (SqL.of ha) (Rps.dp ds _ hs)
  | .tuple ds, _, h => by
    cases h with
    | tup ha hs => exact .tup (SqT.of ha) (Rps.dp ds _ hs)
  | .dict _, _, h => by cases h
theorem Rps.dp {K : PySem.W.Frag} {H : Hp} : ∀ (ds : List D) (vs : List V), Rps H vs ds → DpAll K H vs ds
  | [], _, h => by cases h; exact .nil
  | d :: ds, _, h => by
    cases h with
    | cons h1 h2 => exact .cons (Rp.dp d _ h1) (Rps.dp ds _ h2)
end
theorem Rps.length {H : Hp} : ∀ {ds : List D} {vs : List V}, Rps H vs ds → vs.length = ds.length
  | [], _, h => by cases h; rfl
  | d :: ds, _, h => by
    cases h with
    | cons h1 h2 => simp [Rps.length h2]
theorem Rps.get {H : Hp} : ∀ {ds : List D} {vs : List V} {i : Nat} {d : D}, Rps H vs ds → ds[i]? = some d → ∃ v, vs[i]? = some v ∧ Rp H v d
  | [], _, _, _, h, e => by simp at e
  | d :: ds, _, 0, _, h, e => by
    cases h with
    | cons h1 h2 =>
      simp at e; subst e
      exact ⟨_, rfl, h1⟩
  | d :: ds, _, i + 1, _, h, e => by
    cases h with
    | cons h1 h2 =>
      obtain ⟨v, q, r⟩ := Rps.get h2 (i := i) (by simpa using e)
      exact ⟨v, by simpa using q, r⟩
theorem Rps.getV {H : Hp} : ∀ {ds : List D} {vs : List V} {i : Nat} {v : V}, Rps H vs ds → vs[i]? = some v → ∃ d, ds[i]? = some d ∧ Rp H v d
  | [], _, _, _, h, e => by cases h; simp at e
  | d :: ds, _, 0, _, h, e => by
    cases h with
    | cons h1 h2 =>
      simp at e; subst e
      exact ⟨_, rfl, h1⟩
  | d :: ds, _, i + 1, _, h, e => by
    cases h with
    | cons h1 h2 =>
      obtain ⟨v, q, r⟩ := Rps.getV h2 (i := i) (by simpa using e)
      exact ⟨v, by simpa using q, r⟩
theorem Rps.app {H : Hp} : ∀ {ds es : List D} {vs ws : List V}, Rps H vs ds → Rps H ws es → Rps H (vs ++ ws) (ds ++ es)
  | [], _, _, _, h, g => by cases h; exact g
  | d :: ds, _, _, _, h, g => by
    cases h with
    | cons h1 h2 => exact .cons h1 (Rps.app h2 g)
theorem Rps.drop {H : Hp} : ∀ {ds : List D} {vs : List V} (n : Nat), Rps H vs ds → Rps H (vs.drop n) (ds.drop n)
  | _, _, 0, h => h
  | [], _, n + 1, h => by cases h; exact .nil
  | d :: ds, _, n + 1, h => by
    cases h with
    | cons h1 h2 => exact Rps.drop n h2
theorem Rps.take {H : Hp} : ∀ {ds : List D} {vs : List V} (n : Nat), Rps H vs ds → Rps H (vs.take n) (ds.take n)
  | _, _, 0, h => .nil
  | [], _, n + 1, h => by cases h; exact .nil
  | d :: ds, _, n + 1, h => by
    cases h with
    | cons h1 h2 => exact .cons h1 (Rps.take n h2)
theorem Rps.set {H : Hp} {v : V} {e : D} (he : Rp H v e) : ∀ {ds : List D} {vs : List V} (n : Nat), Rps H vs ds → Rps H (vs.set n v) (ds.set n e)
  | [], _, n, h => by cases h; exact .nil
  | d :: ds, _, 0, h => by
    cases h with
    | cons h1 h2 => exact .cons he h2
  | d :: ds, _, n + 1, h => by
    cases h with
    | cons h1 h2 => exact .cons h1 (Rps.set he n h2)
theorem Rps.erase {H : Hp} : ∀ {ds : List D} {vs : List V} (n : Nat), Rps H vs ds → Rps H (vs.eraseIdx n) (ds.eraseIdx n)
  | [], _, n, h => by cases h; exact .nil
  | d :: ds, _, 0, h => by
    cases h with
    | cons h1 h2 => exact h2
  | d :: ds, _, n + 1, h => by
    cases h with
    | cons h1 h2 => exact .cons h1 (Rps.erase n h2)
theorem Rps.rep {H : Hp} {ds : List D} {vs : List V} (h : Rps H vs ds) : ∀ n : Nat, Rps H (List.replicate n vs).flatten (List.replicate n ds).flatten
  | 0 => .nil
  | n + 1 => by
    rw [List.replicate_succ, List.replicate_succ, List.flatten_cons, List.flatten_cons]
    exact h.app (Rps.rep h n)
theorem Rps.rev {H : Hp} : ∀ {ds : List D} {vs : List V}, Rps H vs ds → Rps H vs.reverse ds.reverse
  | [], _, h => by cases h; exact .nil
  | d :: ds, _, h => by
    cases h with
    | cons h1 h2 =>
      rw [List.reverse_cons, List.reverse_cons]
      exact (Rps.rev h2).app (.cons h1 .nil)

/-- a slot's value: m tells where each cell stands, F is the part of the heap that never changes -/
def RpS (m : List Addr) (F : Hp) (v : V) : Sl → Prop
  | .d x => Rp F v x
  | .c i => ∃ a, m[i]? = some a ∧ v = .ref a
  | .x a => v = .ref a
inductive RpSs (m : List Addr) (F : Hp) : List V → List Sl → Prop
  | nil : RpSs m F [] []
  | cons {v : V} {vs : List V} {w : Sl} {ws : List Sl} : RpS m F v w → RpSs m F vs ws → RpSs m F (v :: vs) (w :: ws)
/-- a cell's content -/
def CelAt (F H : Hp) (a : Addr) : Cel → Prop
  | .on xs => F a = none ∧ ∃ vs, H a = some (.lst vs) ∧ Rps F vs xs
  | .off xs => ∃ vs, F a = some (.lst vs) ∧ Rps F vs xs
structure SR (m : List Addr) (F H : Hp) (S : Sto) : Prop where
  ex : Ex F H
  nd : m.Nodup
  len : m.length = S.length
  cel : ∀ (i : Nat) (a : Addr) (c : Cel), m[i]? = some a → S[i]? = some c → CelAt F H a c
/-- what stood stays, but for the cells -/
abbrev Kp (m : List Addr) (H H' : Hp) : Prop := ∀ b o, H b = some o → b ∉ m → H' b = some o
/-- F grows by what is new, and by cells that go off -/
structure Gr (m : List Addr) (F H F' : Hp) : Prop where
  ex : Ex F F'
  new : ∀ b o, F' b = some o → F b = some o ∨ H b = none ∨ b ∈ m
structure Stp (m : List Addr) (F H : Hp) (m' : List Addr) (F' H' : Hp) (S' : Sto) : Prop where
  gr : Gr m F H F'
  kp : Kp m H H'
  sr : SR m' F' H' S'
  more : ∃ l, m' = m ++ l ∧ ∀ a ∈ l, H a = none
def RpR (m : List Addr) (F' H H' : Hp) (v : V) : Rs → Prop
  | .w x => RpS m F' v x
  | .fr xs => ∃ p vs, v = .ref p ∧ H p = none ∧ F' p = none ∧ p ∉ m ∧ H' p = some (.lst vs) ∧ Rps F' vs xs
/-- the slots -/
structure EnR (m : List Addr) (F : Hp) (σ : L2.St) (ρ : En) : Prop where
  len : σ.length = ρ.length
  get : ∀ (i : Nat) (w : Sl), ρ[i]? = some (some w) → ∃ v, σ[i]? = some (some v) ∧ RpS m F v w
end DL

set_option Elab.async false
set_option linter.all false
set_option maxRecDepth 100000
set_option maxHeartbeats 4000000
namespace DL
open PySem L2

/-! ### steps -/
theorem RpS.mono {m : List Addr} {F F' : Hp} {v : V} {w : Sl} (e : Ex F F') (h : RpS m F v w) : RpS m F' v w := by
  cases w with
  | d x => exact Rp.mono e x v h
  | c i => exact h
  | x a => exact h
theorem RpS.more {m l : List Addr} {F : Hp} {v : V} {w : Sl} (h : RpS m F v w) : RpS (m ++ l) F v w := by
  cases w with
  | d x => exact h
  | c i =>
    obtain ⟨a, e, r⟩ := h
    refine ⟨a, ?_, r⟩
    rw [List.getElem?_append_left (List.getElem?_eq_some_iff.mp e).1]
    exact e
  | x a => exact h
theorem RpSs.mono {m : List Addr} {F F' : Hp} (e : Ex F F') : ∀ {ws : List Sl} {vs : List V}, RpSs m F vs ws → RpSs m F' vs ws
  | [], _, h => by cases h; exact .nil
  | w :: ws, _, h => by
    cases h with
    | cons h1 h2 => exact .cons (h1.mono e) (RpSs.mono e h2)
theorem RpSs.length {m : List Addr} {F : Hp} : ∀ {ws : List Sl} {vs : List V}, RpSs m F vs ws → vs.length = ws.length
  | [], _, h => by cases h; rfl
  | w :: ws, _, h => by
    cases h with
    | cons h1 h2 => simp [RpSs.length h2]
theorem RpSs.get {m : List Addr} {F : Hp} : ∀ {ws : List Sl} {vs : List V} {i : Nat} {w : Sl}, RpSs m F vs ws → ws[i]? = some w → ∃ v, vs[i]? = some v ∧ RpS m F v w
  | [], _, _, _, h, e => by simp at e
  | w :: ws, _, 0, _, h, e => by
    cases h with
    | cons h1 h2 =>
      simp at e; subst e
      exact ⟨_, rfl, h1⟩
  | w :: ws, _, i + 1, _, h, e => by
    cases h with
    | cons h1 h2 =>
      obtain ⟨v, q, r⟩ := RpSs.get h2 (i := i) (by simpa using e)
      exact ⟨v, by simpa using q, r⟩
theorem SR.dom {m : List Addr} {F H : Hp} {S : Sto} (s : SR m F H S) {a : Addr} (ha : a ∈ m) : ∃ vs, H a = some (.lst vs) := by
  obtain ⟨i, hi, e⟩ := List.mem_iff_getElem.mp ha
  have hs : i < S.length := by rw [← s.len]; exact hi
  have q := s.cel i a S[i] (by rw [List.getElem?_eq_getElem hi, e]) (List.getElem?_eq_getElem hs)
  generalize hc : S[i] = c at q
  cases c with
  | on xs => exact ⟨q.2.choose, q.2.choose_spec.1⟩
  | off xs => obtain ⟨vs, q1, _⟩ := q; exact ⟨vs, s.ex _ _ q1⟩
theorem SR.out {m : List Addr} {F H : Hp} {S : Sto} (s : SR m F H S) {p : Addr} (h : H p = none) : p ∉ m := fun z => by
  obtain ⟨vs, q⟩ := s.dom z
  rw [h] at q; cases q
theorem Stp.refl {m : List Addr} {F H : Hp} {S : Sto} (s : SR m F H S) : Stp m F H m F H S :=
  ⟨⟨Ex.rfl', fun _ _ h => .inl h⟩, fun _ _ h _ => h, s, [], by simp, by simp⟩
theorem Stp.back {m m' : List Addr} {F H F' H' : Hp} {S S' : Sto} (s : SR m F H S) (t : Stp m F H m' F' H' S') {p : Addr} (h : H' p = none) : H p = none := by
  cases q : H p with
  | none => rfl
  | some o =>
    by_cases hm : p ∈ m
    · obtain ⟨l, e, _⟩ := t.more
      obtain ⟨vs, z⟩ := t.sr.dom (a := p) (by rw [e]; exact List.mem_append_left _ hm)
      rw [h] at z; cases z
    · have := t.kp p o q hm
      rw [h] at this; cases this
theorem Stp.tr {m m1 m2 : List Addr} {F H F1 H1 F2 H2 : Hp} {S S1 S2 : Sto} (s : SR m F H S) (t : Stp m F H m1 F1 H1 S1) (u : Stp m1 F1 H1 m2 F2 H2 S2) : Stp m F H m2 F2 H2 S2 := by
  obtain ⟨l, e1, n1⟩ := t.more
  obtain ⟨l2, e2, n2⟩ := u.more
  refine ⟨⟨t.gr.ex.tr u.gr.ex, fun b o h => ?_⟩, fun b o h hb => ?_, u.sr, l ++ l2, by rw [e2, e1, List.append_assoc], fun a ha => ?_⟩
  · rcases u.gr.new b o h with h | h | h
    · exact t.gr.new b o h
    · exact .inr (.inl (t.back s h))
    · rw [e1] at h
      rcases List.mem_append.mp h with h | h
      · exact .inr (.inr h)
      · exact .inr (.inl (n1 b h))
  · refine u.kp b o (t.kp b o h hb) ?_
    rw [e1]
    intro z
    rcases List.mem_append.mp z with z | z
    · exact hb z
    · rw [n1 b z] at h; cases h
  · rcases List.mem_append.mp ha with ha | ha
    · exact n1 a ha
    · exact t.back s (n2 a ha)
theorem RpR.back {m m1 m2 : List Addr} {F H F1 H1 F2 H2 : Hp} {S S1 : Sto} {v : V} {r : Rs} (s : SR m F H S) (t : Stp m F H m1 F1 H1 S1) (h : RpR m2 F2 H1 H2 v r) : RpR m2 F2 H H2 v r := by
  cases r with
  | w x => exact h
  | fr xs =>
    obtain ⟨p, vs, e, h1, h2, h3, h4⟩ := h
    exact ⟨p, vs, e, t.back s h1, h2, h3, h4⟩
/-- a new list goes to the part that never changes -/
theorem Stp.frz {m m' : List Addr} {F H F' H' : Hp} {S' : Sto} {v : V} {r : Rs} (t : Stp m F H m' F' H' S') (h : RpR m' F' H H' v r) :
    ∃ F'', Stp m F H m' F'' H' S' ∧ RpS m' F'' v (frz r) := by
  cases r with
  | w x => exact ⟨F', t, h⟩
  | fr xs =>
    obtain ⟨p, vs, e, h1, h2, h3, h4, h5⟩ := h
    have ex : Ex F' (upd F' p (.lst vs)) := fun b o q => by
      rw [upd_ne (fun z => by rw [z, h2] at q; cases q)]; exact q
    refine ⟨upd F' p (.lst vs), ⟨⟨t.gr.ex.tr ex, fun b o q => ?_⟩, t.kp, ⟨fun b o q => ?_, t.sr.nd, t.sr.len, fun i a c ha hc => ?_⟩, t.more⟩, ?_⟩
    · by_cases hb : b = p
      · subst hb; exact .inr (.inl h1)
      · rw [upd_ne hb] at q; exact t.gr.new b o q
    · by_cases hb : b = p
      · subst hb; rw [upd_same] at q; cases q; exact h4
      · rw [upd_ne hb] at q; exact t.sr.ex b o q
    · have hap : a ≠ p := fun z => h3 (by rw [← z]; exact List.mem_of_getElem? ha)
      have q := t.sr.cel i a c ha hc
      cases c with
      | on xs' =>
        obtain ⟨q1, us, q2, q3⟩ := q
        exact ⟨by rw [upd_ne hap]; exact q1, us, q2, Rps.mono ex _ _ q3⟩
      | off xs' =>
        obtain ⟨us, q2, q3⟩ := q
        exact ⟨us, by rw [upd_ne hap]; exact q2, Rps.mono ex _ _ q3⟩
    · rw [e]
      exact .lst upd_same (Rps.mono ex _ _ h5)
theorem EnR.mono {m : List Addr} {F F' : Hp} {σ : L2.St} {ρ : En} (e : Ex F F') (h : EnR m F σ ρ) : EnR m F' σ ρ :=
  ⟨h.len, fun i w q => let ⟨v, a, b⟩ := h.get i w q; ⟨v, a, b.mono e⟩⟩
theorem EnR.more {m l : List Addr} {F : Hp} {σ : L2.St} {ρ : En} (h : EnR m F σ ρ) : EnR (m ++ l) F σ ρ :=
  ⟨h.len, fun i w q => let ⟨v, a, b⟩ := h.get i w q; ⟨v, a, b.more⟩⟩
theorem EnR.stp {m m' : List Addr} {F H F' H' : Hp} {S' : Sto} {σ : L2.St} {ρ : En} (h : EnR m F σ ρ) (t : Stp m F H m' F' H' S') : EnR m' F' σ ρ := by
  obtain ⟨l, e, _⟩ := t.more
  rw [e]
  exact (h.mono t.gr.ex).more
theorem EnR.set {m : List Addr} {F : Hp} {σ : L2.St} {ρ : En} {v : V} {w : Sl} (i : Nat) (h : EnR m F σ ρ) (hv : RpS m F v w) : EnR m F (σ.set i (some v)) (ρ.set i (some w)) := by
  refine ⟨by rw [List.length_set, List.length_set]; exact h.len, fun j u q => ?_⟩
  by_cases hj : i = j
  · subst hj
    have hl : i < ρ.length := by
      have := (List.getElem?_eq_some_iff.mp q).1
      rwa [List.length_set] at this
    rw [List.getElem?_set_self hl] at q
    cases q
    exact ⟨v, List.getElem?_set_self (by rw [h.len]; exact hl), hv⟩
  · rw [List.getElem?_set_ne hj] at q
    obtain ⟨v', a, b⟩ := h.get j u q
    exact ⟨v', by rw [List.getElem?_set_ne hj]; exact a, b⟩
theorem EnR.wipe1 {m : List Addr} {F : Hp} {σ : L2.St} {ρ : En} (i : Nat) (h : EnR m F σ ρ) : EnR m F (σ.set i none) (ρ.set i none) := by
  refine ⟨by rw [List.length_set, List.length_set]; exact h.len, fun j u q => ?_⟩
  by_cases hj : i = j
  · subst hj
    have hl : i < ρ.length := by
      have := (List.getElem?_eq_some_iff.mp q).1
      rwa [List.length_set] at this
    rw [List.getElem?_set_self hl] at q
    cases q
  · rw [List.getElem?_set_ne hj] at q
    obtain ⟨v', a, b⟩ := h.get j u q
    exact ⟨v', by rw [List.getElem?_set_ne hj]; exact a, b⟩
/-- the slot is forgotten in the data alone -/
theorem EnR.forget {m : List Addr} {F : Hp} {σ : L2.St} {ρ : En} {v : Option V} (i : Nat) (h : EnR m F σ ρ) : EnR m F (σ.set i v) (ρ.set i none) := by
  refine ⟨by rw [List.length_set, List.length_set]; exact h.len, fun j u q => ?_⟩
  by_cases hj : i = j
  · subst hj
    have hl : i < ρ.length := by
      have := (List.getElem?_eq_some_iff.mp q).1
      rwa [List.length_set] at this
    rw [List.getElem?_set_self hl] at q
    cases q
  · rw [List.getElem?_set_ne hj] at q
    obtain ⟨v', a, b⟩ := h.get j u q
    exact ⟨v', by rw [List.getElem?_set_ne hj]; exact a, b⟩

/-- what is read through a value stands in the heap as it is -/
theorem rd_rp {m : List Addr} {F H : Hp} {S : Sto} {v : V} {w : Sl} {d : D} (s : SR m F H S) (h : RpS m F v w) (e : rd S w = some d) : Rp H v d := by
  cases w with
  | d x =>
    have e : some x = some d := e
    cases e
    exact Rp.mono s.ex _ _ h
  | c i =>
    obtain ⟨a, ha, rfl⟩ := h
    cases hS : S[i]? with
    | none => simp [rd, hS] at e
    | some c =>
      have e : some (PyData.list c.xs) = some d := by simpa [rd, hS] using e
      cases e
      have q := s.cel i a c ha hS
      cases c with
      | on xs =>
        obtain ⟨_, vs, q1, q2⟩ := q
        exact .lst q1 (Rps.mono s.ex _ _ q2)
      | off xs =>
        obtain ⟨vs, q1, q2⟩ := q
        exact .lst (s.ex _ _ q1) (Rps.mono s.ex _ _ q2)
  | x a => cases e
theorem rd_lst {m : List Addr} {F H : Hp} {S : Sto} {v : V} {w : Sl} {ds : List D} (s : SR m F H S) (h : RpS m F v w) (e : rd S w = some (.list ds)) : ∃ a vs, v = .ref a ∧ H a = some (.lst vs) ∧ Rps F vs ds := by
  cases w with
  | d x =>
    have e : some x = some (PyData.list ds) := e
    cases e
    cases h with
    | lst ha hs => exact ⟨_, _, rfl, s.ex _ _ ha, hs⟩
  | c i =>
    obtain ⟨a, ha, rfl⟩ := h
    cases hS : S[i]? with
    | none => simp [rd, hS] at e
    | some c =>
      have e : some (PyData.list c.xs) = some (PyData.list ds) := by simpa [rd, hS] using e
      cases e
      have q := s.cel i a c ha hS
      cases c with
      | on xs =>
        obtain ⟨_, vs, q1, q2⟩ := q
        exact ⟨a, vs, rfl, q1, q2⟩
      | off xs =>
        obtain ⟨vs, q1, q2⟩ := q
        exact ⟨a, vs, rfl, s.ex _ _ q1, q2⟩
  | x a => cases e
theorem rd_tup {m : List Addr} {F H : Hp} {S : Sto} {v : V} {w : Sl} {ds : List D} (s : SR m F H S) (h : RpS m F v w) (e : rd S w = some (.tuple ds)) : ∃ a vs, v = .ref a ∧ F a = some (.tup vs) ∧ H a = some (.tup vs) ∧ Rps F vs ds := by
  cases w with
  | d x =>
    have e : some x = some (PyData.tuple ds) := e
    cases e
    cases h with
    | tup ha hs => exact ⟨_, _, rfl, ha, s.ex _ _ ha, hs⟩
  | c i => simp [rd] at e
  | x a => cases e

/-! ### the readings -/
/-- an expression that gives f's result -/
def tD (f : ED) : TE := fun σ H Q => ∃ ρ S m F r S', f ρ S = some (r, S') ∧ EnR m F σ ρ ∧ SR m F H S ∧ ∀ v F' H', Stp m F H m F' H' S' → RpR m F' H H' v r → Q v H'
def tB (f : BD) : TT := fun σ H Q => ∃ ρ S m F b S', f ρ S = some (b, S') ∧ EnR m F σ ρ ∧ SR m F H S ∧ ∀ F' H', Stp m F H m F' H' S' → Q b H'
def tA (f : AD) : TA := fun σ H Q => ∃ ρ S m F ws S', f ρ S = some (ws, S') ∧ EnR m F σ ρ ∧ SR m F H S ∧ ∀ vs F' H', Stp m F H m F' H' S' → RpSs m F' vs ws → Q vs H'
abbrev PEd (X : Cx) (e : Expr) (f : ED) : Prop := PE X e (tD f)
abbrev PTd (X : Cx) (e : Expr) (f : BD) : Prop := PT X e (tB f)
abbrev PAd (X : Cx) (es : List Expr) (f : AD) : Prop := PA X es (tA f)
theorem PE.of {X : Cx} {e : Expr} {t u : TE} (h : PE X e t) (k : ∀ σ H Q, u σ H Q → t σ H Q) : PE X e u := ⟨fun pins s σ H Q I q => h.run pins s σ H Q I (k σ H Q q)⟩
theorem PT.of {X : Cx} {e : Expr} {t u : TT} (h : PT X e t) (k : ∀ σ H Q, u σ H Q → t σ H Q) : PT X e u := ⟨fun pins s σ H Q I q => h.run pins s σ H Q I (k σ H Q q)⟩
theorem PW.of {X : Cx} {e : Expr} {t u : TT} (h : PW X e t) (k : ∀ σ H Q, u σ H Q → t σ H Q) : PW X e u := ⟨fun wh pins s σ H Q I q => h.run wh pins s σ H Q I (k σ H Q q)⟩
theorem PA.of {X : Cx} {es : List Expr} {t u : TA} (h : PA X es t) (k : ∀ σ H Q, u σ H Q → t σ H Q) : PA X es u := ⟨fun pos pins s σ H Q I q => h.run pos pins s σ H Q I (k σ H Q q)⟩
theorem PS.of {X : Cx} {st : Stmt} {t u : TS} (h : PS X st t) (k : ∀ D σ H, u D σ H → t D σ H) : PS X st u := ⟨fun pins s σ H D I q => h.run pins s σ H D I (k D σ H q)⟩
theorem PSs.of {X : Cx} {st : List Stmt} {t u : TS} (h : PSs X st t) (k : ∀ D σ H, u D σ H → t D σ H) : PSs X st u := ⟨fun pins s σ H D I q => h.run pins s σ H D I (k D σ H q)⟩

/-- an operation on one value, two values, values -/
abbrev K1 := Sl → Sto → Option (Rs × Sto)
abbrev K2 := Sl → Sl → Sto → Option (Rs × Sto)
abbrev KN := List Sl → Sto → Option (Rs × Sto)
def Fin (m : List Addr) (F H : Hp) (r : Rs) (S' : Sto) (Q : VK) : Prop := ∀ v F' H', Stp m F H m F' H' S' → RpR m F' H H' v r → Q v H'
def Ok1 (k : K1) (r : V → Hp → VK → Prop) : Prop := ∀ m F H S w v res S' (Q : VK), SR m F H S → RpS m F v w → k w S = some (res, S') → Fin m F H res S' Q → r v H Q
def Ok2 (k : K2) (r : R2) : Prop := ∀ m F H S w1 w2 v1 v2 res S' (Q : VK), SR m F H S → RpS m F v1 w1 → RpS m F v2 w2 → k w1 w2 S = some (res, S') → Fin m F H res S' Q → r v1 v2 H Q
def OkN (k : KN) (r : List V → Hp → VK → Prop) : Prop := ∀ m F H S ws vs res S' (Q : VK), SR m F H S → RpSs m F vs ws → k ws S = some (res, S') → Fin m F H res S' Q → r vs H Q
def e1 (k : K1) (f : ED) : ED := fun ρ S => (f ρ S).bind fun x => k (frz x.1) x.2
def e2 (k : K2) (f g : ED) : ED := fun ρ S => (f ρ S).bind fun x => (g ρ x.2).bind fun y => k (frz x.1) (frz y.1) y.2
def eN (k : KN) (f : AD) : ED := fun ρ S => (f ρ S).bind fun x => k x.1 x.2
/-- the end of a composed reading -/
theorem Fin.tr {m : List Addr} {F H F1 H1 : Hp} {S S1 S2 : Sto} {r : Rs} {Q : VK} (s : SR m F H S) (t : Stp m F H m F1 H1 S1) (q : Fin m F H r S2 Q) : Fin m F1 H1 r S2 Q := fun v F' H' u h =>
  q v F' H' (t.tr s u) (h.back s t)
theorem tD_frz {f : ED} {σ : L2.St} {H : Hp} {Q : VK} {ρ : En} {S : Sto} {m : List Addr} {F : Hp} {r : Rs} {S' : Sto} (e : f ρ S = some (r, S')) (en : EnR m F σ ρ) (s : SR m F H S)
    (k : ∀ v F' H', Stp m F H m F' H' S' → RpS m F' v (frz r) → Q v H') : tD f σ H Q :=
  ⟨ρ, S, m, F, r, S', e, en, s, fun v F' H' t h => let ⟨F'', t', h'⟩ := t.frz h; k v F'' H' t' h'⟩
theorem t1_of {k : K1} {r : V → Hp → VK → Prop} (ok : Ok1 k r) {f : ED} {σ : L2.St} {H : Hp} {Q : VK} (h : tD (e1 k f) σ H Q) : tUn r (tD f) σ H Q := by
  obtain ⟨ρ, S, m, F, res, S', e, en, s, q⟩ := h
  obtain ⟨⟨x, S1⟩, e1, e2⟩ := Option.bind_eq_some_iff.mp e
  exact tD_frz e1 en s fun v F1 H1 t1 h1 => ok m F1 H1 S1 _ v res S' Q t1.sr h1 e2 (Fin.tr s t1 q)
theorem t2_of {k : K2} {r : R2} (ok : Ok2 k r) {f g : ED} {σ : L2.St} {H : Hp} {Q : VK} (h : tD (e2 k f g) σ H Q) : tOp r (tD f) (tD g) σ H Q := by
  obtain ⟨ρ, S, m, F, res, S', e, en, s, q⟩ := h
  obtain ⟨⟨x, S1⟩, e1, e⟩ := Option.bind_eq_some_iff.mp e
  obtain ⟨⟨y, S2⟩, e2, e3⟩ := Option.bind_eq_some_iff.mp e
  refine tD_frz e1 en s fun v F1 H1 t1 h1 => ?_
  refine tD_frz e2 (en.stp t1) t1.sr fun u F2 H2 t2 h2 => ?_
  exact ok m F2 H2 S2 _ _ v u res S' Q t2.sr (h1.mono t2.gr.ex) h2 e3 (Fin.tr s (t1.tr s t2) q)
theorem tN_of {k : KN} {r : List V → Hp → VK → Prop} (ok : OkN k r) {f : AD} {σ : L2.St} {H : Hp} {Q : VK} (h : tD (eN k f) σ H Q) : tCB r (tA f) σ H Q := by
  obtain ⟨ρ, S, m, F, res, S', e, en, s, q⟩ := h
  obtain ⟨⟨x, S1⟩, e1, e2⟩ := Option.bind_eq_some_iff.mp e
  exact ⟨ρ, S, m, F, x, S1, e1, en, s, fun vs F1 H1 t1 h1 => ok m F1 H1 S1 _ vs res S' Q t1.sr h1 e2 (Fin.tr s t1 q)⟩

/-! ### names, constants, arguments -/
variable {X : Cx}
def eVar (i : Nat) : ED := fun ρ S => (ρ.getD i none).map fun w => (.w w, S)
def eC (x : D) : ED := fun _ S => some (.w (.d x), S)
theorem ped_var (i : Nat) {x : Str} {pos : Pos} (h : PE X (.Name x pos) (tVar i)) : PEd X (.Name x pos) (eVar i) := PE.of h fun σ H Q h => by
  obtain ⟨ρ, S, m, F, r, S', e, en, s, q⟩ := h
  unfold eVar at e
  cases hw : ρ.getD i none with
  | none => rw [hw] at e; cases e
  | some w =>
    rw [hw] at e
    have e : some (Rs.w w, S) = some (r, S') := e
    cases e
    have hw' : ρ[i]? = some (some w) := by
      rw [List.getD_eq_getElem?_getD] at hw
      cases hi : ρ[i]? with
      | none => rw [hi] at hw; cases hw
      | some z => rw [hi] at hw; have hw : z = some w := hw; rw [hw]
    obtain ⟨v, hv, rv⟩ := en.get i w hw'
    exact ⟨v, hv, q v F H (Stp.refl s) rv⟩
theorem ped_const {e : Expr} {v : V} {d : D} (h : PE X e (tC v)) (r : ∀ F, Rp F v d) : PEd X e (eC d) := PE.of h fun σ H Q h => by
  obtain ⟨ρ, S, m, F, r', S', e, en, s, q⟩ := h
  have e : some (Rs.w (Sl.d d), S) = some (r', S') := e
  cases e
  exact q v F H (Stp.refl s) (r F)
theorem ped_int {i j pos} : PEd X (.Constant (.int i) j pos) (eC (.int i)) := ped_const pe_int fun _ => .int i
theorem ped_bl {b j pos} : PEd X (.Constant (.bool b) j pos) (eC (.bool b)) := ped_const pe_bl fun _ => .bl b
theorem ped_non {j pos} : PEd X (.Constant .none j pos) (eC .none) := ped_const pe_non fun _ => .non
theorem ped_str {x j pos} : PEd X (.Constant (.str x) j pos) (eC (.str x)) := ped_const pe_str fun _ => .str x
def aNil : AD := fun _ S => some ([], S)
def aCons (f : ED) (g : AD) : AD := fun ρ S => (f ρ S).bind fun x => (g ρ x.2).bind fun y => some (frz x.1 :: y.1, y.2)
theorem pad_nil : PAd X [] aNil := PA.of pa_nil fun σ H Q h => by
  obtain ⟨ρ, S, m, F, r, S', e, en, s, q⟩ := h
  have e : some (([] : List Sl), S) = some (r, S') := e
  cases e
  exact q [] F H (Stp.refl s) .nil
theorem pad_cons {e : Expr} {es : List Expr} {f : ED} {g : AD} (ha : PEd X e f) (hr : PAd X es g) (hs : starEach (e :: es) X.env = (false, eval e X.env) :: starEach es X.env := by rfl) : PAd X (e :: es) (aCons f g) := PA.of (pa_cons ha hr hs) fun σ H Q h => by
  obtain ⟨ρ, S, m, F, r, S', e, en, s, q⟩ := h
  obtain ⟨⟨x, S1⟩, e1, e⟩ := Option.bind_eq_some_iff.mp e
  obtain ⟨⟨y, S2⟩, e2, e3⟩ := Option.bind_eq_some_iff.mp e
  have e3 : some (frz x :: y, S2) = some (r, S') := e3
  cases e3
  refine tD_frz e1 en s fun v F1 H1 t1 h1 => ?_
  refine ⟨ρ, S1, m, F1, y, _, e2, en.stp t1, t1.sr, fun vs F2 H2 t2 h2 => ?_⟩
  exact q (v :: vs) F2 H2 (t1.tr s t2) (.cons (h1.mono t2.gr.ex) h2)
/-- data that are no cell -/
def dat : Sl → Option D
  | .d x => some x
  | .c _ => none
  | .x _ => none
end DL

set_option Elab.async false
set_option linter.all false
set_option maxRecDepth 100000
set_option maxHeartbeats 4000000
namespace DL
open PySem L2
variable {X : Cx}

/-! ### operations whose result is no object -/
def k1D (op : D → Option D) : K1 := fun x S => (rd S x).bind fun a => (op a).bind fun z => some (.w (.d z), S)
def k2D (op : D → D → Option D) : K2 := fun x y S => (rd S x).bind fun a => (rd S y).bind fun b => (op a b).bind fun z => some (.w (.d z), S)
theorem ok1_flat {op : D → Option D} {r : V → Hp → VK → Prop} (h : ∀ H v a z, Rp H v a → op a = some z → ∃ u, (∀ F, Rp F u z) ∧ ∀ Q : VK, Q u H → r v H Q) : Ok1 (k1D op) r := by
  intro m F H S w v res S' Q s hv e q
  obtain ⟨a, e1, e⟩ := Option.bind_eq_some_iff.mp e
  obtain ⟨z, e2, e⟩ := Option.bind_eq_some_iff.mp e
  cases e
  obtain ⟨u, hu, k⟩ := h H v a z (rd_rp s hv e1) e2
  exact k Q (q u F H (Stp.refl s) (hu F))
theorem ok2_flat {op : D → D → Option D} {r : R2} (h : ∀ H v1 v2 a b z, Rp H v1 a → Rp H v2 b → op a b = some z → ∃ u, (∀ F, Rp F u z) ∧ ∀ Q : VK, Q u H → r v1 v2 H Q) : Ok2 (k2D op) r := by
  intro m F H S w1 w2 v1 v2 res S' Q s h1 h2 e q
  obtain ⟨a, e1, e⟩ := Option.bind_eq_some_iff.mp e
  obtain ⟨b, e2, e⟩ := Option.bind_eq_some_iff.mp e
  obtain ⟨z, e3, e⟩ := Option.bind_eq_some_iff.mp e
  cases e
  obtain ⟨u, hu, k⟩ := h H v1 v2 a b z (rd_rp s h1 e1) (rd_rp s h2 e2) e3
  exact k Q (q u F H (Stp.refl s) (hu F))
def oI (g : Int → Int → Int) : D → D → Option D
  | .int i, .int j => some (.int (g i j))
  | _, _ => none
def oIb (g : Int → Int → Bool) : D → D → Option D
  | .int i, .int j => some (.bool (g i j))
  | _, _ => none
def oIc (C : Int → Int → Bool) (g : Int → Int → Int) : D → D → Option D
  | .int i, .int j => if C i j then some (.int (g i j)) else none
  | _, _ => none
theorem ok_oI {g : Int → Int → Int} : Ok2 (k2D (oI g)) (rI0 fun i j => .int (g i j)) := ok2_flat fun H v1 v2 a b z h1 h2 e => by
  cases h1 <;> cases h2 <;> simp only [oI, reduceCtorEq] at e
  cases e
  exact ⟨_, fun F => .int _, fun Q q => ⟨_, _, rfl, rfl, q⟩⟩
theorem ok_oIb {g : Int → Int → Bool} : Ok2 (k2D (oIb g)) (rI0 fun i j => .bl (g i j)) := ok2_flat fun H v1 v2 a b z h1 h2 e => by
  cases h1 <;> cases h2 <;> simp only [oIb, reduceCtorEq] at e
  cases e
  exact ⟨_, fun F => .bl _, fun Q q => ⟨_, _, rfl, rfl, q⟩⟩
theorem ok_oIc {C : Int → Int → Bool} {P : Int → Int → Prop} {g : Int → Int → Int} (hC : ∀ i j, C i j = true → P i j) : Ok2 (k2D (oIc C g)) (rI P fun i j => .int (g i j)) := ok2_flat fun H v1 v2 a b z h1 h2 e => by
  cases h1 <;> cases h2 <;> simp only [oIc, reduceCtorEq] at e
  split at e
  · rename_i hc
    cases e
    exact ⟨_, fun F => .int _, fun Q q => ⟨_, _, rfl, rfl, hC _ _ hc, q⟩⟩
  · cases e
theorem Ok2.or1 {k k' : K2} {r r' : R2} (h : Ok2 k r) (h' : Ok2 k' r') : Ok2 (fun x y S => (k x y S).or (k' x y S)) (fun x y H Q => r x y H Q ∨ r' x y H Q) := by
  intro m F H S w1 w2 v1 v2 res S' Q s h1 h2 e q
  have e : (k w1 w2 S).or (k' w1 w2 S) = some (res, S') := e
  cases e1 : k w1 w2 S with
  | some z =>
    rw [e1] at e
    exact .inl (h m F H S w1 w2 v1 v2 res S' Q s h1 h2 (by rw [e1]; exact e) q)
  | none =>
    rw [e1] at e
    exact .inr (h' m F H S w1 w2 v1 v2 res S' Q s h1 h2 (by simpa using e) q)
/-! new objects -/
theorem fin_new {m : List Addr} {F H : Hp} {S : Sto} (s : SR m F H S) {xs : List V} {ds : List D} (h : Rps F xs ds) {p : Addr} (hp : H p = none) {Q : VK} (q : Fin m F H (.fr ds) S Q) : Q (.ref p) (upd H p (.lst xs)) := by
  have ex : Ex H (upd H p (.lst xs)) := fun b o e => by rw [upd_ne (ne_of_none e hp)]; exact e
  have fp : F p = none := by
    cases e : F p with
    | none => rfl
    | some o => rw [s.ex _ _ e] at hp; cases hp
  have pm : p ∉ m := s.out hp
  refine q (.ref p) F (upd H p (.lst xs)) ⟨⟨Ex.rfl', fun _ _ h => .inl h⟩, fun b o e _ => ex b o e, ⟨s.ex.tr ex, s.nd, s.len, fun i a c ha hc => ?_⟩, [], by simp, by simp⟩ ⟨p, xs, rfl, hp, fp, pm, upd_same, h⟩
  have g := s.cel i a c ha hc
  cases c with
  | on ys =>
    obtain ⟨g1, us, g2, g3⟩ := g
    exact ⟨g1, us, ex _ _ g2, g3⟩
  | off ys => exact g
theorem fin_tup {m : List Addr} {F H : Hp} {S : Sto} (s : SR m F H S) {xs : List V} {ds : List D} (h : Rps F xs ds) {p : Addr} (hp : H p = none) {Q : VK} (q : Fin m F H (.w (.d (.tuple ds))) S Q) : Q (.ref p) (upd H p (.tup xs)) := by
  have ex : Ex H (upd H p (.tup xs)) := fun b o e => by rw [upd_ne (ne_of_none e hp)]; exact e
  have fp : F p = none := by
    cases e : F p with
    | none => rfl
    | some o => rw [s.ex _ _ e] at hp; cases hp
  have exF : Ex F (upd F p (.tup xs)) := fun b o e => by rw [upd_ne (ne_of_none e fp)]; exact e
  have pm : p ∉ m := s.out hp
  refine q (.ref p) (upd F p (.tup xs)) (upd H p (.tup xs)) ⟨⟨exF, fun b o e => ?_⟩, fun b o e _ => ex b o e, ⟨fun b o e => ?_, s.nd, s.len, fun i a c ha hc => ?_⟩, [], by simp, by simp⟩ (.tup upd_same (Rps.mono exF _ _ h))
  · by_cases hb : b = p
    · subst hb; exact .inr (.inl hp)
    · rw [upd_ne hb] at e; exact .inl e
  · by_cases hb : b = p
    · subst hb; rw [upd_same] at e ⊢; exact e
    · rw [upd_ne hb] at e ⊢; exact s.ex _ _ e
  · have hap : a ≠ p := fun z => pm (by rw [← z]; exact List.mem_of_getElem? ha)
    have g := s.cel i a c ha hc
    cases c with
    | on ys =>
      obtain ⟨g1, us, g2, g3⟩ := g
      exact ⟨by rw [upd_ne hap]; exact g1, us, ex _ _ g2, Rps.mono exF _ _ g3⟩
    | off ys =>
      obtain ⟨us, g2, g3⟩ := g
      exact ⟨us, exF _ _ g2, Rps.mono exF _ _ g3⟩
theorem fin_same {m : List Addr} {F H : Hp} {S : Sto} (s : SR m F H S) {v : V} {w : Sl} (h : RpS m F v w) {Q : VK} (q : Fin m F H (.w w) S Q) : Q v H := q v F H (Stp.refl s) h

/-! ### + -/
def kCat : K2 := fun x y S => match rd S x, rd S y with
  | some (.list a), some (.list b) => if a.length + b.length ≤ sizeLine then some (.fr (a ++ b), S) else none
  | _, _ => none
theorem ok_cat : Ok2 kCat rCat := by
  intro m F H S w1 w2 v1 v2 res S' Q s h1 h2 e q
  unfold kCat at e
  split at e
  · rename_i a b ea eb
    split at e
    · rename_i hz
      cases e
      obtain ⟨l1, xs, rfl, g1, p1⟩ := rd_lst s h1 ea
      obtain ⟨l2, ys, rfl, g2, p2⟩ := rd_lst s h2 eb
      exact ⟨l1, l2, xs, ys, rfl, rfl, g1, g2, by rw [p1.length, p2.length]; exact hz, fun p hp => fin_new s (p1.app p2) hp q⟩
    · cases e
  · cases e
def kCatT : K2 := fun x y S => match rd S x, rd S y with
  | some (.tuple a), some (.tuple b) => if a.length + b.length ≤ sizeLine then some (.w (.d (.tuple (a ++ b))), S) else none
  | _, _ => none
theorem Rps.nil_iff {H : Hp} {vs : List V} {ds : List D} (h : Rps H vs ds) : vs = [] ↔ ds = [] := by
  cases h <;> simp
theorem ok_catT {K : PySem.W.Frag} : Ok2 kCatT (rCatA K) := by
  intro m F H S w1 w2 v1 v2 res S' Q s h1 h2 e q
  unfold kCatT at e
  split at e
  · rename_i a b ea eb
    split at e
    · rename_i hz
      cases e
      obtain ⟨l1, xs, rfl, f1, g1, p1⟩ := rd_tup s h1 ea
      obtain ⟨l2, ys, rfl, f2, g2, p2⟩ := rd_tup s h2 eb
      refine ⟨l1, l2, xs, ys, rfl, rfl, SqT.of g1, SqT.of g2, by rw [p1.length, p2.length]; exact hz, fun z => ?_, fun _ z => ?_, fun _ _ p hp => fin_tup s (p1.app p2) hp q⟩
      · obtain rfl := p1.nil_iff.mp z
        exact fin_same s (w := .d (.tuple ([] ++ b))) (.tup f2 p2) q
      · obtain rfl := p2.nil_iff.mp z
        refine fin_same s (w := .d (.tuple (a ++ []))) ?_ q
        rw [List.append_nil]
        exact .tup f1 p1
    · cases e
  · cases e
def oStr (g : Str → Str → Str) (C : Str → Str → Bool) : D → D → Option D
  | .str i, .str j => if C i j then some (.str (g i j)) else none
  | _, _ => none
theorem ok_addS : Ok2 (k2D (oStr (fun i j => i ++ j) fun i j => decide (i.length + j.length ≤ sizeLine))) (fun x y H Q => ∃ i j, x = .str i ∧ y = .str j ∧ i.length + j.length ≤ sizeLine ∧ Q (.str (i ++ j)) H) := ok2_flat fun H v1 v2 a b z h1 h2 e => by
  cases h1 <;> cases h2 <;> simp only [oStr, reduceCtorEq] at e
  split at e
  · rename_i hc
    cases e
    exact ⟨_, fun F => .str _, fun Q q => ⟨_, _, rfl, rfl, of_decide_eq_true hc, q⟩⟩
  · cases e
@[reducible] def kAdd : K2 := fun x y S => (k2D (oI fun i j => i + j) x y S).or (((kCat x y S).or ((kCatT x y S).or (k2D (oStr (fun i j => i ++ j) fun i j => decide (i.length + j.length ≤ sizeLine)) x y S))))
def eAdd (f g : ED) : ED := e2 kAdd f g
variable {a b c : Expr} {fa fb fc : ED} {pos : Pos}
theorem ped_op {op : Operator} {k : K2} {r : R2} (ho : OpR X (binaryOp op) r) (hk : Ok2 k r) (ha : PEd X a fa) (hb : PEd X b fb) : PEd X (.BinOp a op b pos) (e2 k fa fb) :=
  PE.of (pe_op ho ha hb) fun _ _ _ h => t2_of hk h
theorem ped_add (ha : PEd X a fa) (hb : PEd X b fb) : PEd X (.BinOp a .Add b pos) (eAdd fa fb) :=
  ped_op (OpR.or op_add (OpR.or op_cat (OpR.or op_catA op_add_str))) (ok_oI.or1 (ok_cat.or1 (ok_catT.or1 ok_addS))) ha hb
def eSub (f g : ED) : ED := e2 (k2D (oI fun i j => i - j)) f g
theorem ped_sub (ha : PEd X a fa) (hb : PEd X b fb) : PEd X (.BinOp a .Sub b pos) (eSub fa fb) := ped_op op_sub ok_oI ha hb
def cMul (i j : Int) : Bool := decide (i.natAbs.log2 + j.natAbs.log2 < 134217000)
theorem cMul_ok {i j : Int} (h : cMul i j = true) : IntMulOk i j := by
  have b : ∀ x : Int, Builtin.Int.intBits x ≤ x.natAbs.log2 + 1 := fun x => by
    unfold Builtin.Int.intBits
    split <;> omega
  have h1 := b i
  have h2 := b j
  have h3 : i.natAbs.log2 + j.natAbs.log2 < 134217000 := of_decide_eq_true h
  have e : bitsLine = 134217728 := by decide
  unfold IntMulOk
  intro z
  rw [Bool.and_eq_true] at z
  have z2 := z.2
  unfold Builtin.Int.intTooBig at z2
  have z3 := of_decide_eq_true z2
  rw [e] at z3
  omega
theorem op_mulX {X : Cx} : OpR X (binaryOp .Mult) (rI (fun i j => cMul i j = true) fun i j => .int (i * j)) := opI fun _ _ _ _ _ _ _ hc q => PyProof.Rows.mul_int q (cMul_ok hc)
def kRep : K2 := fun x y S => match rd S x, rd S y with
  | some (.list a), some (.int k) => if (-(2 ^ 63) ≤ k ∧ k < 2 ^ 63) ∧ a.length * k.toNat ≤ sizeLine then some (.fr (List.replicate k.toNat a).flatten, S) else none
  | _, _ => none
theorem ok_rep : Ok2 kRep rRep := by
  intro m F H S w1 w2 v1 v2 res S' Q s h1 h2 e q
  unfold kRep at e
  split at e
  · rename_i a k ea eb
    split at e
    · rename_i hz
      cases e
      obtain ⟨l1, xs, rfl, g1, p1⟩ := rd_lst s h1 ea
      have r2 := rd_rp s h2 eb
      cases r2
      exact ⟨l1, k, xs, rfl, rfl, g1, hz.1.1, hz.1.2, by rw [p1.length]; exact hz.2, fun p hp => fin_new s (p1.rep _) hp q⟩
    · cases e
  · cases e
@[reducible] def kMul : K2 := fun x y S => (k2D (oIc cMul fun i j => i * j) x y S).or (kRep x y S)
def eMul (f g : ED) : ED := e2 kMul f g
theorem ped_mul (ha : PEd X a fa) (hb : PEd X b fb) : PEd X (.BinOp a .Mult b pos) (eMul fa fb) :=
  ped_op (OpR.or op_mulX op_rep) ((ok_oIc (fun i j h => h)).or1 ok_rep) ha hb
def cDiv (_ j : Int) : Bool := decide (0 < j) && decide (j.natAbs.log2 < 9000)
def eDiv (f g : ED) : ED := e2 (k2D (oIc cDiv fun i j => i / j)) f g
theorem ped_div (ha : PEd X a fa) (hb : PEd X b fb) : PEd X (.BinOp a .FloorDiv b pos) (eDiv fa fb) :=
  ped_op op_fdivW (ok_oIc fun i j h => by
    simp only [cDiv, Bool.and_eq_true, decide_eq_true_eq] at h
    exact h) ha hb
def eMod (f g : ED) : ED := e2 (k2D (oIc (fun _ j => decide (0 < j)) fun i j => i % j)) f g
theorem ped_mod (ha : PEd X a fa) (hb : PEd X b fb) : PEd X (.BinOp a .Mod b pos) (eMod fa fb) := ped_op op_mod (ok_oIc fun i j h => of_decide_eq_true h) ha hb
def cPow (i j : Int) : Bool := decide (0 ≤ j) && decide (j ≤ 1000000) && decide (i.natAbs < 2 ^ 64)
def ePow (f g : ED) : ED := e2 (k2D (oIc cPow fun i j => i ^ j.toNat)) f g
theorem ped_pow (ha : PEd X a fa) (hb : PEd X b fb) : PEd X (.BinOp a .Pow b pos) (ePow fa fb) :=
  ped_op op_pow (ok_oIc fun i j h => by
    simp only [cPow, Bool.and_eq_true, decide_eq_true_eq] at h
    exact ⟨h.1.1, h.1.2, h.2⟩) ha hb
def oNeg : D → Option D
  | .int i => some (.int (-i))
  | _ => none
def eNeg (f : ED) : ED := e1 (k1D oNeg) f
theorem ped_neg (ha : PEd X a fa) : PEd X (.UnaryOp .USub a pos) (eNeg fa) := PE.of (pe_un un_neg ha) fun _ _ _ h => t1_of (ok1_flat fun H v a z h e => by
  cases h <;> simp only [oNeg, reduceCtorEq] at e
  cases e
  exact ⟨_, fun F => .int _, fun Q q => ⟨_, rfl, q⟩⟩) h

/-! ### comparisons -/
theorem ped_cmp {op : CmpOp} {k : K2} {r : R2} (ho : OpR X (compareOp op) r) (hk : Ok2 k r) (ha : PEd X a fa) (hb : PEd X b fb) (hm : behindInMarks op b = false) : PEd X (.Compare a [op] [b] pos) (e2 k fa fb) :=
  PE.of (pe_cmpR ho ha hb hm) fun _ _ _ h => t2_of hk h
@[reducible] def kLt : K2 := k2D (oIb fun i j => decide (i < j))
@[reducible] def kLe : K2 := k2D (oIb fun i j => decide (i ≤ j))
@[reducible] def kGt : K2 := k2D (oIb fun i j => decide (j < i))
@[reducible] def kGe : K2 := k2D (oIb fun i j => decide (j ≤ i))
def eLt (f g : ED) : ED := e2 kLt f g
def eLe (f g : ED) : ED := e2 kLe f g
def eGt (f g : ED) : ED := e2 kGt f g
def eGe (f g : ED) : ED := e2 kGe f g
theorem ped_lt (ha : PEd X a fa) (hb : PEd X b fb) : PEd X (.Compare a [.Lt] [b] pos) (eLt fa fb) := ped_cmp op_lt ok_oIb ha hb (nomark _)
theorem ped_le (ha : PEd X a fa) (hb : PEd X b fb) : PEd X (.Compare a [.LtE] [b] pos) (eLe fa fb) := ped_cmp op_le ok_oIb ha hb (nomark _)
theorem ped_gt (ha : PEd X a fa) (hb : PEd X b fb) : PEd X (.Compare a [.Gt] [b] pos) (eGt fa fb) := ped_cmp op_gt ok_oIb ha hb (nomark _)
theorem ped_ge (ha : PEd X a fa) (hb : PEd X b fb) : PEd X (.Compare a [.GtE] [b] pos) (eGe fa fb) := ped_cmp op_ge ok_oIb ha hb (nomark _)
def oEq (neg : Bool) : D → D → Option D := fun d e => if SeqAt.shaped d && SeqAt.shaped e then some (.bool (neg ^^ PyData.eqv d e)) else none
@[reducible] def kEq : K2 := k2D (oEq false)
@[reducible] def kNe : K2 := k2D (oEq true)
theorem ok_eq {K : PySem.W.Frag} : Ok2 kEq (rEqD K) := ok2_flat fun H v1 v2 a b z h1 h2 e => by
  unfold oEq at e
  split at e
  · rename_i hc
    cases e
    rw [Bool.and_eq_true] at hc
    exact ⟨.bl _, fun F => .bl _, fun Q q => ⟨a, b, Rp.dp _ _ h1, Rp.dp _ _ h2, hc.1, hc.2, by rw [Bool.false_xor] at q; exact q⟩⟩
  · cases e
theorem ok_ne {K : PySem.W.Frag} : Ok2 kNe (rNeD K) := ok2_flat fun H v1 v2 a b z h1 h2 e => by
  unfold oEq at e
  split at e
  · rename_i hc
    cases e
    rw [Bool.and_eq_true] at hc
    exact ⟨.bl _, fun F => .bl _, fun Q q => ⟨a, b, Rp.dp _ _ h1, Rp.dp _ _ h2, hc.1, hc.2, by rw [Bool.true_xor] at q; exact q⟩⟩
  · cases e
def eEq (f g : ED) : ED := e2 kEq f g
def eNe (f g : ED) : ED := e2 kNe f g
theorem ped_eq (hu : X.A.units + 64 < cLine) (ha : PEd X a fa) (hb : PEd X b fb) : PEd X (.Compare a [.Eq] [b] pos) (eEq fa fb) := ped_cmp (op_eqD hu) ok_eq ha hb (nomark _)
theorem ped_ne (hu : X.A.units + 64 < cLine) (ha : PEd X a fa) (hb : PEd X b fb) : PEd X (.Compare a [.NotEq] [b] pos) (eNe fa fb) := ped_cmp (op_neD hu) ok_ne ha hb (nomark _)
/-- is None -/
def isNon : D → Bool
  | .none => true
  | _ => false
def k1N (neg : Bool) : K1 := fun x S => match x with
  | .d a => some (.w (.d (.bool (neg ^^ isNon a))), S)
  | .c i => if i < S.length then some (.w (.d (.bool neg)), S) else none
  | .x _ => none
def eIsN (f : ED) : ED := e1 (k1N false) f
def eNotN (f : ED) : ED := e1 (k1N true) f
theorem ok_isN : Ok1 (k1N false) (fun x H Q => Q (.bl (decide (x = .non))) H) := by
  intro m F H S w v res S' Q s h e q
  cases w with
  | d a =>
    have e : some (Rs.w (.d (.bool (false ^^ isNon a))), S) = some (res, S') := e
    cases e
    have : decide (v = .non) = isNon a := by cases (show Rp F v a from h) <;> simp [isNon]
    show Q (.bl (decide (v = .non))) H
    rw [this]
    refine fin_same s (w := .d _) ?_ q
    rw [Bool.false_xor]
    exact .bl _
  | c i =>
    obtain ⟨p, hp, rfl⟩ := h
    unfold k1N at e
    simp only at e
    split at e
    · cases e
      exact fin_same s (w := .d _) (.bl _) q
    · cases e
  | x a => cases e
theorem ok_notN : Ok1 (k1N true) (fun x H Q => Q (.bl (!decide (x = .non))) H) := by
  intro m F H S w v res S' Q s h e q
  cases w with
  | d a =>
    have e : some (Rs.w (.d (.bool (true ^^ isNon a))), S) = some (res, S') := e
    cases e
    have : decide (v = .non) = isNon a := by cases (show Rp F v a from h) <;> simp [isNon]
    show Q (.bl (!decide (v = .non))) H
    rw [this]
    refine fin_same s (w := .d _) ?_ q
    rw [Bool.true_xor]
    exact .bl _
  | c i =>
    obtain ⟨p, hp, rfl⟩ := h
    unfold k1N at e
    simp only at e
    split at e
    · cases e
      exact fin_same s (w := .d _) (.bl _) q
    · cases e
  | x a => cases e
theorem ped_isN {j pos'} (ha : PEd X a fa) : PEd X (.Compare a [.Is] [.Constant .none j pos'] pos) (eIsN fa) := PE.of (pe_cmp (pc_isN ha) rfl) fun _ _ _ h => t1_of ok_isN h
theorem ped_notN {j pos'} (ha : PEd X a fa) : PEd X (.Compare a [.IsNot] [.Constant .none j pos'] pos) (eNotN fa) := PE.of (pe_cmp (pc_notN ha) rfl) fun _ _ _ h => t1_of ok_notN h

/-! ### in -/
def flatD : D → Bool
  | .none => true
  | .bool _ => true
  | .int _ => true
  | .str _ => true
  | _ => false
def itemsD : D → Option (List D)
  | .list xs => some xs
  | .tuple xs => some xs
  | _ => none
theorem flatV_of {H : Hp} {v : V} {d : D} (h : Rp H v d) : flatV v = flatD d := by cases h <;> rfl
theorem eqV_of {H : Hp} {v u : V} {d e : D} (h : Rp H v d) (g : Rp H u e) (fd : flatD d = true) (fe : flatD e = true) : eqV v u = PyData.eqv d e := by
  cases h <;> cases g <;> simp [flatD] at fd fe <;> simp [eqV, PyData.eqv]
theorem all_flat {H : Hp} : ∀ {ds : List D} {vs : List V}, Rps H vs ds → vs.all flatV = ds.all flatD
  | [], _, h => by cases h; rfl
  | d :: ds, _, h => by
    cases h with
    | cons h1 h2 => rw [List.all_cons, List.all_cons, flatV_of h1, all_flat h2]
theorem inV_of {H : Hp} {v : V} {d : D} (h : Rp H v d) (fd : flatD d = true) : ∀ {ds : List D} {vs : List V}, Rps H vs ds → ds.all flatD = true → inV v vs = ds.any fun z => PyData.eqv z d
  | [], _, h, _ => by cases h; rfl
  | e :: ds, _, g, f => by
    cases g with
    | cons g1 g2 =>
      rw [List.all_cons, Bool.and_eq_true] at f
      have ih := inV_of h fd g2 f.2
      unfold inV at ih ⊢
      rw [List.any_cons, List.any_cons, ih, eqV_of g1 h f.1 fd]
def oIn (neg : Bool) : D → D → Option D := fun x y => (itemsD y).bind fun ys => if flatD x && ys.all flatD then some (.bool (neg ^^ ys.any fun z => PyData.eqv z x)) else none
theorem ok_in {K : PySem.W.Frag} {neg : Bool} : Ok2 (k2D (oIn neg)) (rIn K neg) := ok2_flat fun H v1 v2 a b z h1 h2 e => by
  obtain ⟨ys, e1, e⟩ := Option.bind_eq_some_iff.mp e
  split at e
  · rename_i hc
    cases e
    rw [Bool.and_eq_true] at hc
    refine ⟨.bl _, fun F => .bl _, fun Q q => ?_⟩
    have fin : ∀ {vs : List V}, Rps H vs ys → (if neg then !inV v1 vs else inV v1 vs) = (neg ^^ ys.any fun z => PyData.eqv z a) := fun {vs} hr => by
      rw [inV_of h1 hc.1 hr hc.2]
      cases neg <;> simp
    cases h2 <;> simp only [itemsD, Option.some.injEq, reduceCtorEq] at e1
    · rename_i p xs ds hp hs
      subst e1
      exact ⟨p, xs, rfl, .inl (SqL.of hp), by rw [flatV_of h1]; exact hc.1, by rw [all_flat hs]; exact hc.2, by rw [fin hs]; exact q⟩
    · rename_i p xs ds hp hs
      subst e1
      exact ⟨p, xs, rfl, .inr (SqT.of hp), by rw [flatV_of h1]; exact hc.1, by rw [all_flat hs]; exact hc.2, by rw [fin hs]; exact q⟩
  · cases e
def oInD (neg : Bool) : D → D → Option D
  | x, .list ys => if SeqAt.shaped x && SeqAt.shaped (.list ys) then some (.bool (neg ^^ ys.any fun z => PyData.eqv z x)) else none
  | _, _ => none
theorem ok_inD {K : PySem.W.Frag} : Ok2 (k2D (oInD false)) (rInD K) := ok2_flat fun H v1 v2 a b z h1 h2 e => by
  unfold oInD at e
  split at e
  · split at e
    · rename_i ys hc
      cases e
      rw [Bool.and_eq_true] at hc
      exact ⟨.bl _, fun F => .bl _, fun Q q => ⟨a, ys, Rp.dp _ _ h1, Rp.dp _ _ h2, hc.1, hc.2, by rw [Bool.false_xor] at q; exact q⟩⟩
    · cases e
  · cases e
theorem ok_notInD {K : PySem.W.Frag} : Ok2 (k2D (oInD true)) (rNotInD K) := ok2_flat fun H v1 v2 a b z h1 h2 e => by
  unfold oInD at e
  split at e
  · split at e
    · rename_i ys hc
      cases e
      rw [Bool.and_eq_true] at hc
      exact ⟨.bl _, fun F => .bl _, fun Q q => ⟨a, ys, Rp.dp _ _ h1, Rp.dp _ _ h2, hc.1, hc.2, by rw [Bool.true_xor] at q; exact q⟩⟩
    · cases e
  · cases e
@[reducible] def kIn (neg : Bool) : K2 := fun x y S => (k2D (oIn neg) x y S).or (k2D (oInD neg) x y S)
def eIn (f g : ED) : ED := e2 (kIn false) f g
def eNotIn (f g : ED) : ED := e2 (kIn true) f g
theorem ped_in (hu : X.A.units + 65 < cLine) (ha : PEd X a fa) (hb : PEd X b fb) (hm : behindInMarks .In b = false) : PEd X (.Compare a [.In] [b] pos) (eIn fa fb) :=
  ped_cmp (OpR.or op_in_seq (op_inD hu)) (ok_in.or1 ok_inD) ha hb hm
theorem ped_notIn (hu : X.A.units + 65 < cLine) (ha : PEd X a fa) (hb : PEd X b fb) (hm : behindInMarks .NotIn b = false) : PEd X (.Compare a [.NotIn] [b] pos) (eNotIn fa fb) :=
  ped_cmp (OpR.or op_notIn_seq (op_notInD hu)) (ok_in.or1 ok_notInD) ha hb hm

/-! ### tests -/
def tsD : D → Option Bool
  | .bool b => some b
  | _ => none
def bE (f : ED) : BD := fun ρ S => (f ρ S).bind fun x => (rd x.2 (frz x.1)).bind fun a => (tsD a).bind fun b => some (b, x.2)
theorem bE_of {f : ED} {σ : L2.St} {H : Hp} {Q : Bool → Hp → Prop} (h : tB (bE f) σ H Q) : tD f σ H fun x H1 => ∃ c, x = .bl c ∧ Q c H1 := by
  obtain ⟨ρ, S, m, F, b, S', e, en, s, q⟩ := h
  obtain ⟨⟨x, S1⟩, e1, e⟩ := Option.bind_eq_some_iff.mp e
  obtain ⟨a, e2, e⟩ := Option.bind_eq_some_iff.mp e
  obtain ⟨c, e3, e⟩ := Option.bind_eq_some_iff.mp e
  cases e
  refine tD_frz e1 en s fun v F1 H1 t1 h1 => ?_
  have r := rd_rp t1.sr h1 e2
  cases r <;> simp only [tsD, reduceCtorEq, Option.some.injEq] at e3
  subst e3
  exact ⟨_, rfl, q F1 H1 t1⟩
/-- a test that is a value: whether it is true, of bools -/
theorem ptd_val {e : Expr} {f : ED} (h : PEd X e f) (he : ∀ whole, isTrue e X.env whole = (do let v ← whole; standAt e.pos; holding [v] (truthy v)) := by intro _; rfl) : PTd X e (bE f) := PT.of (pt_val h he) fun σ H Q h => bE_of h
theorem ptd_cmp {op : CmpOp} {k : K2} {r : R2} (ho : OpR X (compareOp op) r) (hk : Ok2 k r) (ha : PEd X a fa) (hb : PEd X b fb) (hm : behindInMarks op b = false) : PTd X (.Compare a [op] [b] pos) (bE (e2 k fa fb)) :=
  PT.of (pt_cmpR ho ha hb hm) fun σ H Q h => by
    refine t2_of (r := r) (Q := fun x H' => ∃ k, x = .bl k ∧ Q k H') hk ?_
    exact bE_of h
theorem ptd_lt (ha : PEd X a fa) (hb : PEd X b fb) : PTd X (.Compare a [.Lt] [b] pos) (bE (eLt fa fb)) := ptd_cmp op_lt ok_oIb ha hb (nomark _)
theorem ptd_le (ha : PEd X a fa) (hb : PEd X b fb) : PTd X (.Compare a [.LtE] [b] pos) (bE (eLe fa fb)) := ptd_cmp op_le ok_oIb ha hb (nomark _)
theorem ptd_gt (ha : PEd X a fa) (hb : PEd X b fb) : PTd X (.Compare a [.Gt] [b] pos) (bE (eGt fa fb)) := ptd_cmp op_gt ok_oIb ha hb (nomark _)
theorem ptd_ge (ha : PEd X a fa) (hb : PEd X b fb) : PTd X (.Compare a [.GtE] [b] pos) (bE (eGe fa fb)) := ptd_cmp op_ge ok_oIb ha hb (nomark _)
theorem ptd_eq (hu : X.A.units + 64 < cLine) (ha : PEd X a fa) (hb : PEd X b fb) : PTd X (.Compare a [.Eq] [b] pos) (bE (eEq fa fb)) := ptd_cmp (op_eqD hu) ok_eq ha hb (nomark _)
theorem ptd_ne (hu : X.A.units + 64 < cLine) (ha : PEd X a fa) (hb : PEd X b fb) : PTd X (.Compare a [.NotEq] [b] pos) (bE (eNe fa fb)) := ptd_cmp (op_neD hu) ok_ne ha hb (nomark _)
theorem ptd_in (hu : X.A.units + 65 < cLine) (ha : PEd X a fa) (hb : PEd X b fb) (hm : behindInMarks .In b = false) : PTd X (.Compare a [.In] [b] pos) (bE (eIn fa fb)) :=
  ptd_cmp (OpR.or op_in_seq (op_inD hu)) (ok_in.or1 ok_inD) ha hb hm
theorem ptd_notIn (hu : X.A.units + 65 < cLine) (ha : PEd X a fa) (hb : PEd X b fb) (hm : behindInMarks .NotIn b = false) : PTd X (.Compare a [.NotIn] [b] pos) (bE (eNotIn fa fb)) :=
  ptd_cmp (OpR.or op_notIn_seq (op_notInD hu)) (ok_in.or1 ok_notInD) ha hb hm
theorem ptd_isN {j pos'} (ha : PEd X a fa) : PTd X (.Compare a [.Is] [.Constant .none j pos'] pos) (bE (eIsN fa)) := PT.of (pt_cmp (pc_isN ha) rfl) fun σ H Q h => by
  refine t1_of ok_isN (Q := fun x H1 => ∃ c, x = .bl c ∧ Q c H1) ?_
  exact bE_of h
theorem ptd_notN {j pos'} (ha : PEd X a fa) : PTd X (.Compare a [.IsNot] [.Constant .none j pos'] pos) (bE (eNotN fa)) := PT.of (pt_cmp (pc_notN ha) rfl) fun σ H Q h => by
  refine t1_of ok_notN (Q := fun x H1 => ∃ c, x = .bl c ∧ Q c H1) ?_
  exact bE_of h
/-- a op1 b op2 c -/
def eCh (k k' : K2) (f g h : ED) : ED := fun ρ S => (f ρ S).bind fun x => (g ρ x.2).bind fun y => (k (frz x.1) (frz y.1) y.2).bind fun z => (rd z.2 (frz z.1)).bind fun t => (tsD t).bind fun b =>
  if b then (h ρ z.2).bind fun u => k' (frz y.1) (frz u.1) u.2 else some (.w (.d (.bool false)), z.2)
theorem eCh_of {k k' : K2} {r r' : R2} (ok : Ok2 k r) (ok' : Ok2 k' r') {f g h : ED} {σ : L2.St} {H : Hp} {Q : VK} (hh : tD (eCh k k' f g h) σ H Q) : tChain r r' (tD f) (tD g) (tD h) σ H Q := by
  obtain ⟨ρ, S, m, F, res, S', e, en, s, q⟩ := hh
  obtain ⟨⟨x, S1⟩, e1, e⟩ := Option.bind_eq_some_iff.mp e
  obtain ⟨⟨y, S2⟩, e2, e⟩ := Option.bind_eq_some_iff.mp e
  obtain ⟨⟨z, S3⟩, e3, e⟩ := Option.bind_eq_some_iff.mp e
  obtain ⟨t, e4, e⟩ := Option.bind_eq_some_iff.mp e
  obtain ⟨b, e5, e⟩ := Option.bind_eq_some_iff.mp e
  refine tD_frz e1 en s fun v F1 H1 t1 h1 => ?_
  refine tD_frz e2 (en.stp t1) t1.sr fun u F2 H2 t2 h2 => ?_
  have t12 := t1.tr s t2
  refine ok m F2 H2 S2 _ _ v u z S3 _ t2.sr (h1.mono t2.gr.ex) h2 e3 fun vz F3' H3 t3' h3' => ?_
  obtain ⟨F3, t3, h3⟩ := t3'.frz h3'
  have r := rd_rp t3.sr h3 e4
  cases r <;> simp only [tsD, reduceCtorEq, Option.some.injEq] at e5
  subst e5
  refine ⟨_, rfl, ?_⟩
  have t13 := t12.tr s t3
  split
  · rename_i hb
    rw [if_pos hb] at e
    obtain ⟨⟨w, S4⟩, e6, e7⟩ := Option.bind_eq_some_iff.mp e
    refine tD_frz e6 (en.stp t13) t3.sr fun vw F4 H4 t4 h4 => ?_
    exact ok' m F4 H4 S4 _ _ u vw res S' Q t4.sr (h2.mono (t3.gr.ex.tr t4.gr.ex)) h4 e7 (Fin.tr s (t13.tr s t4) q)
  · rename_i hb
    rw [if_neg hb] at e
    cases e
    exact q _ F3 H3 t13 (.bl false)
theorem ped_chain {op op' : CmpOp} {k k' : K2} {r r' : R2} (ho : OpR X (compareOp op) r) (ho' : OpR X (compareOp op') r') (ok : Ok2 k r) (ok' : Ok2 k' r') (ha : PEd X a fa) (hb : PEd X b fb) (hc : PEd X c fc)
    (hm : lastMarks [op, op'] [b, c] = false := by with_unfolding_all rfl) : PEd X (.Compare a [op, op'] [b, c] pos) (eCh k k' fa fb fc) := PE.of (pe_chain ho ho' ha hb hc hm) fun _ _ _ h => eCh_of ok ok' h
theorem ptd_chain {op op' : CmpOp} {k k' : K2} {r r' : R2} (ho : OpR X (compareOp op) r) (ho' : OpR X (compareOp op') r') (ok : Ok2 k r) (ok' : Ok2 k' r') (ha : PEd X a fa) (hb : PEd X b fb) (hc : PEd X c fc)
    (hm : lastMarks [op, op'] [b, c] = false := by with_unfolding_all rfl) : PTd X (.Compare a [op, op'] [b, c] pos) (bE (eCh k k' fa fb fc)) := PT.of (pt_chain ho ho' ha hb hc hm) fun σ H Q h => by
  refine eCh_of (Q := fun x H' => ∃ k, x = .bl k ∧ Q k H') ok ok' ?_
  exact bE_of h
/-! and, or, not -/
def bAnd (f g : BD) : BD := fun ρ S => (f ρ S).bind fun x => if x.1 then g ρ x.2 else some (false, x.2)
def bOr (f g : BD) : BD := fun ρ S => (f ρ S).bind fun x => if x.1 then some (true, x.2) else g ρ x.2
def bNot (f : BD) : BD := fun ρ S => (f ρ S).bind fun x => some (!x.1, x.2)
variable {ta tb : BD} {rest : List Expr}
theorem bAnd_of {σ : L2.St} {H : Hp} {Q : Bool → Hp → Prop} (h : tB (bAnd ta tb) σ H Q) : tAnd (tB ta) (tB tb) σ H Q := by
  obtain ⟨ρ, S, m, F, b, S', e, en, s, q⟩ := h
  obtain ⟨⟨x, S1⟩, e1, e⟩ := Option.bind_eq_some_iff.mp e
  refine ⟨ρ, S, m, F, x, S1, e1, en, s, fun F1 H1 t1 => ?_⟩
  cases x with
  | true =>
    rw [if_pos rfl] at e ⊢
    exact ⟨ρ, S1, m, F1, b, S', e, en.stp t1, t1.sr, fun F2 H2 t2 => q F2 H2 (t1.tr s t2)⟩
  | false =>
    rw [if_neg (by simp)] at e ⊢
    cases e
    exact q F1 H1 t1
theorem bOr_of {σ : L2.St} {H : Hp} {Q : Bool → Hp → Prop} (h : tB (bOr ta tb) σ H Q) : tOr (tB ta) (tB tb) σ H Q := by
  obtain ⟨ρ, S, m, F, b, S', e, en, s, q⟩ := h
  obtain ⟨⟨x, S1⟩, e1, e⟩ := Option.bind_eq_some_iff.mp e
  refine ⟨ρ, S, m, F, x, S1, e1, en, s, fun F1 H1 t1 => ?_⟩
  cases x with
  | true =>
    rw [if_pos rfl] at e ⊢
    cases e
    exact q F1 H1 t1
  | false =>
    rw [if_neg (by simp)] at e ⊢
    exact ⟨ρ, S1, m, F1, b, S', e, en.stp t1, t1.sr, fun F2 H2 t2 => q F2 H2 (t1.tr s t2)⟩
abbrev PWd (X : Cx) (e : Expr) (f : BD) : Prop := PW X e (tB f)
theorem pwd_and1 (ha : PTd X a ta) : PWd X (.BoolOp .And [a] pos) ta := pw_and1 ha
theorem pwd_or1 (ha : PTd X a ta) : PWd X (.BoolOp .Or [a] pos) ta := pw_or1 ha
theorem pwd_and (ha : PTd X a ta) (hb : PWd X (.BoolOp .And (b :: rest) pos) tb) : PWd X (.BoolOp .And (a :: b :: rest) pos) (bAnd ta tb) := PW.of (pw_and ha hb) fun _ _ _ h => bAnd_of h
theorem pwd_or (ha : PTd X a ta) (hb : PWd X (.BoolOp .Or (b :: rest) pos) tb) : PWd X (.BoolOp .Or (a :: b :: rest) pos) (bOr ta tb) := PW.of (pw_or ha hb) fun _ _ _ h => bOr_of h
theorem ptd_not (ha : PTd X a ta) : PTd X (.UnaryOp .Not a pos) (bNot ta) := PT.of (pt_not ha) fun σ H Q h => by
  obtain ⟨ρ, S, m, F, b, S', e, en, s, q⟩ := h
  obtain ⟨⟨x, S1⟩, e1, e⟩ := Option.bind_eq_some_iff.mp e
  cases e
  exact ⟨ρ, S, m, F, x, _, e1, en, s, fun F1 H1 t1 => q F1 H1 t1⟩
/-- and, or of bools as values; the last one may be anything -/
def eAndV (f g : ED) : ED := fun ρ S => (f ρ S).bind fun x => (rd x.2 (frz x.1)).bind fun a => (tsD a).bind fun b => if b then g ρ x.2 else some (.w (.d (.bool false)), x.2)
def eOrV (f g : ED) : ED := fun ρ S => (f ρ S).bind fun x => (rd x.2 (frz x.1)).bind fun a => (tsD a).bind fun b => if b then some (.w (.d (.bool true)), x.2) else g ρ x.2
theorem ped_andV {fb : ED} (ha : PEd X a fa) (hb : PEd X (.BoolOp .And (b :: rest) pos) fb) : PEd X (.BoolOp .And (a :: b :: rest) pos) (eAndV fa fb) := PE.of (pe_and ha hb) fun σ H Q h => by
  obtain ⟨ρ, S, m, F, r, S', e, en, s, q⟩ := h
  obtain ⟨⟨x, S1⟩, e1, e⟩ := Option.bind_eq_some_iff.mp e
  obtain ⟨a, e2, e⟩ := Option.bind_eq_some_iff.mp e
  obtain ⟨c, e3, e⟩ := Option.bind_eq_some_iff.mp e
  refine tD_frz e1 en s fun v F1 H1 t1 h1 => ?_
  have rr := rd_rp t1.sr h1 e2
  cases rr <;> simp only [tsD, reduceCtorEq, Option.some.injEq] at e3
  subst e3
  refine ⟨_, rfl, ?_⟩
  split
  · rename_i hb
    rw [if_pos hb] at e
    exact ⟨ρ, S1, m, F1, r, S', e, en.stp t1, t1.sr, Fin.tr s t1 q⟩
  · rename_i hb
    rw [if_neg hb] at e
    cases e
    exact q _ F1 H1 t1 (.bl false)
theorem ped_orV {fb : ED} (ha : PEd X a fa) (hb : PEd X (.BoolOp .Or (b :: rest) pos) fb) : PEd X (.BoolOp .Or (a :: b :: rest) pos) (eOrV fa fb) := PE.of (pe_or ha hb) fun σ H Q h => by
  obtain ⟨ρ, S, m, F, r, S', e, en, s, q⟩ := h
  obtain ⟨⟨x, S1⟩, e1, e⟩ := Option.bind_eq_some_iff.mp e
  obtain ⟨a, e2, e⟩ := Option.bind_eq_some_iff.mp e
  obtain ⟨c, e3, e⟩ := Option.bind_eq_some_iff.mp e
  refine tD_frz e1 en s fun v F1 H1 t1 h1 => ?_
  have rr := rd_rp t1.sr h1 e2
  cases rr <;> simp only [tsD, reduceCtorEq, Option.some.injEq] at e3
  subst e3
  refine ⟨_, rfl, ?_⟩
  split
  · rename_i hb
    rw [if_pos hb] at e
    cases e
    exact q _ F1 H1 t1 (.bl true)
  · rename_i hb
    rw [if_neg hb] at e
    exact ⟨ρ, S1, m, F1, r, S', e, en.stp t1, t1.sr, Fin.tr s t1 q⟩
theorem ped_one {op} {e : Expr} {f : ED} (h : PEd X e f) : PEd X (.BoolOp op [e] pos) f := pe_one h
def oNot : D → Option D
  | .bool b => some (.bool (!b))
  | _ => none
def eNotV (f : ED) : ED := e1 (k1D oNot) f
theorem ped_notV (ha : PEd X a fa) : PEd X (.UnaryOp .Not a pos) (eNotV fa) := PE.of (pe_not ha) fun _ _ _ h => t1_of (r := fun x H Q => ∃ c, x = .bl c ∧ Q (.bl (!c)) H) (ok1_flat fun H v a z h e => by
  cases h <;> simp only [oNot, reduceCtorEq] at e
  cases e
  exact ⟨_, fun F => .bl _, fun Q q => ⟨_, rfl, q⟩⟩) h
def eIf (t : BD) (f g : ED) : ED := fun ρ S => (t ρ S).bind fun x => if x.1 then f ρ x.2 else g ρ x.2
theorem ped_if {t : BD} (hc : PTd X c t) (ha : PEd X a fa) (hb : PEd X b fb) : PEd X (.IfExp c a b pos) (eIf t fa fb) := PE.of (pe_ifExp hc ha hb) fun σ H Q h => by
  obtain ⟨ρ, S, m, F, r, S', e, en, s, q⟩ := h
  obtain ⟨⟨x, S1⟩, e1, e⟩ := Option.bind_eq_some_iff.mp e
  refine ⟨ρ, S, m, F, x, S1, e1, en, s, fun F1 H1 t1 => ?_⟩
  cases x with
  | true =>
    rw [if_pos rfl] at e ⊢
    exact ⟨ρ, S1, m, F1, r, S', e, en.stp t1, t1.sr, Fin.tr s t1 q⟩
  | false =>
    rw [if_neg (by simp)] at e ⊢
    exact ⟨ρ, S1, m, F1, r, S', e, en.stp t1, t1.sr, Fin.tr s t1 q⟩
end DL

set_option Elab.async false
set_option linter.all false
set_option maxRecDepth 100000
set_option maxHeartbeats 4000000
namespace DL
open PySem L2
variable {X : Cx} {a b c : Expr} {fa fb fc : ED} {pos : Pos}

/-! ### x or y by truth -/
def trD : D → Option Bool
  | .none => some false
  | .bool b => some b
  | .int i => some (i != 0)
  | .list xs => some (!xs.isEmpty)
  | .tuple xs => some (!xs.isEmpty)
  | _ => none
theorem Rps.isEmpty {H : Hp} {vs : List V} {ds : List D} (h : Rps H vs ds) : vs.isEmpty = ds.isEmpty := by cases h <;> rfl
theorem truV_of {K : PySem.W.Frag} {H : Hp} {v : V} {d : D} {b : Bool} (h : Rp H v d) (e : trD d = some b) : TruV K v H b := by
  cases h <;> simp only [trD, Option.some.injEq, reduceCtorEq] at e
  · exact e.symm
  · exact e.symm
  · exact e.symm
  · rename_i ha hs
    exact .inl ⟨_, SqL.of ha, by rw [hs.isEmpty]; exact e.symm⟩
  · rename_i ha hs
    exact .inr (.inl ⟨_, SqT.of ha, by rw [hs.isEmpty]; exact e.symm⟩)
def eOrT (f g : ED) : ED := fun ρ S => (f ρ S).bind fun x => (rd x.2 (frz x.1)).bind fun a => (trD a).bind fun b => if b then some (x.1, x.2) else g ρ x.2
theorem ped_orT {rest : List Expr} {fb : ED} (ha : PEd X a fa) (hb : PEd X (.BoolOp .Or (b :: rest) pos) fb) : PEd X (.BoolOp .Or (a :: b :: rest) pos) (eOrT fa fb) := PE.of (pe_orT ha hb) fun σ H Q h => by
  obtain ⟨ρ, S, m, F, r, S', e, en, s, q⟩ := h
  obtain ⟨⟨x, S1⟩, e1, e⟩ := Option.bind_eq_some_iff.mp e
  obtain ⟨a, e2, e⟩ := Option.bind_eq_some_iff.mp e
  obtain ⟨c, e3, e⟩ := Option.bind_eq_some_iff.mp e
  cases c with
  | true =>
    cases e
    refine ⟨ρ, S, m, F, _, _, e1, en, s, fun v F1 H1 t1 h1 => ?_⟩
    obtain ⟨F2, t2, h2⟩ := t1.frz h1
    exact ⟨true, truV_of (rd_rp t2.sr h2 e2) e3, q _ F1 H1 t1 h1⟩
  | false =>
    refine tD_frz e1 en s fun v F1 H1 t1 h1 => ?_
    exact ⟨false, truV_of (rd_rp t1.sr h1 e2) e3, ρ, S1, m, F1, r, S', e, en.stp t1, t1.sr, Fin.tr s t1 q⟩
/-- a test by truth -/
def bT (f : ED) : BD := fun ρ S => (f ρ S).bind fun x => (rd x.2 (frz x.1)).bind fun a => (trD a).bind fun b => some (b, x.2)
theorem ptd_tru (ha : PEd X a fa) (he : ∀ whole, isTrue a X.env whole = (do let v ← whole; standAt a.pos; holding [v] (truthy v)) := by intro _; rfl) : PTd X a (bT fa) := PT.of (pt_truth ha he) fun σ H Q h => by
  obtain ⟨ρ, S, m, F, r, S', e, en, s, q⟩ := h
  obtain ⟨⟨x, S1⟩, e1, e⟩ := Option.bind_eq_some_iff.mp e
  obtain ⟨a, e2, e⟩ := Option.bind_eq_some_iff.mp e
  obtain ⟨c, e3, e⟩ := Option.bind_eq_some_iff.mp e
  cases e
  exact tD_frz e1 en s fun v F1 H1 t1 h1 => ⟨_, truV_of (rd_rp t1.sr h1 e2) e3, q F1 H1 t1⟩

/-! ### subscripts -/
def kIx : K2 := fun x y S => match rd S x, rd S y with
  | some (.list a), some (.int i) => (atI a i).bind fun z => some (.w (.d z), S)
  | some (.tuple a), some (.int i) => (atI a i).bind fun z => some (.w (.d z), S)
  | _, _ => none
theorem Rps.atI {H : Hp} {vs : List V} {ds : List D} {i : Int} {d : D} (h : Rps H vs ds) (e : L2.atI ds i = some d) : ∃ v, L2.atI vs i = some v ∧ Rp H v d := by
  unfold L2.atI at e ⊢
  rw [h.length]
  obtain ⟨j, e1, e2⟩ := Option.bind_eq_some_iff.mp e
  obtain ⟨v, q, r⟩ := h.get e2
  exact ⟨v, by rw [e1]; exact q, r⟩
theorem ok_ix {K : PySem.W.Frag} : Ok2 kIx (rIx K) := by
  intro m F H S w1 w2 v1 v2 res S' Q s h1 h2 e q
  unfold kIx at e
  split at e
  · rename_i a i ea eb
    obtain ⟨z, e1, e⟩ := Option.bind_eq_some_iff.mp e
    cases e
    obtain ⟨p, vs, rfl, g, r⟩ := rd_lst s h1 ea
    have ri := rd_rp s h2 eb
    cases ri
    obtain ⟨v, ev, rv⟩ := r.atI e1
    exact .inl ⟨p, vs, i, v, rfl, rfl, SqL.of g, ev, fin_same s (w := .d _) rv q⟩
  · rename_i a i ea eb
    obtain ⟨z, e1, e⟩ := Option.bind_eq_some_iff.mp e
    cases e
    obtain ⟨p, vs, rfl, _, g, r⟩ := rd_tup s h1 ea
    have ri := rd_rp s h2 eb
    cases ri
    obtain ⟨v, ev, rv⟩ := r.atI e1
    exact .inr (.inl ⟨p, vs, i, v, rfl, rfl, SqT.of g, ev, fin_same s (w := .d _) rv q⟩)
  · cases e
def eIx (f g : ED) : ED := e2 kIx f g
theorem ped_ix (ha : PEd X a fa) (hb : PEd X b fb) (hs : PlainIx b := by intro _ _; rfl) : PEd X (.Subscript a b pos) (eIx fa fb) := PE.of (pe_ix ix_seq ha hb hs) fun _ _ _ h => t2_of ok_ix h
/-! slices -/
abbrev OD := En → Sto → Option (Option Int × Sto)
def tO (f : OD) : TO := fun σ H Q => ∃ ρ S m F o S', f ρ S = some (o, S') ∧ EnR m F σ ρ ∧ SR m F H S ∧ ∀ F' H', Stp m F H m F' H' S' → Q o H'
abbrev POd (X : Cx) (e : Option Expr) (f : OD) : Prop := PO X e (tO f)
theorem PO.of {e : Option Expr} {t u : TO} (h : PO X e t) (k : ∀ σ H Q, u σ H Q → t σ H Q) : PO X e u := ⟨fun pins s σ H Q I q => h.run pins s σ H Q I (k σ H Q q)⟩
def oNon : OD := fun _ S => some (none, S)
def intD : D → Option Int
  | .int i => some i
  | _ => none
def oSom (f : ED) : OD := fun ρ S => (f ρ S).bind fun x => (rd x.2 (frz x.1)).bind fun a => (intD a).bind fun i => some (some i, x.2)
theorem pod_none : POd X none oNon := PO.of po_none fun σ H Q h => by
  obtain ⟨ρ, S, m, F, r, S', e, en, s, q⟩ := h
  cases e
  exact q F H (Stp.refl s)
theorem pod_some {e : Expr} {f : ED} (h : PEd X e f) : POd X (some e) (oSom f) := PO.of (po_some h) fun σ H Q h => by
  obtain ⟨ρ, S, m, F, r, S', e, en, s, q⟩ := h
  obtain ⟨⟨x, S1⟩, e1, e⟩ := Option.bind_eq_some_iff.mp e
  obtain ⟨a, e2, e⟩ := Option.bind_eq_some_iff.mp e
  obtain ⟨i, e3, e⟩ := Option.bind_eq_some_iff.mp e
  cases e
  refine tD_frz e1 en s fun v F1 H1 t1 h1 => ?_
  have r := rd_rp t1.sr h1 e2
  cases r <;> simp only [intD, reduceCtorEq, Option.some.injEq] at e3
  subst e3
  exact ⟨_, rfl, q F1 H1 t1⟩
def cutL {α : Type} (xs : List α) (lo hi : Option Int) : List α := (xs.drop (HT.sIx xs.length 0 lo)).take (HT.sIx xs.length xs.length hi - HT.sIx xs.length 0 lo)
def kSl (w : Sl) (lo hi : Option Int) (S : Sto) : Option (Rs × Sto) := match rd S w with
  | some (.list a) => some (.fr (cutL a lo hi), S)
  | some (.tuple a) => some (.w (.d (.tuple (cutL a lo hi))), S)
  | _ => none
def eSl (f : ED) (lo hi : OD) : ED := fun ρ S => (f ρ S).bind fun x => (lo ρ x.2).bind fun y => (hi ρ y.2).bind fun z => kSl (frz x.1) y.1 z.1 z.2
theorem Rps.cut {H : Hp} {vs : List V} {ds : List D} (h : Rps H vs ds) (lo hi : Option Int) : Rps H (cutV vs lo hi) (cutL ds lo hi) := by
  unfold cutV cutL
  rw [h.length]
  exact (h.drop _).take _
theorem cutL_whole {α : Type} {xs : List α} {lo hi : Option Int} (h : HT.sIx xs.length 0 lo = 0 ∧ HT.sIx xs.length xs.length hi = xs.length) : cutL xs lo hi = xs := by
  unfold cutL
  rw [h.1, h.2]
  simp
theorem ped_slice {lo hi : Option Expr} {fl fh : OD} {p2 : Pos} (he : PEd X a fa) (hl : POd X lo fl) (hh : POd X hi fh) : PEd X (.Subscript a (.Slice lo hi none p2) pos) (eSl fa fl fh) :=
  PE.of (pe_slice (SlR.or sl_list sl_tupA) he hl hh) fun σ H Q h => by
    obtain ⟨ρ, S, m, F, r, S', e, en, s, q⟩ := h
    obtain ⟨⟨x, S1⟩, e1, e⟩ := Option.bind_eq_some_iff.mp e
    obtain ⟨⟨y, S2⟩, e2, e⟩ := Option.bind_eq_some_iff.mp e
    obtain ⟨⟨z, S3⟩, e3, e⟩ := Option.bind_eq_some_iff.mp e
    refine tD_frz e1 en s fun v F1 H1 t1 h1 => ?_
    refine ⟨ρ, S1, m, F1, y, S2, e2, en.stp t1, t1.sr, fun F2 H2 t2 => ?_⟩
    have t12 := t1.tr s t2
    refine ⟨ρ, S2, m, F2, z, S3, e3, en.stp t12, t2.sr, fun F3 H3 t3 => ?_⟩
    have t13 := t12.tr s t3
    have h3 : RpS m F3 v (frz x) := h1.mono (t2.gr.ex.tr t3.gr.ex)
    unfold kSl at e
    split at e
    · rename_i a ea
      cases e
      obtain ⟨p, vs, rfl, g, r⟩ := rd_lst t3.sr h3 ea
      exact .inl ⟨p, vs, rfl, SqL.of g, fun p hp => fin_new t3.sr (r.cut y z) hp (Fin.tr s t13 q)⟩
    · rename_i a ea
      cases e
      obtain ⟨p, vs, rfl, f, g, r⟩ := rd_tup t3.sr h3 ea
      refine .inr ⟨p, vs, rfl, SqT.of g, fun hw => ?_, fun _ p hp => fin_tup t3.sr (r.cut y z) hp (Fin.tr s t13 q)⟩
      refine fin_same t3.sr (w := .d (.tuple (cutL a y z))) ?_ (Fin.tr s t13 q)
      have : cutL a y z = a := cutL_whole (by rw [← r.length]; exact hw)
      rw [this]
      exact .tup f r
    · cases e

/-! ### a cell goes off: it is read as data from now on -/
def off (S : Sto) : Sl → Option (Sl × Sto)
  | .d x => some (.d x, S)
  | .c i => (S[i]?).bind fun c => some (.d (.list c.xs), S.set i (.off c.xs))
  | .x _ => none
def eOff (f : ED) : ED := fun ρ S => (f ρ S).bind fun x => (off x.2 (frz x.1)).bind fun y => some (.w y.1, y.2)
theorem off_ok {m : List Addr} {F H : Hp} {S S' : Sto} {w w' : Sl} {v : V} (s : SR m F H S) (h : RpS m F v w) (e : off S w = some (w', S')) : ∃ F', Stp m F H m F' H S' ∧ RpS m F' v w' := by
  cases w with
  | d x =>
    cases e
    exact ⟨F, Stp.refl s, h⟩
  | c i =>
    obtain ⟨c, e1, e⟩ := Option.bind_eq_some_iff.mp e
    cases e
    obtain ⟨p, hp, rfl⟩ := h
    have g := s.cel i p c hp e1
    have inj : ∀ j, m[j]? = some p → j = i := fun j hj => by
      obtain ⟨h1, e1⟩ := List.getElem?_eq_some_iff.mp hj
      obtain ⟨h2, e2⟩ := List.getElem?_eq_some_iff.mp hp
      exact (List.getElem_inj s.nd).mp (e1.trans e2.symm)
    cases c with
    | off xs =>
      obtain ⟨vs, g1, g2⟩ := g
      have : S.set i (.off xs) = S := by
        obtain ⟨h1, h2⟩ := List.getElem?_eq_some_iff.mp e1
        rw [← h2, List.set_getElem_self]
      exact ⟨F, by show Stp m F H m F H (S.set i (.off xs)); rw [this]; exact Stp.refl s, .lst g1 g2⟩
    | on xs =>
      obtain ⟨g0, vs, g1, g2⟩ := g
      have exF : Ex F (upd F p (.lst vs)) := fun b o e => by rw [upd_ne (ne_of_none e g0)]; exact e
      refine ⟨upd F p (.lst vs), ⟨⟨exF, fun b o e => ?_⟩, fun _ _ h _ => h, ⟨fun b o e => ?_, s.nd, by rw [List.length_set]; exact s.len, fun j a c' ha hc => ?_⟩, [], by simp, by simp⟩, .lst upd_same (Rps.mono exF _ _ g2)⟩
      · by_cases hb : b = p
        · subst hb; exact .inr (.inr (List.mem_of_getElem? hp))
        · rw [upd_ne hb] at e; exact .inl e
      · by_cases hb : b = p
        · subst hb; rw [upd_same] at e; cases e; exact g1
        · rw [upd_ne hb] at e; exact s.ex _ _ e
      · by_cases hj : i = j
        · subst hj
          rw [ha] at hp; cases hp
          rw [List.getElem?_set_self (List.getElem?_eq_some_iff.mp e1).1] at hc
          cases hc
          exact ⟨vs, upd_same, Rps.mono exF _ _ g2⟩
        · rw [List.getElem?_set_ne hj] at hc
          have hap : a ≠ p := fun z => hj (inj j (by rw [← z]; exact ha)).symm
          have g' := s.cel j a c' ha hc
          cases c' with
          | on ys =>
            obtain ⟨q1, us, q2, q3⟩ := g'
            exact ⟨by rw [upd_ne hap]; exact q1, us, q2, Rps.mono exF _ _ q3⟩
          | off ys =>
            obtain ⟨us, q2, q3⟩ := g'
            exact ⟨us, exF _ _ q2, Rps.mono exF _ _ q3⟩
  | x a => cases e
theorem ped_off (ha : PEd X a fa) : PEd X a (eOff fa) := PE.of ha fun σ H Q h => by
  obtain ⟨ρ, S, m, F, r, S', e, en, s, q⟩ := h
  obtain ⟨⟨x, S1⟩, e1, e⟩ := Option.bind_eq_some_iff.mp e
  obtain ⟨⟨y, S2⟩, e2, e⟩ := Option.bind_eq_some_iff.mp e
  cases e
  refine tD_frz e1 en s fun v F1 H1 t1 h1 => ?_
  obtain ⟨F2, t2, h2⟩ := off_ok t1.sr h1 e2
  exact q v F2 H1 (t1.tr s t2) h2

def offs (S : Sto) : List Sl → Option (List D × Sto)
  | [] => some ([], S)
  | w :: ws => (off S w).bind fun y => (dat y.1).bind fun d => (offs y.2 ws).bind fun z => some (d :: z.1, z.2)
theorem offs_ok {m : List Addr} : ∀ {ws : List Sl} {F H : Hp} {S S' : Sto} {vs : List V} {ds : List D}, SR m F H S → RpSs m F vs ws → offs S ws = some (ds, S') → ∃ F', Stp m F H m F' H S' ∧ Rps F' vs ds
  | [], F, H, S, S', vs, ds, s, h, e => by
    cases h; cases e
    exact ⟨F, Stp.refl s, .nil⟩
  | w :: ws, F, H, S, S', vs, ds, s, h, e => by
    obtain ⟨⟨y, S1⟩, e1, e⟩ := Option.bind_eq_some_iff.mp e
    obtain ⟨d, e2, e⟩ := Option.bind_eq_some_iff.mp e
    obtain ⟨⟨es, S2⟩, e3, e⟩ := Option.bind_eq_some_iff.mp e
    cases e
    cases h with
    | cons h1 h2 =>
      obtain ⟨F1, t1, r1⟩ := off_ok s h1 e1
      obtain ⟨F2, t2, r2⟩ := offs_ok t1.sr (h2.mono t1.gr.ex) e3
      cases y with
      | c i => cases e2
      | x a => cases e2
      | d z =>
        cases e2
        exact ⟨F2, t1.tr s t2, .cons (Rp.mono t2.gr.ex _ _ r1) r2⟩
/-! ### displays -/
def eLst (f : AD) : ED := fun ρ S => (f ρ S).bind fun x => (offs x.2 x.1).bind fun y => if y.1.length ≤ sizeLine then some (.fr y.1, y.2) else none
def eTup (f : AD) : ED := fun ρ S => (f ρ S).bind fun x => (offs x.2 x.1).bind fun y => if y.1.length ≤ sizeLine then some (.w (.d (.tuple y.1)), y.2) else none
theorem ped_lst {es : List Expr} {f : AD} (h : PAd X es f) : PEd X (.List es pos) (eLst f) := PE.of (pe_lst h) fun σ H Q h => by
  obtain ⟨ρ, S, m, F, r, S', e, en, s, q⟩ := h
  obtain ⟨⟨x, S1⟩, e1, e⟩ := Option.bind_eq_some_iff.mp e
  obtain ⟨⟨ds, S2⟩, e2, e⟩ := Option.bind_eq_some_iff.mp e
  split at e
  · rename_i hz
    cases e
    refine ⟨ρ, S, m, F, x, S1, e1, en, s, fun vs F1 H1 t1 h1 => ?_⟩
    obtain ⟨F2, t2, r⟩ := offs_ok t1.sr h1 e2
    exact ⟨by rw [r.length]; exact hz, fun p hp => fin_new t2.sr r hp (Fin.tr s (t1.tr s t2) q)⟩
  · cases e
theorem ped_tup {es : List Expr} {x1} {f : AD} (h : PAd X es f) : PEd X (.Tuple es x1 pos) (eTup f) := PE.of (pe_tup h) fun σ H Q h => by
  obtain ⟨ρ, S, m, F, r, S', e, en, s, q⟩ := h
  obtain ⟨⟨x, S1⟩, e1, e⟩ := Option.bind_eq_some_iff.mp e
  obtain ⟨⟨ds, S2⟩, e2, e⟩ := Option.bind_eq_some_iff.mp e
  split at e
  · rename_i hz
    cases e
    refine ⟨ρ, S, m, F, x, S1, e1, en, s, fun vs F1 H1 t1 h1 => ?_⟩
    obtain ⟨F2, t2, r⟩ := offs_ok t1.sr h1 e2
    exact ⟨by rw [r.length]; exact hz, fun p hp => fin_tup t2.sr r hp (Fin.tr s (t1.tr s t2) q)⟩
  · cases e

/-! ### built-in functions -/
theorem ped_callB {id : String} {k : KN} {r : List V → Hp → VK → Prop} {x : Str} {p : Pos} {e : Expr} {es : List Expr} {f : AD} (hc : CallR X (.builtin id) r) (hk : OkN k r) (hg : Gl X x) (hm : X.mg x = none) (hv : bootBuiltins x = some (.builtin id)) (ha : PAd X (e :: es) f)
    (hn : x ≠ "__name__" := by decide) (hdb : (x == ("__debug__" : Str)) = false := by decide)
    (h1 : starEach (e :: es) X.env = (false, eval e X.env) :: starEach es X.env := by rfl) (h2 : (backTo pos (starEach es X.env)).any (·.1) = false := by rfl) : PEd X (.Call (.Name x p) (e :: es) [] pos) (eN k f) :=
  PE.of (pe_callB hc hg hm hv ha hn hdb h1 h2) fun _ _ _ h => tN_of hk h
theorem ped_callTy {T : String} {k : KN} {r : List V → Hp → VK → Prop} {x : Str} {p : Pos} {e : Expr} {es : List Expr} {f : AD} (hc : CallR X (.type T) r) (hk : OkN k r) (hg : Gl X x) (hm : X.mg x = none) (hv : bootBuiltins x = some (.type T)) (ha : PAd X (e :: es) f)
    (hn : x ≠ "__name__" := by decide) (hdb : (x == ("__debug__" : Str)) = false := by decide)
    (h1 : starEach (e :: es) X.env = (false, eval e X.env) :: starEach es X.env := by rfl) (h2 : (backTo pos (starEach es X.env)).any (·.1) = false := by rfl) : PEd X (.Call (.Name x p) (e :: es) [] pos) (eN k f) :=
  PE.of (pe_callTy hc hg hm hv ha hn hdb h1 h2) fun _ _ _ h => tN_of hk h
end DL

set_option Elab.async false
set_option linter.all false
set_option maxRecDepth 100000
set_option maxHeartbeats 4000000
namespace DL
open PySem L2
variable {X : Cx} {a b c : Expr} {fa fb fc : ED} {pos : Pos}

/-! ### what the built-ins give -/
def kN1 (k : K1) : KN := fun ws S => match ws with
  | [w] => k w S
  | _ => none
def kN2 (k : K2) : KN := fun ws S => match ws with
  | [w, u] => k w u S
  | _ => none
theorem RpSs.one {m : List Addr} {F : Hp} {vs : List V} {w : Sl} (h : RpSs m F vs [w]) : ∃ v, vs = [v] ∧ RpS m F v w := by
  cases h with
  | cons h1 h2 => cases h2; exact ⟨_, rfl, h1⟩
theorem RpSs.two {m : List Addr} {F : Hp} {vs : List V} {w u : Sl} (h : RpSs m F vs [w, u]) : ∃ v v', vs = [v, v'] ∧ RpS m F v w ∧ RpS m F v' u := by
  cases h with
  | cons h1 h2 =>
    obtain ⟨v', rfl, h3⟩ := h2.one
    exact ⟨_, _, rfl, h1, h3⟩
theorem okN1 {k : K1} {r : List V → Hp → VK → Prop} (h : Ok1 k fun v H Q => r [v] H Q) : OkN (kN1 k) r := by
  intro m F H S ws vs res S' Q s hv e q
  unfold kN1 at e
  split at e
  · rename_i w
    obtain ⟨v, rfl, h1⟩ := hv.one
    exact h m F H S w v res S' Q s h1 e q
  · cases e
theorem okN2 {k : K2} {r : List V → Hp → VK → Prop} (h : Ok2 k fun v u H Q => r [v, u] H Q) : OkN (kN2 k) r := by
  intro m F H S ws vs res S' Q s hv e q
  unfold kN2 at e
  split at e
  · rename_i w u
    obtain ⟨v, v', rfl, h1, h2⟩ := hv.two
    exact h m F H S w u v v' res S' Q s h1 h2 e q
  · cases e
def oLen : D → Option D
  | .list xs => some (.int xs.length)
  | .tuple xs => some (.int xs.length)
  | .str x => if x.length ≤ sizeLine then some (.int x.length) else none
  | _ => none
@[reducible] def kLen : KN := kN1 (k1D oLen)
theorem ok_len {K : PySem.W.Frag} : OkN kLen (fun xs H Q => ∃ x n, xs = [x] ∧ LenV K x H n ∧ Q (.int n) H) := okN1 (ok1_flat fun H v a z h e => by
  cases h <;> simp only [oLen, reduceCtorEq, Option.some.injEq] at e
  · rename_i x
    split at e
    · rename_i hz
      cases e
      exact ⟨_, fun F => .int _, fun Q q => ⟨_, x.length, rfl, ⟨hz, rfl⟩, q⟩⟩
    · cases e
  · rename_i p xs ds hp hs
    subst e
    exact ⟨_, fun F => .int _, fun Q q => ⟨_, ds.length, rfl, .inl ⟨xs, SqL.of hp, hs.length.symm⟩, q⟩⟩
  · rename_i p xs ds hp hs
    subst e
    exact ⟨_, fun F => .int _, fun Q q => ⟨_, ds.length, rfl, .inr ⟨xs, SqT.of hp, hs.length.symm⟩, q⟩⟩)
def oAbs : D → Option D
  | .int i => some (.int (if i < 0 then -i else i))
  | _ => none
@[reducible] def kAbs : KN := kN1 (k1D oAbs)
theorem ok_abs : OkN kAbs (fun xs H Q => ∃ i, xs = [.int i] ∧ Q (.int (if i < 0 then -i else i)) H) := okN1 (ok1_flat fun H v a z h e => by
  cases h <;> simp only [oAbs, reduceCtorEq, Option.some.injEq] at e
  subst e
  exact ⟨_, fun F => .int _, fun Q q => ⟨_, rfl, q⟩⟩)
def oInt : D → Option D
  | .int i => some (.int i)
  | .bool b => some (.int (if b then 1 else 0))
  | _ => none
@[reducible] def kInt : KN := kN1 (k1D oInt)
theorem ok_int : OkN kInt (fun xs H Q => (∃ i, xs = [.int i] ∧ Q (.int i) H) ∨ ∃ k, xs = [.bl k] ∧ Q (.int (if k then 1 else 0)) H) := okN1 (ok1_flat fun H v a z h e => by
  cases h <;> simp only [oInt, reduceCtorEq, Option.some.injEq] at e
  · subst e
    exact ⟨_, fun F => .int _, fun Q q => .inr ⟨_, rfl, q⟩⟩
  · subst e
    exact ⟨_, fun F => .int _, fun Q q => .inl ⟨_, rfl, q⟩⟩)
def kList : KN := kN1 fun w S => match rd S w with
  | some (.list a) => some (.fr a, S)
  | some (.tuple a) => some (.fr a, S)
  | _ => none
theorem ok_list {K : PySem.W.Frag} : OkN kList (fun xs H Q => ∃ p ys, xs = [.ref p] ∧ (SqL K H p ys ∨ SqT K H p ys) ∧ ∀ l, H l = none → Q (.ref l) (upd H l (.lst ys))) := okN1 (by
  intro m F H S w v res S' Q s h e q
  simp only at e
  split at e
  · rename_i a ea
    cases e
    obtain ⟨p, vs, rfl, g, r⟩ := rd_lst s h ea
    exact ⟨p, vs, rfl, .inl (SqL.of g), fun l hl => fin_new s r hl q⟩
  · rename_i a ea
    cases e
    obtain ⟨p, vs, rfl, _, g, r⟩ := rd_tup s h ea
    exact ⟨p, vs, rfl, .inr (SqT.of g), fun l hl => fin_new s r hl q⟩
  · cases e)
def kTuple : KN := kN1 fun w S => match rd S w with
  | some (.list a) => some (.w (.d (.tuple a)), S)
  | some (.tuple a) => some (.w (.d (.tuple a)), S)
  | _ => none
theorem ok_tuple {K : PySem.W.Frag} : OkN kTuple (fun xs H Q => ∃ p ys, xs = [.ref p] ∧ ((SqL K H p ys ∧ ∀ l, H l = none → Q (.ref l) (upd H l (.tup ys))) ∨ (SqT K H p ys ∧ Q (.ref p) H))) := okN1 (by
  intro m F H S w v res S' Q s h e q
  simp only at e
  split at e
  · rename_i a ea
    cases e
    obtain ⟨p, vs, rfl, g, r⟩ := rd_lst s h ea
    exact ⟨p, vs, rfl, .inl ⟨SqL.of g, fun l hl => fin_tup s r hl q⟩⟩
  · rename_i a ea
    cases e
    obtain ⟨p, vs, rfl, f, g, r⟩ := rd_tup s h ea
    exact ⟨p, vs, rfl, .inr ⟨SqT.of g, fin_same s (w := .d (.tuple a)) (.tup f r) q⟩⟩
  · cases e)
def intsD : List D → Option (List Int)
  | [] => some []
  | .int i :: r => (intsD r).map (i :: ·)
  | _ => none
theorem intsD_of {H : Hp} : ∀ {ds : List D} {vs : List V} {ns : List Int}, Rps H vs ds → intsD ds = some ns → vs = ns.map V.int
  | [], _, _, h, e => by cases h; cases e; rfl
  | d :: ds, _, ns, h, e => by
    cases h with
    | cons h1 h2 =>
      cases h1 <;> simp only [intsD, reduceCtorEq] at e
      obtain ⟨ms, e1, rfl⟩ := Option.map_eq_some_iff.mp e
      rw [intsD_of h2 e1] <;> rfl
def blsD : List D → Option (List Bool)
  | [] => some []
  | .bool i :: r => (blsD r).map (i :: ·)
  | _ => none
theorem blsD_of {H : Hp} : ∀ {ds : List D} {vs : List V} {ns : List Bool}, Rps H vs ds → blsD ds = some ns → vs = ns.map V.bl
  | [], _, _, h, e => by cases h; cases e; rfl
  | d :: ds, _, ns, h, e => by
    cases h with
    | cons h1 h2 =>
      cases h1 <;> simp only [blsD, reduceCtorEq] at e
      obtain ⟨ms, e1, rfl⟩ := Option.map_eq_some_iff.mp e
      rw [blsD_of h2 e1] <;> rfl
def oSum : D → Option D
  | .list xs => (intsD xs).map fun ns => .int ns.sum
  | _ => none
@[reducible] def kSum : KN := kN1 (k1D oSum)
theorem ok_sum {K : PySem.W.Frag} : OkN kSum (rSum K) := okN1 (ok1_flat fun H v a z h e => by
  cases h <;> simp only [oSum, reduceCtorEq] at e
  rename_i p xs ds hp hs
  obtain ⟨ns, e1, rfl⟩ := Option.map_eq_some_iff.mp e
  exact ⟨_, fun F => .int _, fun Q q => ⟨p, ns, rfl, by rw [← intsD_of hs e1]; exact SqL.of hp, q⟩⟩)
def oAll : D → Option D
  | .list xs => (blsD xs).map fun ns => .bool (ns.all id)
  | _ => none
def oAny : D → Option D
  | .list xs => (blsD xs).map fun ns => .bool (ns.any id)
  | _ => none
@[reducible] def kAll : KN := kN1 (k1D oAll)
@[reducible] def kAny : KN := kN1 (k1D oAny)
theorem ok_all {K : PySem.W.Frag} : OkN kAll (rAll K) := okN1 (ok1_flat fun H v a z h e => by
  cases h <;> simp only [oAll, reduceCtorEq] at e
  rename_i p xs ds hp hs
  obtain ⟨ns, e1, rfl⟩ := Option.map_eq_some_iff.mp e
  exact ⟨_, fun F => .bl _, fun Q q => ⟨p, ns, rfl, by rw [← blsD_of hs e1]; exact SqL.of hp, q⟩⟩)
theorem ok_any {K : PySem.W.Frag} : OkN kAny (rAny K) := okN1 (ok1_flat fun H v a z h e => by
  cases h <;> simp only [oAny, reduceCtorEq] at e
  rename_i p xs ds hp hs
  obtain ⟨ns, e1, rfl⟩ := Option.map_eq_some_iff.mp e
  exact ⟨_, fun F => .bl _, fun Q q => ⟨p, ns, rfl, by rw [← blsD_of hs e1]; exact SqL.of hp, q⟩⟩)
def mxI : List Int → Int
  | [] => 0
  | x :: xs => xs.foldl max x
def mnI : List Int → Int
  | [] => 0
  | x :: xs => xs.foldl min x
theorem foldl_max_mem : ∀ (xs : List Int) (x : Int), xs.foldl max x ∈ x :: xs
  | [], x => by simp
  | y :: ys, x => by
    have ih := foldl_max_mem ys (max x y)
    rw [List.foldl_cons]
    rcases List.mem_cons.mp ih with h | h
    · rw [h]
      by_cases z : x ≤ y
      · rw [Int.max_eq_right z]; simp
      · rw [Int.max_eq_left (by omega)]; simp
    · exact List.mem_cons_of_mem _ (List.mem_cons_of_mem _ h)
theorem foldl_max_ge : ∀ (xs : List Int) (x y : Int), y ∈ x :: xs → y ≤ xs.foldl max x
  | [], x, y, h => by simp at h; simp [h]
  | z :: zs, x, y, h => by
    rw [List.foldl_cons]
    have h0 := foldl_max_ge zs (max x z) (max x z) (by simp)
    rcases List.mem_cons.mp h with h | h
    · have : x ≤ max x z := by omega
      omega
    · rcases List.mem_cons.mp h with h | h
      · have : z ≤ max x z := by omega
        omega
      · exact foldl_max_ge zs (max x z) y (List.mem_cons_of_mem _ h)
theorem foldl_min_mem : ∀ (xs : List Int) (x : Int), xs.foldl min x ∈ x :: xs
  | [], x => by simp
  | y :: ys, x => by
    have ih := foldl_min_mem ys (min x y)
    rw [List.foldl_cons]
    rcases List.mem_cons.mp ih with h | h
    · rw [h]
      by_cases z : x ≤ y
      · rw [Int.min_eq_left z]; simp
      · rw [Int.min_eq_right (by omega)]; simp
    · exact List.mem_cons_of_mem _ (List.mem_cons_of_mem _ h)
theorem foldl_min_le : ∀ (xs : List Int) (x y : Int), y ∈ x :: xs → xs.foldl min x ≤ y
  | [], x, y, h => by simp at h; simp [h]
  | z :: zs, x, y, h => by
    rw [List.foldl_cons]
    have h0 := foldl_min_le zs (min x z) (min x z) (by simp)
    rcases List.mem_cons.mp h with h | h
    · have : min x z ≤ x := by omega
      omega
    · rcases List.mem_cons.mp h with h | h
      · have : min x z ≤ z := by omega
        omega
      · exact foldl_min_le zs (min x z) y (List.mem_cons_of_mem _ h)
theorem mxI_eq {ns : List Int} {m : Int} (h1 : m ∈ ns) (h2 : ∀ y, y ∈ ns → y ≤ m) : m = mxI ns := by
  cases ns with
  | nil => cases h1
  | cons x xs =>
    have a := h2 _ (foldl_max_mem xs x)
    have b := foldl_max_ge xs x m h1
    show m = xs.foldl max x
    omega
theorem mnI_eq {ns : List Int} {m : Int} (h1 : m ∈ ns) (h2 : ∀ y, y ∈ ns → m ≤ y) : m = mnI ns := by
  cases ns with
  | nil => cases h1
  | cons x xs =>
    have a := h2 _ (foldl_min_mem xs x)
    have b := foldl_min_le xs x m h1
    show m = xs.foldl min x
    omega
def oMx (g : List Int → Int) : D → Option D
  | .list xs => (intsD xs).bind fun ns => if 0 < ns.length then some (.int (g ns)) else none
  | _ => none
theorem ok_mx {K : PySem.W.Frag} : OkN (kN1 (k1D (oMx mxI))) (rMax K) := okN1 (ok1_flat fun H v a z h e => by
  cases h <;> simp only [oMx, reduceCtorEq] at e
  rename_i p xs ds hp hs
  obtain ⟨ns, e1, e⟩ := Option.bind_eq_some_iff.mp e
  split at e
  · rename_i hz
    cases e
    exact ⟨_, fun F => .int _, fun Q q => ⟨p, ns, rfl, by rw [← intsD_of hs e1]; exact SqL.of hp, hz, fun m h1 h2 => by rw [mxI_eq h1 h2]; exact q⟩⟩
  · cases e)
theorem ok_mn {K : PySem.W.Frag} : OkN (kN1 (k1D (oMx mnI))) (rMin K) := okN1 (ok1_flat fun H v a z h e => by
  cases h <;> simp only [oMx, reduceCtorEq] at e
  rename_i p xs ds hp hs
  obtain ⟨ns, e1, e⟩ := Option.bind_eq_some_iff.mp e
  split at e
  · rename_i hz
    cases e
    exact ⟨_, fun F => .int _, fun Q q => ⟨p, ns, rfl, by rw [← intsD_of hs e1]; exact SqL.of hp, hz, fun m h1 h2 => by rw [mnI_eq h1 h2]; exact q⟩⟩
  · cases e)
/-! max, min of a tuple of ints -/
def rMaxT (K : PySem.W.Frag) : List V → Hp → VK → Prop := fun vs H Q => ∃ (a : Addr) (ns : List Int), vs = [V.ref a] ∧ SqT K H a (ns.map V.int) ∧ 0 < ns.length ∧ Q (.int (mxI ns)) H
def rMinT (K : PySem.W.Frag) : List V → Hp → VK → Prop := fun vs H Q => ∃ (a : Addr) (ns : List Int), vs = [V.ref a] ∧ SqT K H a (ns.map V.int) ∧ 0 < ns.length ∧ Q (.int (mnI ns)) H
theorem readsAll_ints {h : Heap} : ∀ {its : List Value} {ns : List Int}, PyProof.Rows.IntsAre its ns → ReadsAll h its (ns.map PyData.int) []
  | _, _, .nil => ReadsAll.nil
  | _, _, .cons n t h' => ReadsAll.cons (as := []) (bs := []) (Reads.int n t) (readsAll_ints h')
theorem alike_ints (ns : List Int) : PySem.W.AlikeAll (ns.map PyData.int) := by
  refine ⟨fun x hx y hy => ?_, fun x hx => ?_⟩
  · obtain ⟨i, _, rfl⟩ := List.mem_map.mp hx
    obtain ⟨j, _, rfl⟩ := List.mem_map.mp hy
    first | rfl | simp [PySem.W.alike]
  · obtain ⟨i, _, rfl⟩ := List.mem_map.mp hx
    intro z; cases z
theorem depth_ints : ∀ ns : List Int, PyData.depthAll (ns.map PyData.int) = 0
  | [] => by simp [PyData.depthAll]
  | n :: ns => by simp [PyData.depthAll, PyData.depth, depth_ints ns]
theorem cr_maxT (hc : X.calm = true) (hu : X.A.units + 64 < cLine) : CallR X (.builtin "max") (rMaxT X.K) := by
  intro pins s σ H vs us Q I r h
  obtain ⟨a, ns, rfl, hs, hne, q⟩ := h
  obtain ⟨its, rv, hl, _⟩ := I.tuple hs
  rw [Vals.ref1 r]
  cases ns with
  | nil => cases hne
  | cons n ns =>
    refine PySem.W.max_tuple_data (I.ok.hd hc) hl (x := .int n) (xs := ns.map PyData.int) (readsAll_ints (ns := n :: ns) rv.ints) (alike_ints (n :: ns)) ?_ fun i v h' tk bs _ hv hk => ?_
    · have := depth_ints (n :: ns)
      rw [List.map_cons] at this
      rw [this]; omega
    · rw [PySem.W.maxD_ints] at hv
      cases hv
      exact ⟨.int _, H, I.kept hk, ⟨_, rfl⟩, q⟩
theorem cr_minT (hc : X.calm = true) (hu : X.A.units + 64 < cLine) : CallR X (.builtin "min") (rMinT X.K) := by
  intro pins s σ H vs us Q I r h
  obtain ⟨a, ns, rfl, hs, hne, q⟩ := h
  obtain ⟨its, rv, hl, _⟩ := I.tuple hs
  rw [Vals.ref1 r]
  cases ns with
  | nil => cases hne
  | cons n ns =>
    refine PySem.W.min_tuple_data (I.ok.hd hc) hl (x := .int n) (xs := ns.map PyData.int) (readsAll_ints (ns := n :: ns) rv.ints) (alike_ints (n :: ns)) ?_ fun i v h' tk bs _ hv hk => ?_
    · have := depth_ints (n :: ns)
      rw [List.map_cons] at this
      rw [this]; omega
    · rw [PySem.W.minD_ints] at hv
      cases hv
      exact ⟨.int _, H, I.kept hk, ⟨_, rfl⟩, q⟩
def oMxT (g : List Int → Int) : D → Option D
  | .tuple xs => (intsD xs).bind fun ns => if 0 < ns.length then some (.int (g ns)) else none
  | _ => none
theorem ok_mxT {K : PySem.W.Frag} : OkN (kN1 (k1D (oMxT mxI))) (rMaxT K) := okN1 (ok1_flat fun H v a z h e => by
  cases h <;> simp only [oMxT, reduceCtorEq] at e
  rename_i p xs ds hp hs
  obtain ⟨ns, e1, e⟩ := Option.bind_eq_some_iff.mp e
  split at e
  · rename_i hz
    cases e
    exact ⟨_, fun F => .int _, fun Q q => ⟨p, ns, rfl, by rw [← intsD_of hs e1]; exact SqT.of hp, hz, q⟩⟩
  · cases e)
theorem ok_mnT {K : PySem.W.Frag} : OkN (kN1 (k1D (oMxT mnI))) (rMinT K) := okN1 (ok1_flat fun H v a z h e => by
  cases h <;> simp only [oMxT, reduceCtorEq] at e
  rename_i p xs ds hp hs
  obtain ⟨ns, e1, e⟩ := Option.bind_eq_some_iff.mp e
  split at e
  · rename_i hz
    cases e
    exact ⟨_, fun F => .int _, fun Q q => ⟨p, ns, rfl, by rw [← intsD_of hs e1]; exact SqT.of hp, hz, q⟩⟩
  · cases e)
theorem OkN.or1 {k k' : KN} {r r' : List V → Hp → VK → Prop} (h : OkN k r) (h' : OkN k' r') : OkN (fun ws S => (k ws S).or (k' ws S)) (fun xs H Q => r xs H Q ∨ r' xs H Q) := by
  intro m F H S ws vs res S' Q s h1 e q
  have e : (k ws S).or (k' ws S) = some (res, S') := e
  cases e1 : k ws S with
  | some z =>
    rw [e1] at e
    exact .inl (h m F H S ws vs res S' Q s h1 (by rw [e1]; exact e) q)
  | none =>
    rw [e1] at e
    exact .inr (h' m F H S ws vs res S' Q s h1 (by simpa using e) q)
def o2 (g : Int → Int → Int) : KN := kN2 (k2D (oI g))
theorem ok_max2 : OkN (o2 fun i j => if j > i then j else i) (fun xs H Q => ∃ i j, xs = [.int i, .int j] ∧ Q (.int (if j > i then j else i)) H) := okN2 (ok2_flat fun H v1 v2 a b z h1 h2 e => by
  cases h1 <;> cases h2 <;> simp only [oI, reduceCtorEq] at e
  cases e
  exact ⟨_, fun F => .int _, fun Q q => ⟨_, _, rfl, q⟩⟩)
theorem ok_min2 : OkN (o2 fun i j => if j < i then j else i) (fun xs H Q => ∃ i j, xs = [.int i, .int j] ∧ Q (.int (if j < i then j else i)) H) := okN2 (ok2_flat fun H v1 v2 a b z h1 h2 e => by
  cases h1 <;> cases h2 <;> simp only [oI, reduceCtorEq] at e
  cases e
  exact ⟨_, fun F => .int _, fun Q q => ⟨_, _, rfl, q⟩⟩)
@[reducible] def kMax : KN := fun ws S => (kN1 (k1D (oMx mxI)) ws S).or ((kN1 (k1D (oMxT mxI)) ws S).or (o2 (fun i j => if j > i then j else i) ws S))
@[reducible] def kMin : KN := fun ws S => (kN1 (k1D (oMx mnI)) ws S).or ((kN1 (k1D (oMxT mnI)) ws S).or (o2 (fun i j => if j < i then j else i) ws S))
theorem cr_maxA (hc : X.calm = true) (hu : X.A.units + 64 < cLine) : CallR X (.builtin "max") (fun xs H Q => rMax X.K xs H Q ∨ (rMaxT X.K xs H Q ∨ ∃ i j, xs = [.int i, .int j] ∧ Q (.int (if j > i then j else i)) H)) :=
  CallR.or (cr_max hc) (CallR.or (cr_maxT hc hu) (call_max2 hc))
theorem cr_minA (hc : X.calm = true) (hu : X.A.units + 64 < cLine) : CallR X (.builtin "min") (fun xs H Q => rMin X.K xs H Q ∨ (rMinT X.K xs H Q ∨ ∃ i j, xs = [.int i, .int j] ∧ Q (.int (if j < i then j else i)) H)) :=
  CallR.or (cr_min hc) (CallR.or (cr_minT hc hu) (call_min2 hc))
theorem ok_maxA {K : PySem.W.Frag} : OkN kMax (fun xs H Q => rMax K xs H Q ∨ (rMaxT K xs H Q ∨ ∃ i j, xs = [.int i, .int j] ∧ Q (.int (if j > i then j else i)) H)) := ok_mx.or1 (ok_mxT.or1 ok_max2)
theorem ok_minA {K : PySem.W.Frag} : OkN kMin (fun xs H Q => rMin K xs H Q ∨ (rMinT K xs H Q ∨ ∃ i j, xs = [.int i, .int j] ∧ Q (.int (if j < i then j else i)) H)) := ok_mn.or1 (ok_mnT.or1 ok_min2)

/-! ### isinstance -/
def tyD : D → String
  | .none => "NoneType"
  | .bool _ => "bool"
  | .int _ => "int"
  | .str _ => "str"
  | .list _ => "list"
  | .tuple _ => "tuple"
  | .dict _ => "dict"
def isiD (T : String) (d : D) : Bool := T == tyD d || (T == "int" && tyD d == "bool")
theorem tyX_of {K : PySem.W.Frag} {H : Hp} {v : V} {d : D} (h : Rp H v d) : TyX K H v (.type (tyD d)) := by
  cases h with
  | non => exact .base .non
  | bl b => exact .base (.bl b)
  | int i => exact .base (.int i)
  | str x => exact .base (.str x)
  | lst hp _ => exact .base (.lst hp)
  | tup hp _ => exact .base (.tup hp)
def Tys : List String := ["list", "tuple", "bool", "str", "int"]
theorem kit_all : (["NoneType", "bool", "int", "str", "list", "tuple"].all fun a => Tys.all fun T => kitB a T == some (T == a || (T == "int" && a == "bool"))) = true := by decide +kernel
theorem kit_of' {K : PySem.W.Frag} {H : Hp} {v : V} {d : D} {T : String} (h : Rp H v d) (hT : T ∈ Tys) : PySem.W.kitOne K (.type (tyD d)) (.type T) = some (isiD T d) := by
  refine kit_ty ?_
  have ha : tyD d ∈ ["NoneType", "bool", "int", "str", "list", "tuple"] := by cases h <;> simp [tyD]
  have := List.all_eq_true.mp kit_all _ ha
  have := List.all_eq_true.mp this _ hT
  exact eq_of_beq this
def eIsi (Ts : List String) (f : ED) : ED := fun ρ S => (f ρ S).bind fun x => (rd x.2 (frz x.1)).bind fun a => some (.w (.d (.bool (Ts.any fun T => isiD T a))), x.2)
theorem ped_isi1 {p pos2 : Pos} {T : String} {y : Str} (hg : Gl X "isinstance") (hm : X.mg "isinstance" = none) (ha : PEd X a fa) (gT : Gl X y) (mT : X.mg y = none) (bT : bootBuiltins y = some (.type T)) (hT : T ∈ Tys) (hn : y ≠ "__name__" := by decide) (hd : (y == ("__debug__" : Str)) = false := by decide)
    (h1 : starEach [a, .Name y pos2] X.env = (false, eval a X.env) :: starEach [.Name y pos2] X.env := by rfl) (h2 : (backTo pos (starEach [.Name y pos2] X.env)).any (·.1) = false := by rfl) : PEd X (.Call (.Name "isinstance" p) [a, .Name y pos2] [] pos) (eIsi [T] fa) :=
  PE.of (pe_callB (id := "isinstance") call_isi hg hm (by decide +kernel) (pa_cons ha (pa_cons (pe_bltn (v := .ty T) gT mT bT rfl hn hd) pa_nil) h1) (by decide) (by decide) h1 h2) fun σ H Q h => by
    obtain ⟨ρ, S, m, F, r, S', e, en, s, q⟩ := h
    obtain ⟨⟨x, S1⟩, e1, e⟩ := Option.bind_eq_some_iff.mp e
    obtain ⟨d, e2, e⟩ := Option.bind_eq_some_iff.mp e
    cases e
    refine tD_frz e1 en s fun v F1 H1 t1 h1 => ?_
    have r := rd_rp t1.sr h1 e2
    refine ⟨v, .ty T, _, _, isiD T d, rfl, by constructor, tyX_of r, kit_of' r hT, ?_⟩
    refine q _ F1 H1 t1 ?_
    rw [List.any_cons, List.any_nil, Bool.or_false]
    exact .bl _
theorem kitAny_of {K : PySem.W.Frag} {t : Value} (f : String → Bool) : ∀ {Ts : List String}, (∀ T ∈ Ts, PySem.W.kitOne K t (.type T) = some (f T)) → PySem.W.kitAny K t (Ts.map Value.type) = some (Ts.any f)
  | [], _ => kitAny_nil
  | T :: Ts, h => by
    have ih := kitAny_of f (Ts := Ts) fun U hU => h U (List.mem_cons_of_mem _ hU)
    rw [List.map_cons, List.any_cons]
    refine kitAny_cons (h T (by simp)) (fun e => ?_) (fun e => ?_)
    · rw [e, Bool.false_or]; exact ih
    · rw [e, Bool.true_or]
theorem ped_isi2 {p p1 p2 p3 : Pos} {T U : String} {y z : Str} {k2} (hg : Gl X "isinstance") (hm : X.mg "isinstance" = none) (ha : PEd X a fa) (gT : Gl X y) (mT : X.mg y = none) (bT : bootBuiltins y = some (.type T)) (hT : T ∈ Tys)
    (gU : Gl X z) (mU : X.mg z = none) (bU : bootBuiltins z = some (.type U)) (hU : U ∈ Tys) (hn : y ≠ "__name__" := by decide) (hd : (y == ("__debug__" : Str)) = false := by decide) (hn2 : z ≠ "__name__" := by decide) (hd2 : (z == ("__debug__" : Str)) = false := by decide)
    (h1 : starEach [a, .Tuple [.Name y p1, .Name z p2] k2 p3] X.env = (false, eval a X.env) :: starEach [.Tuple [.Name y p1, .Name z p2] k2 p3] X.env := by rfl) (h2 : (backTo pos (starEach [.Tuple [.Name y p1, .Name z p2] k2 p3] X.env)).any (·.1) = false := by rfl)
    (h3 : starEach [.Name y p1, .Name z p2] X.env = (false, eval (.Name y p1) X.env) :: starEach [.Name z p2] X.env := by rfl) :
    PEd X (.Call (.Name "isinstance" p) [a, .Tuple [.Name y p1, .Name z p2] k2 p3] [] pos) (eIsi [T, U] fa) :=
  PE.of (pe_callB (id := "isinstance") call_isiT hg hm (by decide +kernel) (pa_cons ha (pa_cons (pe_tup (pa_cons (pe_bltn (v := .ty T) gT mT bT rfl hn hd) (pa_cons (pe_bltn (v := .ty U) gU mU bU rfl hn2 hd2) pa_nil) h3)) pa_nil) h1) (by decide) (by decide) h1 h2) fun σ H Q h => by
    obtain ⟨ρ, S, m, F, r, S', e, en, s, q⟩ := h
    obtain ⟨⟨x, S1⟩, e1, e⟩ := Option.bind_eq_some_iff.mp e
    obtain ⟨d, e2, e⟩ := Option.bind_eq_some_iff.mp e
    cases e
    refine tD_frz e1 en s fun v F1 H1 t1 h1 => ?_
    refine ⟨by show 2 ≤ sizeLine; decide, fun tp htp => ?_⟩
    have r := rd_rp t1.sr h1 e2
    have ex : Ex H1 (upd H1 tp (.tup [.ty T, .ty U])) := fun b o e => by rw [upd_ne (ne_of_none e htp)]; exact e
    refine ⟨v, tp, [.ty T, .ty U], .type (tyD d), [.type T, .type U], _, rfl, upd_same, .cons (.ty T) (.cons (.ty U) .nil), tyX_of (Rp.mono ex _ _ r), kitAny_of (Ts := [T, U]) (fun T => isiD T d) (fun W hW => ?_), ?_⟩
    · rcases List.mem_cons.mp hW with rfl | hW
      · exact kit_of' r hT
      · rw [List.mem_singleton.mp hW]; exact kit_of' r hU
    · refine q _ F1 _ (t1.tr s ⟨⟨Ex.rfl', fun _ _ h => .inl h⟩, fun b o e _ => ex b o e, ⟨t1.sr.ex.tr ex, t1.sr.nd, t1.sr.len, fun i a c ha hc => ?_⟩, [], by simp, by simp⟩) (.bl _)
      have g := t1.sr.cel i a c ha hc
      cases c with
      | on ys =>
        obtain ⟨g1, us, g2, g3⟩ := g
        exact ⟨g1, us, ex _ _ g2, g3⟩
      | off ys => exact g

/-! ### methods of lists -/
abbrev KM := Sl → List Sl → Sto → Option (Rs × Sto)
def OkM (k : KM) (r : V → List V → Hp → VK → Prop) : Prop := ∀ m F H S w ws v vs res S' (Q : VK), SR m F H S → RpS m F v w → RpSs m F vs ws → k w ws S = some (res, S') → Fin m F H res S' Q → r v vs H Q
def isLs : D → Bool
  | .list _ => true
  | _ => false
def eM (k : KM) (f : ED) (g : AD) : ED := fun ρ S => (f ρ S).bind fun x => (rd x.2 (frz x.1)).bind fun d => if isLs d then (g ρ x.2).bind fun y => k (frz x.1) y.1 y.2 else none
theorem eM_of {k : KM} {r : V → List V → Hp → VK → Prop} (ok : OkM k r) {K : PySem.W.Frag} {f : ED} {g : AD} {σ : L2.St} {H : Hp} {Q : VK} (h : tD (eM k f g) σ H Q) : tBM K "list" r (tD f) (tA g) σ H Q := by
  obtain ⟨ρ, S, m, F, res, S', e, en, s, q⟩ := h
  obtain ⟨⟨x, S1⟩, e1, e⟩ := Option.bind_eq_some_iff.mp e
  obtain ⟨d, e2, e⟩ := Option.bind_eq_some_iff.mp e
  split at e
  · rename_i hd
    obtain ⟨⟨y, S2⟩, e3, e⟩ := Option.bind_eq_some_iff.mp e
    refine tD_frz e1 en s fun v F1 H1 t1 h1 => ?_
    have r1 := rd_rp t1.sr h1 e2
    refine ⟨?_, ρ, S1, m, F1, y, S2, e3, en.stp t1, t1.sr, fun vs F2 H2 t2 h2 => ok m F2 H2 S2 _ y v vs res S' Q t2.sr (h1.mono t2.gr.ex) h2 e (Fin.tr s (t1.tr s t2) q)⟩
    cases r1 <;> simp only [isLs, reduceCtorEq] at hd
    rename_i hp hs
    exact .inl ⟨rfl, _, SqL.of hp⟩
  · cases e
/-- a cell is written -/
theorem cel_upd {m : List Addr} {F H : Hp} {S : Sto} (s : SR m F H S) {i : Nat} {p : Addr} {xs : List D} (hp : m[i]? = some p) (hS : S[i]? = some (.on xs)) {vs' : List V} {xs' : List D} (h : Rps F vs' xs') : Stp m F H m F (upd H p (.lst vs')) (S.set i (.on xs')) := by
  have inj : ∀ j, m[j]? = some p → j = i := fun j hj => by
    obtain ⟨h1, e1⟩ := List.getElem?_eq_some_iff.mp hj
    obtain ⟨h2, e2⟩ := List.getElem?_eq_some_iff.mp hp
    exact (List.getElem_inj s.nd).mp (e1.trans e2.symm)
  obtain ⟨g0, us, g1, g2⟩ := s.cel i p _ hp hS
  refine ⟨⟨Ex.rfl', fun _ _ h => .inl h⟩, fun b o e hb => ?_, ⟨fun b o e => ?_, s.nd, by rw [List.length_set]; exact s.len, fun j a c ha hc => ?_⟩, [], by simp, by simp⟩
  · rw [upd_ne (fun z => hb (by rw [z]; exact List.mem_of_getElem? hp))]; exact e
  · rw [upd_ne (ne_of_none e g0)]; exact s.ex _ _ e
  · by_cases hj : i = j
    · subst hj
      rw [ha] at hp; cases hp
      rw [List.getElem?_set_self (List.getElem?_eq_some_iff.mp hS).1] at hc
      cases hc
      exact ⟨g0, vs', upd_same, h⟩
    · rw [List.getElem?_set_ne hj] at hc
      have hap : a ≠ p := fun z => hj (inj j (by rw [← z]; exact ha)).symm
      have g := s.cel j a c ha hc
      cases c with
      | on ys =>
        obtain ⟨q1, ws, q2, q3⟩ := g
        exact ⟨q1, ws, by rw [upd_ne hap]; exact q2, q3⟩
      | off ys => exact g
/-- a live cell -/
def onC (S : Sto) : Sl → Option (Nat × List D)
  | .c i => (S[i]?).bind fun c => match c with
    | .on xs => some (i, xs)
    | .off _ => none
  | .d _ => none
  | .x _ => none
theorem onC_of {m : List Addr} {F H : Hp} {S : Sto} {w : Sl} {v : V} {i : Nat} {xs : List D} (s : SR m F H S) (h : RpS m F v w) (e : onC S w = some (i, xs)) :
    ∃ p vs, m[i]? = some p ∧ S[i]? = some (.on xs) ∧ v = .ref p ∧ H p = some (.lst vs) ∧ Rps F vs xs := by
  cases w with
  | d x => cases e
  | x a => cases e
  | c j =>
    obtain ⟨c, e1, e⟩ := Option.bind_eq_some_iff.mp e
    cases c with
    | off ys => cases e
    | on ys =>
      cases e
      obtain ⟨p, hp, rfl⟩ := h
      obtain ⟨_, vs, g1, g2⟩ := s.cel _ p _ hp e1
      exact ⟨p, vs, hp, e1, rfl, g1, g2⟩
def kApp : KM := fun w ws S => match ws with
  | [u] => (off S u).bind fun y => (dat y.1).bind fun d => (onC y.2 w).bind fun c => if c.2.length < sizeLine then some (.w (.d .none), y.2.set c.1 (.on (c.2 ++ [d]))) else none
  | _ => none
theorem ok_app : OkM kApp rAppend := by
  intro m F H S w ws v vs res S' Q s h hs e q
  unfold kApp at e
  split at e
  · rename_i u
    obtain ⟨⟨y, S1⟩, e0, e⟩ := Option.bind_eq_some_iff.mp e
    obtain ⟨d, e2, e⟩ := Option.bind_eq_some_iff.mp e
    obtain ⟨⟨i, xs⟩, e1, e⟩ := Option.bind_eq_some_iff.mp e
    obtain ⟨u', rfl, hy⟩ := hs.one
    obtain ⟨F1, t1, r1⟩ := off_ok s hy e0
    obtain ⟨p, us, hp, hS, rfl, g, r⟩ := onC_of t1.sr (h.mono t1.gr.ex) e1
    cases y with
    | c i => cases e2
    | x a => cases e2
    | d z =>
      cases e2
      split at e
      · rename_i hz
        cases e
        exact ⟨p, us, u', rfl, rfl, g, by rw [r.length]; exact hz, q _ F1 _ (t1.tr s (cel_upd t1.sr hp hS (r.app (.cons r1 .nil)))) .non⟩
      · cases e
  · cases e
def kExt : KM := fun w ws S => match ws with
  | [u] => (onC S w).bind fun c => match rd S u with
    | some (.list ys) => if c.2.length + ys.length ≤ sizeLine then some (.w (.d .none), S.set c.1 (.on (c.2 ++ ys))) else none
    | _ => none
  | _ => none
theorem ok_ext : OkM kExt rExtend := by
  intro m F H S w ws v vs res S' Q s h hs e q
  unfold kExt at e
  split at e
  · rename_i u
    obtain ⟨⟨i, xs⟩, e1, e⟩ := Option.bind_eq_some_iff.mp e
    obtain ⟨p, us, hp, hS, rfl, g, r⟩ := onC_of s h e1
    obtain ⟨v', rfl, hy⟩ := hs.one
    split at e
    · rename_i ys ey
      split at e
      · rename_i hz
        cases e
        obtain ⟨b, zs, rfl, g2, r2⟩ := rd_lst s hy ey
        exact ⟨p, b, us, zs, rfl, rfl, g, g2, by rw [r.length, r2.length]; exact hz, q _ F _ (cel_upd s hp hS (r.app r2)) .non⟩
      · cases e
    · cases e
  · cases e
def kPopAt : KM := fun w ws S => match ws with
  | [.d (.int i)] => (onC S w).bind fun c => if -(2 ^ 63) ≤ i ∧ i < 2 ^ 63 then (seqIndex? i c.2.length).bind fun k => (c.2[k]?).bind fun y => some (.w (.d y), S.set c.1 (.on (c.2.eraseIdx k))) else none
  | _ => none
theorem ok_popAt : OkM kPopAt rPopAt := by
  intro m F H S w ws v vs res S' Q s h hs e q
  unfold kPopAt at e
  split at e
  · rename_i i
    obtain ⟨⟨j, xs⟩, e1, e⟩ := Option.bind_eq_some_iff.mp e
    obtain ⟨p, us, hp, hS, rfl, g, r⟩ := onC_of s h e1
    obtain ⟨v', rfl, hy⟩ := hs.one
    split at e
    · rename_i hz
      obtain ⟨k, e2, e⟩ := Option.bind_eq_some_iff.mp e
      obtain ⟨y, e3, e⟩ := Option.bind_eq_some_iff.mp e
      cases e
      have hi : Rp F v' (.int i) := hy
      cases hi
      obtain ⟨uy, g3, r3⟩ := r.get e3
      exact ⟨p, us, i, k, uy, rfl, rfl, g, hz.1, hz.2, by rw [r.length]; exact e2, g3, q _ F _ (cel_upd s hp hS (r.erase k)) r3⟩
    · cases e
  · cases e
def kPop : KM := fun w ws S => match ws with
  | [] => (onC S w).bind fun c => (c.2[c.2.length - 1]?).bind fun y => some (.w (.d y), S.set c.1 (.on c.2.dropLast))
  | _ => none
theorem Rps.dropLast {H : Hp} {ds : List D} {vs : List V} (h : Rps H vs ds) : Rps H vs.dropLast ds.dropLast := by
  rw [List.dropLast_eq_take, List.dropLast_eq_take, h.length]
  exact h.take _
theorem ok_pop : OkM kPop rPop := by
  intro m F H S w ws v vs res S' Q s h hs e q
  unfold kPop at e
  split at e
  · obtain ⟨⟨j, xs⟩, e1, e⟩ := Option.bind_eq_some_iff.mp e
    obtain ⟨p, us, hp, hS, rfl, g, r⟩ := onC_of s h e1
    obtain ⟨y, e3, e⟩ := Option.bind_eq_some_iff.mp e
    cases e
    cases hs
    obtain ⟨uy, g3, r3⟩ := r.get e3
    exact ⟨p, us, uy, rfl, rfl, g, by rw [r.length]; exact g3, q _ F _ (cel_upd s hp hS r.dropLast) r3⟩
  · cases e
/-- the first place of an equal item -/
def fstIx (d : D) : List D → Option Nat
  | [] => none
  | x :: xs => if PyData.eqv x d then some 0 else (fstIx d xs).map (· + 1)
theorem fstIx_of {d : D} : ∀ {xs : List D} {j : Nat}, fstIx d xs = some j → ∃ z, xs[j]? = some z ∧ PyData.eqv z d = true ∧ ∀ (m : Nat) (z' : D), m < j → xs[m]? = some z' → PyData.eqv z' d = false
  | [], _, e => by cases e
  | x :: xs, j, e => by
    unfold fstIx at e
    split at e
    · rename_i h
      cases e
      exact ⟨x, rfl, h, fun m z' hm => absurd hm (Nat.not_lt_zero _)⟩
    · rename_i h
      obtain ⟨k, e1, rfl⟩ := Option.map_eq_some_iff.mp e
      obtain ⟨z, h1, h2, h3⟩ := fstIx_of e1
      refine ⟨z, by simpa using h1, h2, fun m z' hm hz => ?_⟩
      cases m with
      | zero =>
        simp at hz
        subst hz
        simpa using h
      | succ m => exact h3 m z' (by omega) (by simpa using hz)
def kIndex : KM := fun w ws S => match ws with
  | [u] => match rd S w, rd S u with
    | some (.list xs), some d => if SeqAt.shaped (.list xs) && SeqAt.shaped d then (fstIx d xs).bind fun j => some (.w (.d (.int (j : Nat))), S) else none
    | _, _ => none
  | _ => none
theorem ok_index {K : PySem.W.Frag} : OkM kIndex (rIndexD K) := by
  intro m F H S w ws v vs res S' Q s h hs e q
  unfold kIndex at e
  split at e
  · rename_i u
    split at e
    · rename_i xs d ex ed
      split at e
      · rename_i hc
        rw [Bool.and_eq_true] at hc
        obtain ⟨j, e1, e⟩ := Option.bind_eq_some_iff.mp e
        cases e
        obtain ⟨v', rfl, hy⟩ := hs.one
        obtain ⟨p, us, rfl, g, r⟩ := rd_lst s h ex
        obtain ⟨z, h1, h2, h3⟩ := fstIx_of e1
        exact ⟨p, v', d, xs, j, z, rfl, rfl, Rp.dp _ _ (.lst g (Rps.mono s.ex _ _ r)), Rp.dp _ _ (rd_rp s hy ed), hc.1, hc.2, h1, h2, h3, q _ F H (Stp.refl s) (.int _)⟩
      · cases e
    · cases e
  · cases e
variable {e : Expr} {es : List Expr} {g : AD} {apos cpos : Pos}
theorem ped_lm {name : Str} {id : String} {k : KM} {r : V → List V → Hp → VK → Prop} (slot : Slot "list" name id) (hty : typeOf (.builtin id) = pure (.type "method_descriptor")) (hm : MtR X id r) (ok : OkM k r) (ho : PEd X a fa) (ha : PAd X (e :: es) g)
    (hb : PE X (.Call (.Attribute a name apos) (e :: es) [] cpos) (tBM X.K "list" r (tD fa) (tA g))) : PEd X (.Call (.Attribute a name apos) (e :: es) [] cpos) (eM k fa g) := PE.of hb fun _ _ _ h => eM_of ok h

/-! ### calls of defs -/
def spD (f : FD) : Sp := fun vs H Q _ => ∃ m F S ws r S', RpSs m F vs ws ∧ SR m F H S ∧ f ws S = some (r, S') ∧ Fin m F H r S' Q
/-- a def that gives f's results, by calls at most k deep -/
structure Cal (P : Program) (w : World) (K : PySem.W.Frag) (mg : Str → Option Value) (base : Heap) (k : Nat) (x : Str) (ps : List Str) (f : FD) : Prop where
  ex : ∃ (a : Addr) (fd : FuncData), mg x = some (.ref a) ∧ PySem.W.keepIn K (.ref a) = true ∧ Binds K fd ps [] ∧ FnOk P w K mg base CX0 k a fd ps (spD f)
theorem spD_of {f : FD} {g : AD} {E : XK} {σ : L2.St} {H : Hp} {Q : VK} (h : tD (eN f g) σ H Q) : tCall (spD f) [] E (tA g) σ H Q := by
  obtain ⟨ρ, S, m, F, r, S', e, en, s, q⟩ := h
  obtain ⟨⟨ws, S1⟩, e1, e⟩ := Option.bind_eq_some_iff.mp e
  refine ⟨ρ, S, m, F, ws, S1, e1, en, s, fun vs F1 H1 t1 h1 => ?_⟩
  exact ⟨m, F1, S1, ws, r, S', by rw [List.append_nil]; exact h1, t1.sr, e, Fin.tr s t1 q⟩
theorem ped_call {k : Nat} {x : Str} {p : Pos} {ps : List Str} {f : FD} (C : Cal X.prog X.w X.K X.mg X.base k x ps f) (hr : Room k X.A) (hg : Gl X x) (ha : PAd X (e :: es) g) (hdb : (x == ("__debug__" : Str)) = false := by decide)
    (he : starEach (e :: es) X.env = (false, eval e X.env) :: starEach es X.env := by rfl) (hpl : (backTo pos (starEach es X.env)).any (·.1) = false := by rfl) : PEd X (.Call (.Name x p) (e :: es) [] pos) (eN f g) := by
  obtain ⟨fa, fd, hm, hk, hb, F⟩ := C.ex
  exact PE.of (pe_call F hr hg hm hk hb .nil pass0 ha hdb he hpl) fun _ _ _ h => spD_of h
end DL

set_option Elab.async false
set_option linter.all false
set_option maxRecDepth 100000
set_option maxHeartbeats 4000000
namespace DL
open PySem L2
variable {X : Cx} {e : Expr} {f : ED} {pos : Pos}

/-! ### statements -/
def OutK (m : List Addr) (F H : Hp) (Dn : Ends) : Out → Prop
  | .nx ρ' S' => ∀ m' F' H' σ', Stp m F H m' F' H' S' → EnR m' F' σ' ρ' → Dn.nx σ' H'
  | .bk ρ' S' => ∀ m' F' H' σ', Stp m F H m' F' H' S' → EnR m' F' σ' ρ' → Dn.bk σ' H'
  | .ct ρ' S' => ∀ m' F' H' σ', Stp m F H m' F' H' S' → EnR m' F' σ' ρ' → Dn.ct σ' H'
  | .rt r S' => ∀ m' F' H' v, Stp m F H m' F' H' S' → RpR m' F' H H' v r → Dn.rt v H'
def tS (b : SD) : TS := fun Dn σ H => ∃ ρ S m F o, b ρ S = some o ∧ EnR m F σ ρ ∧ SR m F H S ∧ OutK m F H Dn o
abbrev PSd (X : Cx) (st : Stmt) (b : SD) : Prop := PS X st (tS b)
abbrev PSsd (X : Cx) (st : List Stmt) (b : SD) : Prop := PSs X st (tS b)
theorem OutK.tr {m m1 : List Addr} {F H F1 H1 : Hp} {S S1 : Sto} {Dn : Ends} {o : Out} (s : SR m F H S) (t : Stp m F H m1 F1 H1 S1) (q : OutK m F H Dn o) : OutK m1 F1 H1 Dn o := by
  cases o with
  | nx ρ S' => exact fun m' F' H' σ' u en => q m' F' H' σ' (t.tr s u) en
  | bk ρ S' => exact fun m' F' H' σ' u en => q m' F' H' σ' (t.tr s u) en
  | ct ρ S' => exact fun m' F' H' σ' u en => q m' F' H' σ' (t.tr s u) en
  | rt r S' => exact fun m' F' H' v u h => q m' F' H' v (t.tr s u) (h.back s t)
def bNil : SD := fun ρ S => some (.nx ρ S)
def bSeq (b c : SD) : SD := fun ρ S => (b ρ S).bind fun o => match o with
  | .nx ρ' S' => c ρ' S'
  | .bk ρ' S' => some (.bk ρ' S')
  | .ct ρ' S' => some (.ct ρ' S')
  | .rt r S' => some (.rt r S')
theorem pssd_nil : PSsd X [] bNil := PSs.of pss_nil fun Dn σ H h => by
  obtain ⟨ρ, S, m, F, o, e, en, s, q⟩ := h
  cases e
  exact q m F H σ (Stp.refl s) en
theorem bSeq_of {b c : SD} {Dn : Ends} {σ : L2.St} {H : Hp} (h : tS (bSeq b c) Dn σ H) : tSeq (tS b) (tS c) Dn σ H := by
  obtain ⟨ρ, S, m, F, o, e, en, s, q⟩ := h
  obtain ⟨o1, e1, e⟩ := Option.bind_eq_some_iff.mp e
  refine ⟨ρ, S, m, F, o1, e1, en, s, ?_⟩
  cases o1 with
  | nx ρ' S' => exact fun m' F' H' σ' u en' => ⟨ρ', S', m', F', o, e, en', u.sr, q.tr s u⟩
  | bk ρ' S' => cases e; exact q
  | ct ρ' S' => cases e; exact q
  | rt r S' => cases e; exact q
theorem pssd_cons {st : Stmt} {rest : List Stmt} {b c : SD} (h1 : PSd X st b) (h2 : PSsd X rest c) : PSsd X (st :: rest) (bSeq b c) := PSs.of (pss_cons h1 h2) fun _ _ _ h => bSeq_of h
theorem pssd_one {st : Stmt} {b : SD} (h1 : PSd X st b) : PSsd X [st] b := pss_one h1
def bNev : SD := fun _ _ => none
theorem psd_never {st : Stmt} : PSd X st bNev := PS.of ps_never fun Dn σ H h => by
  obtain ⟨ρ, S, m, F, o, e, _⟩ := h
  cases e
theorem psd_pass : PSd X (.Pass pos) bNil := PS.of ps_pass fun Dn σ H h => by
  obtain ⟨ρ, S, m, F, o, e, en, s, q⟩ := h
  cases e
  exact q m F H σ (Stp.refl s) en
def bBrk : SD := fun ρ S => some (.bk ρ S)
def bCnt : SD := fun ρ S => some (.ct ρ S)
theorem psd_break : PSd X (.Break pos) bBrk := PS.of ps_break fun Dn σ H h => by
  obtain ⟨ρ, S, m, F, o, e, en, s, q⟩ := h
  cases e
  exact q m F H σ (Stp.refl s) en
theorem psd_continue : PSd X (.Continue pos) bCnt := PS.of ps_continue fun Dn σ H h => by
  obtain ⟨ρ, S, m, F, o, e, en, s, q⟩ := h
  cases e
  exact q m F H σ (Stp.refl s) en
def bX (f : ED) : SD := fun ρ S => (f ρ S).bind fun x => some (.nx ρ x.2)
theorem psd_expr (he : PEd X e f) (hs : swapsWith e none pos.line X.env = pure false := by rfl) : PSd X (.Expr e pos) (bX f) := PS.of (ps_expr he hs) fun Dn σ H h => by
  obtain ⟨ρ, S, m, F, o, e, en, s, q⟩ := h
  obtain ⟨⟨x, S1⟩, e1, e⟩ := Option.bind_eq_some_iff.mp e
  cases e
  exact ⟨ρ, S, m, F, x, S1, e1, en, s, fun v F1 H1 t1 h1 => q m F1 H1 σ t1 (en.stp t1)⟩
def bRet (f : ED) : SD := fun ρ S => (f ρ S).bind fun x => some (.rt x.1 x.2)
theorem psd_ret (he : PEd X e f) : PSd X (.Return (some e) pos) (bRet f) := PS.of (ps_ret he) fun Dn σ H h => by
  obtain ⟨ρ, S, m, F, o, e, en, s, q⟩ := h
  obtain ⟨⟨x, S1⟩, e1, e⟩ := Option.bind_eq_some_iff.mp e
  cases e
  exact ⟨ρ, S, m, F, x, S1, e1, en, s, fun v F1 H1 t1 h1 => q m F1 H1 v t1 h1⟩
def bRetN : SD := fun _ S => some (.rt (.w (.d .none)) S)
theorem psd_retN : PSd X (.Return none pos) bRetN := PS.of ps_retN fun Dn σ H h => by
  obtain ⟨ρ, S, m, F, o, e, en, s, q⟩ := h
  cases e
  exact q m F H .non (Stp.refl s) .non
def bIf (t : BD) (b c : SD) : SD := fun ρ S => (t ρ S).bind fun x => if x.1 then b ρ x.2 else c ρ x.2
theorem psd_if {c : Expr} {p r : List Stmt} {t : BD} {b d : SD} (hc : PTd X c t) (ha : PSsd X p b) (hb : PSsd X r d) : PSd X (.If c p r pos) (bIf t b d) := PS.of (ps_if hc ha hb) fun Dn σ H h => by
  obtain ⟨ρ, S, m, F, o, e, en, s, q⟩ := h
  obtain ⟨⟨x, S1⟩, e1, e⟩ := Option.bind_eq_some_iff.mp e
  refine ⟨ρ, S, m, F, x, S1, e1, en, s, fun F1 H1 t1 => ?_⟩
  cases x with
  | true =>
    rw [if_pos rfl] at e ⊢
    exact ⟨ρ, S1, m, F1, o, e, en.stp t1, t1.sr, q.tr s t1⟩
  | false =>
    rw [if_neg (by simp)] at e ⊢
    exact ⟨ρ, S1, m, F1, o, e, en.stp t1, t1.sr, q.tr s t1⟩
/-! x = e: as data, or (a new list) as a cell -/
def bSet (i : Nat) (f : ED) : SD := fun ρ S => (f ρ S).bind fun x => some (.nx (ρ.set i (some (frz x.1))) x.2)
def bSetC (i : Nat) (f : ED) : SD := fun ρ S => (f ρ S).bind fun x => match x.1 with
  | .fr xs => some (.nx (ρ.set i (some (.c x.2.length))) (x.2 ++ [.on xs]))
  | .w _ => none
/-- a new list is a cell from now on -/
theorem new_cell {m : List Addr} {F H F1 H1 : Hp} {S1 : Sto} {v : V} {xs : List D} (t1 : Stp m F H m F1 H1 S1) (h1 : RpR m F1 H H1 v (.fr xs)) : ∃ m', Stp m F H m' F1 H1 (S1 ++ [.on xs]) ∧ RpS m' F1 v (.c S1.length) := by
  obtain ⟨p, vs, rfl, g1, g2, g3, g4, g5⟩ := h1
  have hl := t1.sr.len
  refine ⟨m ++ [p], ⟨⟨t1.gr.ex, t1.gr.new⟩, t1.kp, ⟨t1.sr.ex, ?_, by simp [hl], fun i a c ha hc => ?_⟩, [p], rfl, by simp [g1]⟩, ⟨p, ?_, rfl⟩⟩
  · rw [List.nodup_append]
    refine ⟨t1.sr.nd, by simp, fun a ha b hb => ?_⟩
    rw [List.mem_singleton.mp hb]
    intro z; exact g3 (z ▸ ha)
  · by_cases hi : i < m.length
    · rw [List.getElem?_append_left hi] at ha
      rw [List.getElem?_append_left (by rw [← hl]; exact hi)] at hc
      exact t1.sr.cel i a c ha hc
    · rw [List.getElem?_append_right (by omega)] at ha
      rw [List.getElem?_append_right (by rw [← hl]; omega)] at hc
      have h0 : i - m.length = 0 := by
        have := (List.getElem?_eq_some_iff.mp ha).1
        simp at this
        omega
      rw [h0] at ha
      rw [← hl, h0] at hc
      cases ha; cases hc
      exact ⟨g2, vs, g4, g5⟩
  · rw [← hl, List.getElem?_append_right (Nat.le_refl _), Nat.sub_self]
    rfl
theorem bSet_of {i : Nat} {f : ED} {Dn : Ends} {σ : L2.St} {H : Hp} (h : tS (bSet i f) Dn σ H) : tAsg (tD f) (gName i) Dn σ H := by
  obtain ⟨ρ, S, m, F, o, e, en, s, q⟩ := h
  obtain ⟨⟨x, S1⟩, e1, e⟩ := Option.bind_eq_some_iff.mp e
  cases e
  exact tD_frz e1 en s fun v F1 H1 t1 h1 => q m F1 H1 _ t1 ((en.stp t1).set i h1)
theorem bSetC_of {i : Nat} {f : ED} {Dn : Ends} {σ : L2.St} {H : Hp} (h : tS (bSetC i f) Dn σ H) : tAsg (tD f) (gName i) Dn σ H := by
  obtain ⟨ρ, S, m, F, o, e, en, s, q⟩ := h
  obtain ⟨⟨x, S1⟩, e1, e⟩ := Option.bind_eq_some_iff.mp e
  refine ⟨ρ, S, m, F, x, S1, e1, en, s, fun v F1 H1 t1 h1 => ?_⟩
  cases x with
  | w z => cases e
  | fr xs =>
    cases e
    obtain ⟨m', t', h'⟩ := new_cell t1 h1
    exact q m' F1 H1 _ t' ((en.stp t').set i h')
section
variable {i : Nat} {x : Str} {pos' : Pos}
theorem psd_set (hN : X.N.Nodup) (hi : X.N[i]? = some x) (hx : Loc X.env.scope x) (he : PEd X e f) (hs : swapsWith e (some (.Name x pos')) pos.line X.env = pure false := by rfl) (hf : X.fn x = true ∨ X.env.scope.names.lookup x = some .local := by first | exact .inl rfl | exact .inr rfl | assumption) :
    PSd X (.Assign [.Name x pos'] e pos) (bSet i f) := PS.of (ps_set hN hi hx he hs hf) fun _ _ _ h => bSet_of h
theorem psd_setC (hN : X.N.Nodup) (hi : X.N[i]? = some x) (hx : Loc X.env.scope x) (he : PEd X e f) (hs : swapsWith e (some (.Name x pos')) pos.line X.env = pure false := by rfl) (hf : X.fn x = true ∨ X.env.scope.names.lookup x = some .local := by first | exact .inl rfl | exact .inr rfl | assumption) :
    PSd X (.Assign [.Name x pos'] e pos) (bSetC i f) := PS.of (ps_set hN hi hx he hs hf) fun _ _ _ h => bSetC_of h
/-- x op= e -/
def bAug (i : Nat) (k : K2) (f : ED) : SD := fun ρ S => (ρ.getD i none).bind fun w => (f ρ S).bind fun x => (k w (frz x.1) x.2).bind fun z => some (.nx (ρ.set i (some (frz z.1))) z.2)
theorem psd_aug {op : Operator} {k : K2} {r : R2} (hN : X.N.Nodup) (hi : X.N[i]? = some x) (hx : Loc X.env.scope x) (he : PEd X e f) (ho : OpR X (inplaceOp op) r) (ok : Ok2 k r) (hf : X.fn x = true ∨ X.env.scope.names.lookup x = some .local := by first | exact .inl rfl | exact .inr rfl | assumption) :
    PSd X (.AugAssign (.Name x pos') op e pos) (bAug i k f) := PS.of (ps_aug hN hi hx he ho hf) fun Dn σ H h => by
  obtain ⟨ρ, S, m, F, o, e, en, s, q⟩ := h
  obtain ⟨w, e0, e⟩ := Option.bind_eq_some_iff.mp e
  obtain ⟨⟨y, S1⟩, e1, e⟩ := Option.bind_eq_some_iff.mp e
  obtain ⟨⟨z, S2⟩, e2, e⟩ := Option.bind_eq_some_iff.mp e
  cases e
  have hw' : ρ[i]? = some (some w) := by
    rw [List.getD_eq_getElem?_getD] at e0
    cases hi : ρ[i]? with
    | none => rw [hi] at e0; cases e0
    | some z => rw [hi] at e0; have e0 : z = some w := e0; rw [e0]
  obtain ⟨v, hv, rv⟩ := en.get i w hw'
  refine ⟨v, hv, tD_frz e1 en s fun u F1 H1 t1 h1 => ?_⟩
  refine ok m F1 H1 S1 _ _ v u z S2 _ t1.sr (rv.mono t1.gr.ex) h1 e2 fun vz F2' H2 t2' h2' => ?_
  obtain ⟨F2, t2, h2⟩ := t2'.frz h2'
  have t12 := t1.tr s t2
  exact q m F2 H2 _ t12 ((en.stp t12).set i h2)
end
theorem ok_iadd : Ok2 (k2D (oI fun i j => i + j)) (rI0 fun i j => .int (i + j)) := ok_oI
def cMul64 (i j : Int) : Bool := (decide (-(2 ^ 64) < i) && decide (i < 2 ^ 64)) || (decide (-(2 ^ 64) < j) && decide (j < 2 ^ 64))
theorem ok_imul : Ok2 (k2D (oIc cMul64 fun i j => i * j)) (rI CMul fun i j => .int (i * j)) := ok_oIc fun i j h => by
  simp only [cMul64, Bool.or_eq_true, Bool.and_eq_true, decide_eq_true_eq] at h
  exact h
def cDiv30 (_ j : Int) : Bool := decide (0 < j) && decide (j < 1073741824)
theorem ok_ifdiv : Ok2 (k2D (oIc cDiv30 fun i j => i / j)) (rI CDiv fun i j => .int (i / j)) := ok_oIc fun i j h => by
  simp only [cDiv30, Bool.and_eq_true, decide_eq_true_eq] at h
  exact h
/-! several targets -/
/-- stores at places, from the left; the same number of each -/
def setAll : List Nat → List D → En → Option En
  | [], [], ρ => some ρ
  | i :: is, d :: ds, ρ => setAll is ds (ρ.set i (some (.d d)))
  | _, _, _ => none
def tGs (is : List Nat) : TGs := fun vs σ H Q => ∃ ρ m F ds ρ', setAll is ds ρ = some ρ' ∧ EnR m F σ ρ ∧ Rps F vs ds ∧ ∀ σ', EnR m F σ' ρ' → Q σ' H
theorem PGs.of {ts : List Expr} {t u : TGs} (h : PGs X ts t) (k : ∀ vs σ H Q, u vs σ H Q → t vs σ H Q) : PGs X ts u := ⟨fun pins s σ H vs us Q I r q => h.run pins s σ H vs us Q I r (k vs σ H Q q)⟩
theorem pgsd_nil : PGs X [] (tGs []) := PGs.of pgs_nil fun vs σ H Q h => by
  obtain ⟨ρ, m, F, ds, ρ', e, en, r, q⟩ := h
  cases ds with
  | nil =>
    cases e
    cases r
    exact ⟨rfl, q σ en⟩
  | cons d ds => cases e
theorem pgsd_cons {i : Nat} {is : List Nat} {x : Str} {pp : Pos} {es : List Expr} (h1 : PG X (.Name x pp) (gName i)) (h2 : PGs X es (tGs is)) (hs : (assignEach (.Name x pp :: es) X.env).map (·.2) = assign (.Name x pp) X.env :: (assignEach es X.env).map (·.2) := by rfl) : PGs X (.Name x pp :: es) (tGs (i :: is)) :=
  PGs.of (pgs_cons h1 h2 hs) fun vs σ H Q h => by
    obtain ⟨ρ, m, F, ds, ρ', e, en, r, q⟩ := h
    cases ds with
    | nil => cases e
    | cons d ds =>
      cases r with
      | cons r1 r2 =>
        exact ⟨_, _, rfl, ρ.set i (some (.d d)), m, F, ds, ρ', e, en.set i (w := .d d) r1, r2, q⟩
def bUnp (is : List Nat) (f : ED) : SD := fun ρ S => (f ρ S).bind fun x => (rd x.2 (frz x.1)).bind fun d => match d with
  | .tuple ds => (setAll is ds ρ).bind fun ρ' => some (.nx ρ' x.2)
  | _ => none
theorem setAll_len : ∀ {is : List Nat} {ds : List D} {ρ ρ' : En}, setAll is ds ρ = some ρ' → ds.length = is.length
  | [], [], _, _, _ => rfl
  | [], _ :: _, _, _, e => by cases e
  | _ :: _, [], _, _, e => by cases e
  | i :: is, d :: ds, ρ, ρ', e => by simp [setAll_len (is := is) (ds := ds) e]
theorem psd_unp {es : List Expr} {is : List Nat} {k : Nat} {p2 : Pos} (hc : X.calm = true) (he : PEd X e f) (hg : PGs X es (tGs is)) (hn : (assignEach es X.env).length = is.length := by rfl) (hst : (assignEach es X.env).findIdx? (·.1) = none := by rfl)
    (hs : swapsWithSole [.Tuple es k p2] e pos.line X.env = pure false := by rfl) (hw : swappedStores [.Tuple es k p2] e X.env = pure none := by rfl) (h1 : (assignEach [.Tuple es k p2] X.env).map (·.2) = [assign (.Tuple es k p2) X.env] := by rfl) :
    PSd X (.Assign [.Tuple es k p2] e pos) (bUnp is f) := PS.of (ps_asg he (pg_tup hc hg hn hst) hs hw h1) fun Dn σ H h => by
  obtain ⟨ρ, S, m, F, o, e, en, s, q⟩ := h
  obtain ⟨⟨x, S1⟩, e1, e⟩ := Option.bind_eq_some_iff.mp e
  obtain ⟨d, e2, e⟩ := Option.bind_eq_some_iff.mp e
  cases d <;> simp only [reduceCtorEq] at e
  rename_i ds
  obtain ⟨ρ', e3, e⟩ := Option.bind_eq_some_iff.mp e
  cases e
  refine tD_frz e1 en s fun v F1 H1 t1 h1 => ?_
  obtain ⟨a, vs, rfl, _, g, r⟩ := rd_tup t1.sr h1 e2
  exact ⟨a, vs, rfl, SqT.of g, by rw [r.length]; exact setAll_len e3, ρ, m, F1, ds, ρ', e3, en.stp t1, r, fun σ' en' => q m F1 H1 σ' t1 en'⟩
/-- a, b = x, y: no tuple is made -/
def bPar (i j : Nat) (f : AD) : SD := fun ρ S => (f ρ S).bind fun x => match x.1 with
  | [v, w] => some (.nx ((ρ.set i (some v)).set j (some w)) x.2)
  | _ => none
theorem psd_par {i j : Nat} {x y : Str} {a b : Expr} {g : AD} {px py pt : Pos} {kt k2 pt2} (hc : X.calm = true) (hN : X.N.Nodup) (hi : X.N[i]? = some x) (hj : X.N[j]? = some y) (hij : i ≠ j)
    (hx : X.env.scope.names.lookup x = some .local) (hy : X.env.scope.names.lookup y = some .local) (ha : PAd X [a, b] g)
    (hw : swappedStores [.Tuple [.Name x px, .Name y py] kt pt] (.Tuple [a, b] k2 pt2) X.env = pure (some [x, y]))
    (hs : swapsWithSole [.Tuple [.Name x px, .Name y py] kt pt] (.Tuple [a, b] k2 pt2) pos.line X.env = pure false := by rfl) :
    PSd X (.Assign [.Tuple [.Name x px, .Name y py] kt pt] (.Tuple [a, b] k2 pt2) pos) (bPar i j g) := PS.of (ps_par hc hN hi hj hij hx hy ha hw hs) fun Dn σ H h => by
  obtain ⟨ρ, S, m, F, o, e, en, s, q⟩ := h
  obtain ⟨⟨ws, S1⟩, e1, e⟩ := Option.bind_eq_some_iff.mp e
  refine ⟨ρ, S, m, F, ws, S1, e1, en, s, fun vs F1 H1 t1 h1 => ?_⟩
  match ws, e with
  | [v, w], e =>
    cases e
    obtain ⟨v', w', rfl, r1, r2⟩ := h1.two
    exact ⟨v', w', rfl, q m F1 H1 _ t1 (((en.stp t1).set i r1).set j r2)⟩
def bPar3 (i j l : Nat) (f : AD) : SD := fun ρ S => (f ρ S).bind fun x => match x.1 with
  | [u, v, w] => some (.nx (((ρ.set i (some u)).set j (some v)).set l (some w)) x.2)
  | _ => none
theorem RpSs.three {m : List Addr} {F : Hp} {vs : List V} {w u z : Sl} (h : RpSs m F vs [w, u, z]) : ∃ v v' v2, vs = [v, v', v2] ∧ RpS m F v w ∧ RpS m F v' u ∧ RpS m F v2 z := by
  cases h with
  | cons h1 h2 =>
    obtain ⟨v', v2, rfl, h3, h4⟩ := h2.two
    exact ⟨_, _, _, rfl, h1, h3, h4⟩
theorem psd_par3 {i j l : Nat} {x y z : Str} {a b c : Expr} {g : AD} {px py pz pt : Pos} {kt k2 pt2} (hc : X.calm = true) (hN : X.N.Nodup) (hi : X.N[i]? = some x) (hj : X.N[j]? = some y) (hl : X.N[l]? = some z) (hij : i ≠ j) (hil : i ≠ l) (hjl : j ≠ l)
    (hx : X.env.scope.names.lookup x = some .local) (hy : X.env.scope.names.lookup y = some .local) (hz : X.env.scope.names.lookup z = some .local) (ha : PAd X [a, b, c] g)
    (hw : swappedStores [.Tuple [.Name x px, .Name y py, .Name z pz] kt pt] (.Tuple [a, b, c] k2 pt2) X.env = pure (some [x, y, z]))
    (hs : swapsWithSole [.Tuple [.Name x px, .Name y py, .Name z pz] kt pt] (.Tuple [a, b, c] k2 pt2) pos.line X.env = pure false := by rfl) :
    PSd X (.Assign [.Tuple [.Name x px, .Name y py, .Name z pz] kt pt] (.Tuple [a, b, c] k2 pt2) pos) (bPar3 i j l g) := PS.of (ps_par3 hc hN hi hj hl hij hil hjl hx hy hz ha hw hs) fun Dn σ H h => by
  obtain ⟨ρ, S, m, F, o, e, en, s, q⟩ := h
  obtain ⟨⟨ws, S1⟩, e1, e⟩ := Option.bind_eq_some_iff.mp e
  refine ⟨ρ, S, m, F, ws, S1, e1, en, s, fun vs F1 H1 t1 h1 => ?_⟩
  match ws, e with
  | [u, v, w], e =>
    cases e
    obtain ⟨u', v', w', rfl, r1, r2, r3⟩ := h1.three
    exact ⟨u', v', w', rfl, q m F1 H1 _ t1 ((((en.stp t1).set i r1).set j r2).set l r3)⟩
/-! x[i] = e -/
def bSetIx (fo fi fe : ED) : SD := fun ρ S => (fe ρ S).bind fun x => (fo ρ x.2).bind fun y => (fi ρ y.2).bind fun z => (dat (frz x.1)).bind fun d => (rd z.2 (frz z.1)).bind fun iv => (intD iv).bind fun i =>
  (onC z.2 (frz y.1)).bind fun c => (ixN c.2.length i).bind fun j => some (.nx ρ (z.2.set c.1 (.on (c.2.set j d))))
theorem psd_setIx {o ix : Expr} {fo fi fe : ED} {p2 : Pos} (he : PEd X e fe) (ho : PEd X o fo) (hi : PEd X ix fi)
    (ha : ∀ v, assign (.Subscript o ix p2) X.env v = (do
      let ov ← holding [v] (eval o X.env)
      let iv ← holding [v, ov] (eval ix X.env)
      standAt p2
      holding [v, ov, iv] (setItem ov iv v)
      release [v, ov, iv] []) := by intro _; rfl)
    (hs : swapsWithSole [.Subscript o ix p2] e pos.line X.env = pure false := by rfl) (hw : swappedStores [.Subscript o ix p2] e X.env = pure none := by rfl) (h1 : (assignEach [.Subscript o ix p2] X.env).map (·.2) = [assign (.Subscript o ix p2) X.env] := by rfl) :
    PSd X (.Assign [.Subscript o ix p2] e pos) (bSetIx fo fi fe) := PS.of (ps_asg he (pg_sub ho hi set_list ha) hs hw h1) fun Dn σ H h => by
  obtain ⟨ρ, S, m, F, o, e, en, s, q⟩ := h
  obtain ⟨⟨x, S1⟩, e1, e⟩ := Option.bind_eq_some_iff.mp e
  obtain ⟨⟨y, S2⟩, e2, e⟩ := Option.bind_eq_some_iff.mp e
  obtain ⟨⟨z, S3⟩, e3, e⟩ := Option.bind_eq_some_iff.mp e
  obtain ⟨d, e4, e⟩ := Option.bind_eq_some_iff.mp e
  obtain ⟨iv, e5, e⟩ := Option.bind_eq_some_iff.mp e
  obtain ⟨i, e6, e⟩ := Option.bind_eq_some_iff.mp e
  obtain ⟨⟨c, xs⟩, e7, e⟩ := Option.bind_eq_some_iff.mp e
  obtain ⟨j, e8, e⟩ := Option.bind_eq_some_iff.mp e
  cases e
  refine tD_frz e1 en s fun v F1 H1 t1 h1 => ?_
  refine tD_frz e2 (en.stp t1) t1.sr fun u F2 H2 t2 h2 => ?_
  have t12 := t1.tr s t2
  refine tD_frz e3 (en.stp t12) t2.sr fun w F3 H3 t3 h3 => ?_
  have t13 := t12.tr s t3
  obtain ⟨p, vs, hp, hS, rfl, g, r⟩ := onC_of t3.sr (h2.mono t3.gr.ex) e7
  have ri := rd_rp t3.sr h3 e5
  cases ri <;> simp only [intD, reduceCtorEq, Option.some.injEq] at e6
  subst e6
  have rd' : Rp F3 v d := by
    have h1' := h1.mono (t2.gr.ex.tr t3.gr.ex)
    cases hx : frz x with
    | d y => rw [hx] at e4 h1'; cases e4; exact h1'
    | c y => rw [hx] at e4; cases e4
    | x y => rw [hx] at e4; cases e4
  refine ⟨p, vs, _, j, rfl, rfl, g, by rw [r.length]; exact e8, ?_⟩
  have t4 := cel_upd t3.sr hp hS (r.set rd' j)
  exact q m F3 _ σ (t13.tr s t4) (en.stp (t13.tr s t4))

/-! ### a def -/
def retC (n : Nat) (r : Rs) (S : Sto) : Option (Rs × Sto) := match r with
  | .fr xs => some (.fr xs, S.take n)
  | .w (.d y) => some (.w (.d y), S.take n)
  | .w (.x a) => some (.w (.x a), S.take n)
  | .w (.c i) => if i < n then some (.w (.c i), S.take n) else (S[i]?).bind fun c => match c with
    | .on xs => some (.fr xs, S.take n)
    | .off xs => some (.w (.d (.list xs)), S.take n)
/-- np parameters of n names, a body -/
def den (np n : Nat) (b : SD) : FD := fun ws S => if ws.length = np then (b (ws.map some ++ List.replicate (n - np) none) S).bind fun o => match o with
  | .rt r S' => retC S.length r S'
  | .nx _ S' => some (.w (.d .none), S'.take S.length)
  | _ => none else none
theorem SR.take {m l : List Addr} {F H : Hp} {S : Sto} (s : SR (m ++ l) F H S) : SR m F H (S.take m.length) := by
  have hl : m.length ≤ S.length := by rw [← s.len, List.length_append]; exact Nat.le_add_right _ _
  refine ⟨s.ex, (List.nodup_append.mp s.nd).1, by rw [List.length_take]; omega, fun i a c ha hc => ?_⟩
  have hi := (List.getElem?_eq_some_iff.mp ha).1
  refine s.cel i a c (by rw [List.getElem?_append_left hi]; exact ha) ?_
  rw [List.getElem?_take] at hc
  rw [if_pos hi] at hc
  exact hc
theorem Stp.take {m m' : List Addr} {F H F' H' : Hp} {S S' : Sto} (s : SR m F H S) (t : Stp m F H m' F' H' S') : Stp m F H m F' H' (S'.take S.length) := by
  obtain ⟨l, rfl, n⟩ := t.more
  refine ⟨t.gr, t.kp, ?_, [], by simp, by simp⟩
  rw [← s.len]
  exact t.sr.take
theorem retC_ok {m m' : List Addr} {F H F' H' : Hp} {S S' : Sto} {r : Rs} {v : V} {res : Rs × Sto} (s : SR m F H S) (t : Stp m F H m' F' H' S') (h : RpR m' F' H H' v r) (e : retC S.length r S' = some res) :
    Stp m F H m F' H' res.2 ∧ RpR m F' H H' v res.1 := by
  have tt := t.take s
  have hm := t.more
  cases r with
  | fr xs =>
    cases e
    obtain ⟨p, vs, h0, h1, h2, h3, h4⟩ := h
    exact ⟨tt, p, vs, h0, h1, h2, s.out h1, h4⟩
  | w x =>
    cases x with
    | d y => cases e; exact ⟨tt, h⟩
    | x a => cases e; exact ⟨tt, h⟩
    | c i =>
      obtain ⟨a, ha, rfl⟩ := h
      have e : (if i < S.length then some (Rs.w (.c i), S'.take S.length) else (S'[i]?).bind fun c => match c with
        | .on xs => some (.fr xs, S'.take S.length)
        | .off xs => some (.w (.d (.list xs)), S'.take S.length)) = some res := e
      obtain ⟨l, rfl, hn⟩ := hm
      split at e
      · rename_i hi
        cases e
        refine ⟨tt, a, ?_, rfl⟩
        rw [← s.len] at hi
        rw [List.getElem?_append_left hi] at ha
        exact ha
      · rename_i hi
        rw [← s.len] at hi
        obtain ⟨c, e1, e⟩ := Option.bind_eq_some_iff.mp e
        have g := t.sr.cel i a c ha e1
        have hal : a ∈ l := by
          rw [List.getElem?_append_right (by omega)] at ha
          exact List.mem_of_getElem? ha
        cases c with
        | on xs =>
          cases e
          obtain ⟨g0, vs, g1, g2⟩ := g
          exact ⟨tt, a, vs, rfl, hn a hal, g0, s.out (hn a hal), g1, g2⟩
        | off xs =>
          cases e
          obtain ⟨vs, g1, g2⟩ := g
          exact ⟨tt, .lst g1 g2⟩
theorem start_len {N ps : List Str} {sc : Scope} (S : FnScope N ps sc) : ps.length ≤ N.length := by
  have := S.pre
  have h2 := congrArg List.length this
  rw [List.length_take] at h2
  omega
theorem start_enr {m : List Addr} {F : Hp} {N : List Str} {vs : List V} {ws : List Sl} {np : Nat} (h : RpSs m F vs ws) (hn : ws.length = np) : EnR m F (L2.start N vs) (ws.map some ++ List.replicate (N.length - np) none) := by
  have hl := h.length
  refine ⟨by unfold L2.start; simp [hl, hn], fun i w q => ?_⟩
  by_cases hi : i < ws.length
  · rw [List.getElem?_append_left (by simpa using hi), List.getElem?_map] at q
    obtain ⟨w', e1, e2⟩ := Option.map_eq_some_iff.mp q
    cases e2
    obtain ⟨v, e3, r⟩ := h.get e1
    refine ⟨v, ?_, r⟩
    unfold L2.start
    rw [List.getElem?_append_left (by rw [List.length_map, hl]; exact hi), List.getElem?_map, e3]
    rfl
  · rw [List.getElem?_append_right (by simp; omega)] at q
    have := List.mem_of_getElem? q
    rw [List.mem_replicate] at this
    exact absurd this.2 (by simp)
section
variable {P : Program} {w : World} {K : PySem.W.Frag} {mg : Str → Option Value} {base : Heap}
theorem fn_ok {x qual : Str} {st : Stmt} {a : Addr} {fd : FuncData} {N ps : List Str} {k : Nat} {b : SD} (Fn : Fun K x qual st a fd) (Sc : FnScope N ps (defScope st))
    (body : ∀ (cdv : Value) (A : Around) (outer : List Env) (s : Shared) (H : Hp) (E : XK), Room k (A.deeper (PyProof.Rows.envOfC qual (defScope st) s.heap.objs.size a cdv)) → PSsd (cxOf CX0 P w K mg base N qual (defScope st) a cdv A outer s H E).nox (defBody st) b) :
    FnOk P w K mg base CX0 (k + 1) a fd ps (spD (den ps.length N.length b)) := by
  refine Fn.ok Sc (fun vs H Q E h => ?_) (fun cdv A outer s H vs Q E hr h => ?_)
  · obtain ⟨m, F, S, ws, r, S', h1, h2, h3, h4⟩ := h
    unfold den at h3
    split at h3
    · rename_i hl
      rw [h1.length]; exact hl
    · cases h3
  · obtain ⟨m, F, S, ws, r, S', h1, h2, h3, h4⟩ := h
    unfold den at h3
    split at h3
    · rename_i hl
      obtain ⟨o, e1, e2⟩ := Option.bind_eq_some_iff.mp h3
      refine ⟨_, body cdv A outer s H E hr, _, S, m, F, o, e1, start_enr h1 hl, h2, ?_⟩
      cases o with
      | rt r' S1 =>
        intro m' F' H' v t hv
        obtain ⟨t', hv'⟩ := retC_ok h2 t hv e2
        exact h4 v F' H' t' hv'
      | nx ρ S1 =>
        intro m' F' H' σ' t en
        cases e2
        exact h4 .non F' H' (t.take h2) .non
      | bk ρ S1 => cases e2
      | ct ρ S1 => cases e2
    · cases h3
end
end DL

set_option Elab.async false
set_option linter.all false
set_option maxRecDepth 100000
set_option maxHeartbeats 4000000
namespace DL
open PySem L2
variable {X : Cx} {e : Expr} {f : ED} {pos : Pos}

/-! ### what is walked -/
abbrev ID := En → Sto → Option (List D × Sto)
structure Wk (J : It) (F : Hp) (xs : List D) : Prop where
  go : ∀ i H, Ex F H → i < xs.length → J.go i H
  stop : ∀ H, Ex F H → J.stop xs.length H
  yld : ∀ i H x H', Ex F H → i < xs.length → J.yld i H x H' → ∃ d, xs[i]? = some d ∧ ((H' = H ∧ Rp F x d) ∨ ∃ T vs ds, x = .ref T ∧ H T = none ∧ H' = upd H T (.tup vs) ∧ d = .tuple ds ∧ Rps F vs ds)
def tI (fi : ID) : TI := fun σ H R => ∃ ρ S m F xs S', fi ρ S = some (xs, S') ∧ EnR m F σ ρ ∧ SR m F H S ∧ ∀ J F' H', Stp m F H m F' H' S' → Wk J F' xs → R J H'
abbrev PId (X : Cx) (tg iter : Expr) (fi : ID) : Prop := PI X tg iter (tI fi)
theorem PI.of {tg iter : Expr} {t u : TI} (h : PI X tg iter t) (k : ∀ σ H R, u σ H R → t σ H R) : PI X tg iter u := ⟨fun pins s σ H R I q => h.run pins s σ H R I (k σ H R q)⟩
theorem Wk.step {J : It} {F F2 H2 : Hp} {m : List Addr} {S : Sto} {xs : List D} {i : Nat} {x : V} {H' : Hp} (w : Wk J F xs) (ex : Ex F F2) (s : SR m F2 H2 S) (hi : i < xs.length) (y : J.yld i H2 x H') :
    ∃ d F3, xs[i]? = some d ∧ Stp m F2 H2 m F3 H' S ∧ Rp F3 x d := by
  obtain ⟨d, h1, h2⟩ := w.yld i H2 x H' (ex.tr s.ex) hi y
  rcases h2 with ⟨rfl, r⟩ | ⟨T, vs, ds, rfl, hT, rfl, rfl, r⟩
  · exact ⟨d, F2, h1, Stp.refl s, Rp.mono ex _ _ r⟩
  · have := fin_tup (Q := fun v H => ∃ F3, Stp m F2 H2 m F3 H S ∧ Rp F3 v (.tuple ds)) s (Rps.mono ex _ _ r) hT (fun v F' H' t h => ⟨F', t, h⟩)
    obtain ⟨F3, t, h⟩ := this
    exact ⟨_, F3, h1, t, h⟩
/-- a list or tuple -/
theorem pi_sq {tg l : Expr} {tl : TE} (hl : PE X l tl) : PI X tg l (fun σ H R => tl σ H fun x H1 => ∃ a xs, x = .ref a ∧ ((SqL X.K H1 a xs ∧ R (Itl X.K a) H1) ∨ (SqT X.K H1 a xs ∧ R (Itt X.K a) H1))) := by
  refine ⟨fun pins s σ H R I h => ?_⟩
  refine thn (hl.run pins s σ H _ I h) fun v s1 ⟨x, H1, I1, r1, q1⟩ => ?_
  obtain ⟨a, xs, e, q⟩ := q1
  subst e
  cases r1
  rcases q with ⟨hq, q⟩ | ⟨hq, q⟩
  · obtain ⟨its, rv, p, hz⟩ := I1.list hq
    refine wpAny_pyIter_list p.isList ?_
    refine ⟨s1.heap.objs.size, [s1.heap.objs.size], _, _, H1, rfl, I1.kept (t' := s1.toks) fun b o e => Heap.get?_push_of_some _ e, turn_list a _, ⟨_, Heap.get?_push_size _ rfl, rfl, rfl⟩, fun b hb => ?_, q⟩
    have e : b = s1.heap.objs.size := by simpa using hb
    subst e
    exact I1.fpOk (Nat.le_refl _) (I1.hok.fresh (Nat.le_refl _))
  · obtain ⟨its, rv, p, hz⟩ := I1.tuple hq
    refine wpAny_pyIter_tuple (show s1.heap.IsTuple a its.toArray from p) ?_
    refine ⟨s1.heap.objs.size, [s1.heap.objs.size], _, _, H1, rfl, I1.kept (t' := s1.toks) fun b o e => Heap.get?_push_of_some _ e, turn_tuple a _, ⟨_, Heap.get?_push_size _ rfl, rfl, rfl⟩, fun b hb => ?_, q⟩
    have e : b = s1.heap.objs.size := by simpa using hb
    subst e
    exact I1.fpOk (Nat.le_refl _) (I1.hok.fresh (Nat.le_refl _))
theorem wk_list {K : PySem.W.Frag} {F : Hp} {a : Addr} {vs : List V} {xs : List D} (ha : F a = some (.lst vs)) (r : Rps F vs xs) : Wk (Itl K a) F xs := by
  have hl := r.length
  refine ⟨fun i H ex hi => ?_, fun H ex => ⟨vs, SqL.of (ex _ _ ha), by omega⟩, fun i H x H' ex hi y => ?_⟩
  · exact ⟨vs, vs[i]'(by omega), SqL.of (ex _ _ ha), List.getElem?_eq_getElem _⟩
  · obtain ⟨rfl, y⟩ := y
    obtain ⟨d, h1, h2⟩ := r.getV (y vs (SqL.of (ex _ _ ha)))
    exact ⟨d, h1, .inl ⟨rfl, h2⟩⟩
theorem wk_tup {K : PySem.W.Frag} {F : Hp} {a : Addr} {vs : List V} {xs : List D} (ha : F a = some (.tup vs)) (r : Rps F vs xs) : Wk (Itt K a) F xs := by
  have hl := r.length
  refine ⟨fun i H ex hi => ?_, fun H ex => ⟨vs, SqT.of (ex _ _ ha), by omega⟩, fun i H x H' ex hi y => ?_⟩
  · exact ⟨vs, vs[i]'(by omega), SqT.of (ex _ _ ha), List.getElem?_eq_getElem _⟩
  · obtain ⟨rfl, y⟩ := y
    obtain ⟨d, h1, h2⟩ := r.getV (y vs (SqT.of (ex _ _ ha)))
    exact ⟨d, h1, .inl ⟨rfl, h2⟩⟩
/-- a cell that is walked goes off -/
def iSq (f : ED) : ID := fun ρ S => (f ρ S).bind fun x => (off x.2 (frz x.1)).bind fun y => (dat y.1).bind fun d => (itemsD d).bind fun xs => some (xs, y.2)
theorem pid_sq {tg : Expr} (h : PEd X e f) : PId X tg e (iSq f) := PI.of (pi_sq h) fun σ H R h => by
  obtain ⟨ρ, S, m, F, xs, S', e, en, s, q⟩ := h
  obtain ⟨⟨x, S1⟩, e1, e⟩ := Option.bind_eq_some_iff.mp e
  obtain ⟨⟨y, S2⟩, e2, e⟩ := Option.bind_eq_some_iff.mp e
  obtain ⟨d, e3, e⟩ := Option.bind_eq_some_iff.mp e
  obtain ⟨ys, e4, e5⟩ := Option.bind_eq_some_iff.mp e
  cases e5
  refine tD_frz e1 en s fun v F1 H1 t1 h1 => ?_
  obtain ⟨F2, t2, h2⟩ := off_ok t1.sr h1 e2
  have t12 := t1.tr s t2
  cases y with
  | c i => cases e3
  | x a => cases e3
  | d z =>
    cases e3
    have r0 : Rp F2 v d := h2
    cases r0 with
    | lst ha hs =>
      cases e4
      exact ⟨_, _, rfl, .inl ⟨SqL.of (t2.sr.ex _ _ ha), q _ F2 H1 t12 (wk_list ha hs)⟩⟩
    | tup ha hs =>
      cases e4
      exact ⟨_, _, rfl, .inr ⟨SqT.of (t2.sr.ex _ _ ha), q _ F2 H1 t12 (wk_tup ha hs)⟩⟩
    | non => cases e4
    | bl b => cases e4
    | int i => cases e4
    | str x => cases e4
/-! ranges -/
def upTo (lo : Int) (n : Nat) : List D := (List.range n).map fun i => .int (lo + (i : Nat))
theorem wk_range {lo : Int} {n : Nat} {F : Hp} : Wk (Itr lo n) F (upTo lo n) := by
  have hl : (upTo lo n).length = n := by simp [upTo]
  refine ⟨fun i H ex hi => ?_, fun H ex => ?_, fun i H x H' ex hi y => ?_⟩
  · show i < n
    omega
  · show n ≤ (upTo lo n).length
    omega
  · obtain ⟨rfl, rfl⟩ := y
    refine ⟨.int (lo + i), ?_, .inl ⟨rfl, .int _⟩⟩
    rw [hl] at hi
    simp [upTo, hi]
def inB (i : Int) : Bool := decide (-(2 ^ 62) ≤ i) && decide (i < 2 ^ 62)
def iR1 (f : AD) : ID := fun ρ S => (f ρ S).bind fun x => match x.1 with
  | [.d (.int j)] => if inB j then some (upTo 0 j.toNat, x.2) else none
  | _ => none
def iR2 (f : AD) : ID := fun ρ S => (f ρ S).bind fun x => match x.1 with
  | [.d (.int i), .d (.int j)] => if inB i && inB j then some (upTo i (j - i).toNat, x.2) else none
  | _ => none
theorem inB_of {i : Int} (h : inB i = true) : -(2 ^ 62) ≤ i ∧ i < 2 ^ 62 := by
  unfold inB at h
  rw [Bool.and_eq_true] at h
  exact ⟨of_decide_eq_true h.1, of_decide_eq_true h.2⟩
theorem pid_r1 {a tg : Expr} {g : AD} {p : Pos} (hg : Gl X "range") (hm : X.mg "range" = none) (ha : PAd X [a] g) (hs : starEach [a] X.env = [(false, eval a X.env)] := by rfl) : PId X tg (.Call (.Name "range" p) [a] [] pos) (iR1 g) := PI.of (pi_range1 hg hm ha hs) fun σ H R h => by
  obtain ⟨ρ, S, m, F, xs, S', e, en, s, q⟩ := h
  obtain ⟨⟨ws, S1⟩, e1, e⟩ := Option.bind_eq_some_iff.mp e
  refine ⟨ρ, S, m, F, ws, S1, e1, en, s, fun vs F1 H1 t1 h1 => ?_⟩
  simp only at e
  split at e
  · rename_i j
    split at e
    · rename_i hb
      cases e
      obtain ⟨v, rfl, r⟩ := h1.one
      cases (show Rp F1 v (.int j) from r)
      obtain ⟨b1, b2⟩ := inB_of hb
      exact ⟨j, rfl, b1, b2, q _ F1 H1 t1 wk_range⟩
    · cases e
  · cases e
theorem pid_r2 {a b tg : Expr} {g : AD} {p : Pos} (hg : Gl X "range") (hm : X.mg "range" = none) (ha : PAd X [a, b] g) (hs : starEach [a, b] X.env = [(false, eval a X.env), (false, eval b X.env)] := by rfl) (hs2 : starEach [b] X.env = [(false, eval b X.env)] := by rfl) :
    PId X tg (.Call (.Name "range" p) [a, b] [] pos) (iR2 g) := PI.of (pi_range2 hg hm ha hs hs2) fun σ H R h => by
  obtain ⟨ρ, S, m, F, xs, S', e, en, s, q⟩ := h
  obtain ⟨⟨ws, S1⟩, e1, e⟩ := Option.bind_eq_some_iff.mp e
  refine ⟨ρ, S, m, F, ws, S1, e1, en, s, fun vs F1 H1 t1 h1 => ?_⟩
  simp only at e
  split at e
  · rename_i i j
    split at e
    · rename_i hb
      cases e
      obtain ⟨v, u, rfl, r, r'⟩ := h1.two
      cases (show Rp F1 v (.int i) from r)
      cases (show Rp F1 u (.int j) from r')
      rw [Bool.and_eq_true] at hb
      obtain ⟨b1, b2⟩ := inB_of hb.1
      obtain ⟨b3, b4⟩ := inB_of hb.2
      exact ⟨i, j, rfl, ⟨b1, b2, b3, b4⟩, q _ F1 H1 t1 wk_range⟩
    · cases e
  · cases e
/-! enumerate -/
theorem pi_enumA {ta : TA} {p tpos : Pos} {elts : List Expr} {kk : Nat} (hg : Gl X "enumerate") (hm : X.mg "enumerate" = none) (ha : PA X [e] ta) (hs : starEach [e] X.env = [(false, eval e X.env)] := by rfl) :
    PI X (.Tuple elts kk tpos) (.Call (.Name "enumerate" p) [e] [] pos) (fun σ H R => ta σ H fun vs H1 => ∃ a xs, vs = [.ref a] ∧ ((SqL X.K H1 a xs ∧ R (Ite X.K a) H1) ∨ (SqT X.K H1 a xs ∧ R (ItEt X.K a) H1))) := by
  refine ⟨fun pins s σ H R I h => ?_⟩
  refine PyProof.Rows.Call_ (ld_blt I hg hm PyProof.Rows.boot_enumerate (PyProof.Rows.callWith_type1 (thn (ha.run pos pins s σ H _ I h) fun us s1 ⟨vs, H1, I1, r1, q1⟩ => ?_) hs rfl))
  obtain ⟨a, xs, ex, q⟩ := q1
  subst ex
  obtain ⟨u, rfl, ru⟩ := vals1 r1
  cases ru
  rcases q with ⟨hq, q⟩ | ⟨hq, q⟩
  · obtain ⟨its, rv, p', hz⟩ := I1.list hq
    refine call_enumerate_list p'.isList fun h' he hit hsz hk => wpAny_pyIter_enum he ?_
    have I2 : L2.Inv X pins σ H1 { s1 with heap := h' } := I1.kept (t' := s1.toks) hk
    refine ⟨s1.heap.objs.size + 1, [s1.heap.objs.size + 1, s1.heap.objs.size], _, _, H1, rfl, I2, turn_enum a (s1.heap.objs.size + 1) s1.heap.objs.size, ⟨⟨.none, he⟩, hit, Nat.succ_ne_self _⟩, fun b hb => ?_, q⟩
    have e' : b = s1.heap.objs.size + 1 ∨ b = s1.heap.objs.size := by simpa using hb
    have hle : s1.heap.objs.size ≤ b := by
      rcases e' with z | z
      · rw [z]; exact Nat.le_add_right _ _
      · rw [z]; exact Nat.le_refl _
    exact I1.fpOk hle (I1.hok.fresh hle)
  · obtain ⟨its, rv, p', hz⟩ := I1.tuple hq
    have hlt : a < s1.heap.objs.size := by obtain ⟨_, q, _⟩ := p'; exact Heap.lt_size q
    refine enum_begins1 (begins_tuple a its.toArray) p' fun h' he hit hsz hk => wpAny_pyIter_enum he ?_
    have I2 : L2.Inv X pins σ H1 { s1 with heap := h' } := I1.kept (t' := s1.toks) hk
    refine ⟨s1.heap.objs.size + 1, [s1.heap.objs.size + 1, s1.heap.objs.size], _, _, H1, rfl, I2, turn_enumT a (s1.heap.objs.size + 1) s1.heap.objs.size (Nat.ne_of_lt hlt) (Nat.ne_of_lt (Nat.lt_succ_of_lt hlt)), ⟨⟨.none, he⟩, ⟨_, hit, rfl, rfl⟩, Nat.succ_ne_self _⟩, fun b hb => ?_, q⟩
    have e' : b = s1.heap.objs.size + 1 ∨ b = s1.heap.objs.size := by simpa using hb
    have hle : s1.heap.objs.size ≤ b := by
      rcases e' with z | z
      · rw [z]; exact Nat.le_add_right _ _
      · rw [z]; exact Nat.le_refl _
    exact I1.fpOk hle (I1.hok.fresh hle)
def enumD (xs : List D) : List D := xs.zipIdx.map fun x => .tuple [.int (x.2 : Nat), x.1]
theorem enumD_len (xs : List D) : (enumD xs).length = xs.length := by simp [enumD]
theorem enumD_get {xs : List D} {i : Nat} {d : D} (h : xs[i]? = some d) : (enumD xs)[i]? = some (.tuple [.int (i : Nat), d]) := by
  simp [enumD, h]
theorem wk_enumL {K : PySem.W.Frag} {F : Hp} {a : Addr} {vs : List V} {xs : List D} (ha : F a = some (.lst vs)) (r : Rps F vs xs) : Wk (Ite K a) F (enumD xs) := by
  have hl := r.length
  refine ⟨fun i H ex hi => ?_, fun H ex => ⟨vs, SqL.of (ex _ _ ha), by rw [enumD_len]; omega⟩, fun i H x H' ex hi y => ?_⟩
  · rw [enumD_len] at hi
    exact ⟨vs, vs[i]'(by omega), SqL.of (ex _ _ ha), List.getElem?_eq_getElem _⟩
  · obtain ⟨T, z, rfl, hT, rfl, y⟩ := y
    obtain ⟨d, h1, h2⟩ := r.getV (y vs (SqL.of (ex _ _ ha)))
    exact ⟨_, enumD_get h1, .inr ⟨T, [.int (i : Nat), z], [.int (i : Nat), d], rfl, hT, rfl, rfl, .cons (.int _) (.cons h2 .nil)⟩⟩
theorem wk_enumT {K : PySem.W.Frag} {F : Hp} {a : Addr} {vs : List V} {xs : List D} (ha : F a = some (.tup vs)) (r : Rps F vs xs) : Wk (ItEt K a) F (enumD xs) := by
  have hl := r.length
  refine ⟨fun i H ex hi => ?_, fun H ex => ⟨vs, SqT.of (ex _ _ ha), by rw [enumD_len]; omega⟩, fun i H x H' ex hi y => ?_⟩
  · rw [enumD_len] at hi
    exact ⟨vs, vs[i]'(by omega), SqT.of (ex _ _ ha), List.getElem?_eq_getElem _⟩
  · obtain ⟨T, z, rfl, hT, rfl, y⟩ := y
    obtain ⟨d, h1, h2⟩ := r.getV (y vs (SqT.of (ex _ _ ha)))
    exact ⟨_, enumD_get h1, .inr ⟨T, [.int (i : Nat), z], [.int (i : Nat), d], rfl, hT, rfl, rfl, .cons (.int _) (.cons h2 .nil)⟩⟩
def iEn (f : AD) : ID := fun ρ S => (f ρ S).bind fun x => (offs x.2 x.1).bind fun y => match y.1 with
  | [d] => (itemsD d).bind fun xs => some (enumD xs, y.2)
  | _ => none
theorem pid_enum {g : AD} {p tpos : Pos} {elts : List Expr} {kk : Nat} (hg : Gl X "enumerate") (hm : X.mg "enumerate" = none) (ha : PAd X [e] g) (hs : starEach [e] X.env = [(false, eval e X.env)] := by rfl) :
    PId X (.Tuple elts kk tpos) (.Call (.Name "enumerate" p) [e] [] pos) (iEn g) := PI.of (pi_enumA hg hm ha hs) fun σ H R h => by
  obtain ⟨ρ, S, m, F, xs, S', e, en, s, q⟩ := h
  obtain ⟨⟨ws, S1⟩, e1, e⟩ := Option.bind_eq_some_iff.mp e
  obtain ⟨⟨ds, S2⟩, e2, e⟩ := Option.bind_eq_some_iff.mp e
  refine ⟨ρ, S, m, F, ws, S1, e1, en, s, fun vs F1 H1 t1 h1 => ?_⟩
  obtain ⟨F2, t2, r⟩ := offs_ok t1.sr h1 e2
  have t12 := t1.tr s t2
  simp only at e
  split at e
  · rename_i d
    obtain ⟨ys, e4, e⟩ := Option.bind_eq_some_iff.mp e
    cases e
    cases r with
    | cons r1 r2 =>
      cases r2
      cases r1 <;> simp only [itemsD, reduceCtorEq, Option.some.injEq] at e4
      · rename_i ha hs
        subst e4
        exact ⟨_, _, rfl, .inl ⟨SqL.of (t2.sr.ex _ _ ha), q _ F2 H1 t12 (wk_enumL ha hs)⟩⟩
      · rename_i ha hs
        subst e4
        exact ⟨_, _, rfl, .inr ⟨SqT.of (t2.sr.ex _ _ ha), q _ F2 H1 t12 (wk_enumT ha hs)⟩⟩
  · cases e
/-! zip of two lists, of two tuples -/
def zipD (xs ys : List D) : List D := (xs.zip ys).map fun p => .tuple [p.1, p.2]
theorem zipD_len (xs ys : List D) : (zipD xs ys).length = min xs.length ys.length := by simp [zipD]
theorem zipD_get {xs ys : List D} {i : Nat} {d d' : D} (h : xs[i]? = some d) (h' : ys[i]? = some d') : (zipD xs ys)[i]? = some (.tuple [d, d']) := by
  unfold zipD
  rw [List.getElem?_map, (List.getElem?_zip_eq_some (z := (d, d'))).mpr ⟨h, h'⟩]
  rfl
theorem wk_zipL {K : PySem.W.Frag} {F : Hp} {a b : Addr} {vs us : List V} {xs ys : List D} (ha : F a = some (.lst vs)) (r : Rps F vs xs) (hb : F b = some (.lst us)) (r' : Rps F us ys) : Wk (Itz K a b) F (zipD xs ys) := by
  have hl := r.length
  have hl' := r'.length
  refine ⟨fun i H ex hi => ?_, fun H ex => ⟨vs, us, SqL.of (ex _ _ ha), SqL.of (ex _ _ hb), by rw [zipD_len]; omega⟩, fun i H x H' ex hi y => ?_⟩
  · rw [zipD_len] at hi
    exact ⟨vs, us, vs[i]'(by omega), us[i]'(by omega), SqL.of (ex _ _ ha), SqL.of (ex _ _ hb), List.getElem?_eq_getElem _, List.getElem?_eq_getElem _⟩
  · obtain ⟨T, z, z', rfl, hT, rfl, y, y'⟩ := y
    obtain ⟨d, h1, h2⟩ := r.getV (y vs (SqL.of (ex _ _ ha)))
    obtain ⟨d', h1', h2'⟩ := r'.getV (y' us (SqL.of (ex _ _ hb)))
    exact ⟨_, zipD_get h1 h1', .inr ⟨T, [z, z'], [d, d'], rfl, hT, rfl, rfl, .cons h2 (.cons h2' .nil)⟩⟩
theorem wk_zipT {K : PySem.W.Frag} {F : Hp} {a b : Addr} {vs us : List V} {xs ys : List D} (ha : F a = some (.tup vs)) (r : Rps F vs xs) (hb : F b = some (.tup us)) (r' : Rps F us ys) : Wk (RZ.ItzT K a b) F (zipD xs ys) := by
  have hl := r.length
  have hl' := r'.length
  refine ⟨fun i H ex hi => ?_, fun H ex => ⟨vs, us, SqT.of (ex _ _ ha), SqT.of (ex _ _ hb), by rw [zipD_len]; omega⟩, fun i H x H' ex hi y => ?_⟩
  · rw [zipD_len] at hi
    exact ⟨vs, us, vs[i]'(by omega), us[i]'(by omega), SqT.of (ex _ _ ha), SqT.of (ex _ _ hb), List.getElem?_eq_getElem _, List.getElem?_eq_getElem _⟩
  · obtain ⟨T, z, z', rfl, hT, rfl, y, y'⟩ := y
    obtain ⟨d, h1, h2⟩ := r.getV (y vs (SqT.of (ex _ _ ha)))
    obtain ⟨d', h1', h2'⟩ := r'.getV (y' us (SqT.of (ex _ _ hb)))
    exact ⟨_, zipD_get h1 h1', .inr ⟨T, [z, z'], [d, d'], rfl, hT, rfl, rfl, .cons h2 (.cons h2' .nil)⟩⟩
def iZp (f : AD) : ID := fun ρ S => (f ρ S).bind fun x => (offs x.2 x.1).bind fun y => match y.1 with
  | [.list xs, .list ys] => some (zipD xs ys, y.2)
  | [.tuple xs, .tuple ys] => some (zipD xs ys, y.2)
  | _ => none
theorem pid_zip {e2 : Expr} {g : AD} {p tpos : Pos} {elts : List Expr} {kk : Nat} (hg : Gl X "zip") (hm : X.mg "zip" = none) (ha : PAd X [e, e2] g)
    (hs : starEach [e, e2] X.env = (false, eval e X.env) :: starEach [e2] X.env := by rfl) (hpl : (backTo pos (starEach [e2] X.env)).any (·.1) = false := by rfl) :
    PId X (.Tuple elts kk tpos) (.Call (.Name "zip" p) [e, e2] [] pos) (iZp g) := PI.of (RZ.pi_zipA hg hm ha hs hpl) fun σ H R h => by
  obtain ⟨ρ, S, m, F, xs, S', e, en, s, q⟩ := h
  obtain ⟨⟨ws, S1⟩, e1, e⟩ := Option.bind_eq_some_iff.mp e
  obtain ⟨⟨ds, S2⟩, e2, e⟩ := Option.bind_eq_some_iff.mp e
  refine ⟨ρ, S, m, F, ws, S1, e1, en, s, fun vs F1 H1 t1 h1 => ?_⟩
  obtain ⟨F2, t2, r⟩ := offs_ok t1.sr h1 e2
  have t12 := t1.tr s t2
  simp only at e
  split at e
  · cases e
    cases r with
    | cons r1 r2 =>
      cases r2 with
      | cons r2 r3 =>
        cases r3
        cases r1 with
        | lst ha hs =>
          cases r2 with
          | lst hb hs' => exact ⟨_, _, _, _, rfl, .inl ⟨SqL.of (t2.sr.ex _ _ ha), SqL.of (t2.sr.ex _ _ hb), q _ F2 H1 t12 (wk_zipL ha hs hb hs')⟩⟩
  · cases e
    cases r with
    | cons r1 r2 =>
      cases r2 with
      | cons r2 r3 =>
        cases r3
        cases r1 with
        | tup ha hs =>
          cases r2 with
          | tup hb hs' => exact ⟨_, _, _, _, rfl, .inr ⟨SqT.of (t2.sr.ex _ _ ha), SqT.of (t2.sr.ex _ _ hb), q _ F2 H1 t12 (wk_zipT ha hs hb hs')⟩⟩
  · cases e
end DL

set_option Elab.async false
set_option linter.all false
set_option maxRecDepth 100000
set_option maxHeartbeats 4000000
namespace DL
open PySem L2
variable {X : Cx} {e : Expr} {f : ED} {pos : Pos}

/-! ### targets of for and of comprehensions -/
abbrev GD := D → En → Option En
/-- only the slots is have changed -/
def Frm (is : List Nat) (σ σ' : L2.St) : Prop := σ'.length = σ.length ∧ ∀ j, j ∉ is → σ'[j]? = σ[j]?
def tG (is : List Nat) (g : GD) : TG := fun v σ H Q => ∃ ρ m F d ρ', g d ρ = some ρ' ∧ EnR m F σ ρ ∧ Rp F v d ∧ ∀ σ', EnR m F σ' ρ' → Frm is σ σ' → Q σ' H
abbrev PGd (X : Cx) (tg : Expr) (is : List Nat) (g : GD) : Prop := PG X tg (tG is g)
theorem PG.of {tg : Expr} {t u : TG} (h : PG X tg t) (k : ∀ v σ H Q, u v σ H Q → t v σ H Q) : PG X tg u := ⟨fun pins s σ H v us Q I r q => h.run pins s σ H v us Q I r (k v σ H Q q)⟩
def gN (i : Nat) : GD := fun d ρ => some (ρ.set i (some (.d d)))
theorem pgd_name {i : Nat} {x : Str} {pp : Pos} (h : PG X (.Name x pp) (gName i)) : PGd X (.Name x pp) [i] (gN i) := PG.of h fun v σ H Q h => by
  obtain ⟨ρ, m, F, d, ρ', e, en, r, q⟩ := h
  cases e
  refine q _ (en.set i (w := .d d) r) ⟨by simp, fun j hj => List.getElem?_set_ne (fun z => hj (by simp [z]))⟩
/-- several names, from the left -/
def tGs' (is : List Nat) : TGs := fun vs σ H Q => ∃ ρ m F ds ρ', setAll is ds ρ = some ρ' ∧ EnR m F σ ρ ∧ Rps F vs ds ∧ ∀ σ', EnR m F σ' ρ' → Frm is σ σ' → Q σ' H
theorem pgsf_nil : PGs X [] (tGs' []) := PGs.of pgs_nil fun vs σ H Q h => by
  obtain ⟨ρ, m, F, ds, ρ', e, en, r, q⟩ := h
  cases ds with
  | nil =>
    cases e
    cases r
    exact ⟨rfl, q σ en ⟨rfl, fun _ _ => rfl⟩⟩
  | cons d ds => cases e
theorem pgsf_cons {i : Nat} {is : List Nat} {x : Str} {pp : Pos} {es : List Expr} (h1 : PG X (.Name x pp) (gName i)) (h2 : PGs X es (tGs' is)) (hs : (assignEach (.Name x pp :: es) X.env).map (·.2) = assign (.Name x pp) X.env :: (assignEach es X.env).map (·.2) := by rfl) : PGs X (.Name x pp :: es) (tGs' (i :: is)) :=
  PGs.of (pgs_cons h1 h2 hs) fun vs σ H Q h => by
    obtain ⟨ρ, m, F, ds, ρ', e, en, r, q⟩ := h
    cases ds with
    | nil => cases e
    | cons d ds =>
      cases r with
      | cons r1 r2 =>
        refine ⟨_, _, rfl, ρ.set i (some (.d d)), m, F, ds, ρ', e, en.set i (w := .d d) r1, r2, fun σ' en' fr => q σ' en' ⟨by rw [fr.1, List.length_set], fun j hj => ?_⟩⟩
        rw [List.mem_cons, not_or] at hj
        rw [fr.2 j hj.2, List.getElem?_set_ne (fun z => hj.1 z.symm)]
def gT (is : List Nat) : GD := fun d ρ => match d with
  | .tuple ds => setAll is ds ρ
  | _ => none
/-- (a, b, ..) of a tuple; K tells what may be read -/
theorem pgd_tup {es : List Expr} {k : Nat} {is : List Nat} (hc : X.calm = true) (h : PGs X es (tGs' is)) (hn : (assignEach es X.env).length = is.length := by rfl) (hst : (assignEach es X.env).findIdx? (·.1) = none := by rfl) : PG X (.Tuple es k pos) (fun v σ H Q => ∃ ρ m F S d ρ', gT is d ρ = some ρ' ∧ EnR m F σ ρ ∧ SR m F H S ∧ Rp F v d ∧ ∀ σ', EnR m F σ' ρ' → Frm is σ σ' → Q σ' H) :=
  PG.of (pg_tup hc h hn hst) fun v σ H Q h => by
    obtain ⟨ρ, m, F, S, d, ρ', e, en, s, r, q⟩ := h
    unfold gT at e
    split at e
    · rename_i ds
      cases r with
      | tup ha hs => exact ⟨_, _, rfl, SqT.of (s.ex _ _ ha), by rw [hs.length]; exact setAll_len e, ρ, m, F, ds, ρ', e, en, hs, q⟩
    · cases e
/-- both kinds, the heap told -/
def tH (is : List Nat) (g : GD) : TG := fun v σ H Q => ∃ ρ m F S d ρ', g d ρ = some ρ' ∧ EnR m F σ ρ ∧ SR m F H S ∧ Rp F v d ∧ ∀ σ', EnR m F σ' ρ' → Frm is σ σ' → Q σ' H
abbrev PHd (X : Cx) (tg : Expr) (is : List Nat) (g : GD) : Prop := PG X tg (tH is g)
theorem phd_name {i : Nat} {x : Str} {pp : Pos} (h : PG X (.Name x pp) (gName i)) : PHd X (.Name x pp) [i] (gN i) := PG.of (pgd_name h) fun v σ H Q h => by
  obtain ⟨ρ, m, F, S, d, ρ', e, en, s, r, q⟩ := h
  exact ⟨ρ, m, F, d, ρ', e, en, r, q⟩
theorem phd_tup {es : List Expr} {k : Nat} {is : List Nat} (hc : X.calm = true) (h : PGs X es (tGs' is)) (hn : (assignEach es X.env).length = is.length := by rfl) (hst : (assignEach es X.env).findIdx? (·.1) = none := by rfl) : PHd X (.Tuple es k pos) is (gT is) := pgd_tup hc h hn hst

/-! ### for -/
def forL (g : GD) (b : SD) : List D → En → Sto → Option Out
  | [], ρ, S => some (.nx ρ S)
  | d :: ds, ρ, S => (g d ρ).bind fun ρ1 => (b ρ1 S).bind fun o => match o with
    | .nx ρ2 S2 => forL g b ds ρ2 S2
    | .ct ρ2 S2 => forL g b ds ρ2 S2
    | .bk ρ2 S2 => some (.nx ρ2 S2)
    | .rt r S2 => some (.rt r S2)
def bFor (fi : ID) (g : GD) (b : SD) : SD := fun ρ S => (fi ρ S).bind fun x => forL g b x.1 ρ x.2
theorem psd_for {tg iter : Expr} {body : List Stmt} {fi : ID} {is : List Nat} {g : GD} {b : SD} (hp : PassesOwn (model X.prog X.w) X.A X.env X.xe) (hc : X.calm = true) (hi : PId X tg iter fi) (hg : PHd X tg is g) (hb : PSsd X body b)
    (hs : ∀ x, foldedSetIterable iter X.env x = pure x := by intro _; rfl) : PSd X (.For tg iter body [] pos) (bFor fi g b) := PS.of (ps_for hp hc hi hg hb hs) fun Dn σ H h => by
  obtain ⟨ρ, S, m, F, o, e, en, s, q⟩ := h
  obtain ⟨⟨xs, S1⟩, e1, e⟩ := Option.bind_eq_some_iff.mp e
  refine ⟨ρ, S, m, F, xs, S1, e1, en, s, fun J F1 H1 t1 wk => ?_⟩
  refine ⟨fun i mm σ2 H2 => mm = xs.length - i ∧ i ≤ xs.length ∧ ∃ ρ2 S2 m2 F2, Stp m F H m2 F2 H2 S2 ∧ Ex F1 F2 ∧ EnR m2 F2 σ2 ρ2 ∧ forL g b (xs.drop i) ρ2 S2 = some o, ⟨xs.length, by simp, Nat.zero_le _, ρ, S1, m, F1, t1, Ex.rfl', en.stp t1, e⟩, ?_⟩
  rintro i mm σ2 H2 ⟨rfl, hi, ρ2, S2, m2, F2, t2, ex2, en2, e2⟩
  by_cases hlt : i < xs.length
  · right
    refine ⟨wk.go i H2 (ex2.tr t2.sr.ex) hlt, fun σ' H' => ∃ ρ3 S3 m3 F3, Stp m F H m3 F3 H' S3 ∧ Ex F1 F3 ∧ EnR m3 F3 σ' ρ3 ∧ forL g b (xs.drop (i + 1)) ρ3 S3 = some o, fun σ' H' n => ⟨xs.length - (i + 1), by omega, rfl, hlt, n⟩, fun x H' y => ?_⟩
    obtain ⟨d, F3, hd, t3, r3⟩ := wk.step ex2 t2.sr hlt y
    have hdrop : xs.drop i = d :: xs.drop (i + 1) := by
      rw [List.drop_eq_getElem_cons hlt]
      obtain ⟨_, q⟩ := List.getElem?_eq_some_iff.mp hd
      rw [q]
    rw [hdrop] at e2
    obtain ⟨ρ3, e3, e2⟩ := Option.bind_eq_some_iff.mp e2
    obtain ⟨o1, e4, e2⟩ := Option.bind_eq_some_iff.mp e2
    have t23 := t2.tr s t3
    refine ⟨ρ2, m2, F3, S2, d, ρ3, e3, en2.stp t3, t3.sr, r3, fun σ3 en3 _ => ?_⟩
    refine ⟨ρ3, S2, m2, F3, o1, e4, en3, t3.sr, ?_⟩
    have again : ∀ ρ4 S4, forL g b (xs.drop (i + 1)) ρ4 S4 = some o → ∀ m' F' H'' σ', Stp m2 F3 H' m' F' H'' S4 → EnR m' F' σ' ρ4 → ∃ ρ3 S3 m3 F3, Stp m F H m3 F3 H'' S3 ∧ Ex F1 F3 ∧ EnR m3 F3 σ' ρ3 ∧ forL g b (xs.drop (i + 1)) ρ3 S3 = some o :=
      fun ρ4 S4 h4 m' F' H'' σ' u en' => ⟨ρ4, S4, m', F', t23.tr s u, (ex2.tr t3.gr.ex).tr u.gr.ex, en', h4⟩
    cases o1 with
    | nx ρ4 S4 => exact again ρ4 S4 e2
    | ct ρ4 S4 => exact again ρ4 S4 e2
    | bk ρ4 S4 =>
      cases e2
      exact fun m' F' H'' σ' u en' => q m' F' H'' σ' (t23.tr s u) en'
    | rt r S4 =>
      cases e2
      exact fun m' F' H'' v u hv => q m' F' H'' v (t23.tr s u) (hv.back s t23)
  · left
    have hi' : i = xs.length := by omega
    subst hi'
    rw [List.drop_length] at e2
    cases e2
    exact ⟨wk.stop H2 (ex2.tr t2.sr.ex), q m2 F2 H2 σ2 t2 en2⟩

/-! ### while -/
def whL (t : BD) (b : SD) : Nat → En → Sto → Option Out
  | 0, _, _ => none
  | n + 1, ρ, S => (t ρ S).bind fun x => if x.1 then (b ρ x.2).bind fun o => match o with
    | .nx ρ2 S2 => whL t b n ρ2 S2
    | .ct ρ2 S2 => whL t b n ρ2 S2
    | .bk ρ2 S2 => some (.nx ρ2 S2)
    | .rt r S2 => some (.rt r S2)
    else some (.nx ρ x.2)
def bWh (n : Nat) (t : BD) (b : SD) : SD := fun ρ S => whL t b n ρ S
theorem psd_while {n : Nat} {c : Expr} {body : List Stmt} {t : BD} {b : SD} (hp : PassesOwn (model X.prog X.w) X.A X.env X.xe) (hc : PTd X c t) (hb : PSsd X body b) : PSd X (.While c body [] pos) (bWh n t b) := PS.of (ps_while hp hc hb) fun Dn σ H h => by
  obtain ⟨ρ, S, m, F, o, e, en, s, q⟩ := h
  refine ⟨fun mm σ2 H2 => ∃ ρ2 S2 m2 F2, Stp m F H m2 F2 H2 S2 ∧ EnR m2 F2 σ2 ρ2 ∧ whL t b mm ρ2 S2 = some o, ⟨n, ρ, S, m, F, Stp.refl s, en, e⟩, ?_⟩
  rintro mm σ2 H2 ⟨ρ2, S2, m2, F2, t2, en2, e2⟩
  cases mm with
  | zero => cases e2
  | succ mm =>
    obtain ⟨⟨x, S3⟩, e3, e2⟩ := Option.bind_eq_some_iff.mp e2
    refine ⟨ρ2, S2, m2, F2, x, S3, e3, en2, t2.sr, fun F3 H3 t3 => ?_⟩
    have t23 := t2.tr s t3
    cases x with
    | true =>
      rw [if_pos rfl] at e2
      refine iteT ?_
      obtain ⟨o1, e4, e2⟩ := Option.bind_eq_some_iff.mp e2
      refine ⟨fun σ' H' => ∃ ρ2 S2 m2 F2, Stp m F H m2 F2 H' S2 ∧ EnR m2 F2 σ' ρ2 ∧ whL t b mm ρ2 S2 = some o, fun σ' H' h => ⟨mm, Nat.lt_succ_self _, h⟩, ρ2, S3, m2, F3, o1, e4, en2.stp t3, t3.sr, ?_⟩
      cases o1 with
      | nx ρ4 S4 => exact fun m' F' H'' σ' u en' => ⟨ρ4, S4, m', F', t23.tr s u, en', e2⟩
      | ct ρ4 S4 => exact fun m' F' H'' σ' u en' => ⟨ρ4, S4, m', F', t23.tr s u, en', e2⟩
      | bk ρ4 S4 =>
        cases e2
        exact fun m' F' H'' σ' u en' => q m' F' H'' σ' (t23.tr s u) en'
      | rt r S4 =>
        cases e2
        exact fun m' F' H'' v u hv => q m' F' H'' v (t23.tr s u) (hv.back s t23)
    | false =>
      rw [if_neg (by simp)] at e2
      refine iteF ?_
      cases e2
      exact q m2 F3 H3 σ2 t23 (en2.stp t3)

/-! ### comprehensions -/
def wipeE (ρ : En) : List Nat → En
  | [] => ρ
  | v :: vs => (wipeE ρ vs).set v none
theorem EnR.wipe {m : List Addr} {F : Hp} {σ : L2.St} {ρ : En} (h : EnR m F σ ρ) : ∀ vs : List Nat, EnR m F (L2.wipe σ vs) (wipeE ρ vs)
  | [] => h
  | v :: vs => (EnR.wipe h vs).wipe1 v
theorem wipe_in {σ : L2.St} {i : Nat} : ∀ {vs : List Nat}, i ∈ vs → i < σ.length → (L2.wipe σ vs)[i]? = some none
  | v :: vs, h, hl => by
    show ((L2.wipe σ vs).set v none)[i]? = some none
    by_cases hv : v = i
    · subst hv
      rw [List.getElem?_set_self (by rw [wipe_length]; exact hl)]
    · rw [List.getElem?_set_ne hv]
      exact wipe_in ((List.mem_cons.mp h).resolve_left (fun z => hv z.symm)) hl
theorem wipe_frm {σ σ' : L2.St} {is vs : List Nat} (h : Frm is (L2.wipe σ vs) σ') (sub : ∀ i ∈ is, i ∈ vs) : L2.wipe σ' vs = L2.wipe σ vs := by
  obtain ⟨h1, h2⟩ := h
  rw [wipe_length] at h1
  refine List.ext_getElem? fun i => ?_
  by_cases hi : i ∈ vs
  · by_cases hl : i < σ.length
    · rw [wipe_in hi hl, wipe_in hi (by rw [h1]; exact hl)]
    · rw [List.getElem?_eq_none (by rw [wipe_length]; omega), List.getElem?_eq_none (by rw [wipe_length]; omega)]
  · rw [wipe_out hi, h2 i (fun z => hi (sub i z))]
def lcL (g : GD) (t : BD) (el : ED) (ρ : En) : List D → Sto → List D → Option (List D × Sto)
  | [], S, acc => some (acc, S)
  | d :: ds, S, acc => (g d ρ).bind fun ρ1 => (t ρ1 S).bind fun x => if x.1 then (el ρ1 x.2).bind fun y => (off y.2 (frz y.1)).bind fun w => (dat w.1).bind fun z => if acc.length < sizeLine then lcL g t el ρ ds w.2 (acc ++ [z]) else none
    else lcL g t el ρ ds x.2 acc
def eLc (fi : ID) (g : GD) (t : BD) (el : ED) (vs : List Nat) : ED := fun ρ S => (fi ρ S).bind fun x => (lcL g t el (wipeE ρ vs) x.1 x.2 []).bind fun y => some (.fr y.1, y.2)
def bYes : BD := fun _ S => some (true, S)
theorem ptsd_nil : PTs X [] (tB bYes) := ⟨fun pins s σ H Q I h => pts_nil.run pins s σ H Q I (by
  obtain ⟨ρ, S, m, F, b, S', e, en, sr, q⟩ := h
  cases e
  exact q F H (Stp.refl sr))⟩
theorem ptsd_one {c : Expr} {t : BD} (h : PTd X c t) : PTs X [c] (tB t) := pts_one h
/-- a list that is being made: nobody else holds it -/
theorem priv {m : List Addr} {F H F' H' : Hp} {S' : Sto} {p : Addr} {o : HO} (t : Stp m F H m F' H' S') (h : H p = some o) (f : F p = none) (pm : p ∉ m) : H' p = some o ∧ F' p = none := by
  refine ⟨t.kp p o h pm, ?_⟩
  cases e : F' p with
  | none => rfl
  | some u =>
    rcases t.gr.new p u e with z | z | z
    · rw [f] at z; cases z
    · rw [h] at z; cases z
    · exact absurd z pm
theorem SR.priv {m : List Addr} {F H : Hp} {S : Sto} {p : Addr} {o : HO} (s : SR m F H S) (f : F p = none) (pm : p ∉ m) : SR m F (upd H p o) S := by
  refine ⟨fun b u e => ?_, s.nd, s.len, fun i a c ha hc => ?_⟩
  · rw [upd_ne (ne_of_none e f)]
    exact s.ex b u e
  · have hap : a ≠ p := fun z => pm (by rw [← z]; exact List.mem_of_getElem? ha)
    have g := s.cel i a c ha hc
    cases c with
    | on ys =>
      obtain ⟨q1, us, q2, q3⟩ := g
      exact ⟨q1, us, by rw [upd_ne hap]; exact q2, q3⟩
    | off ys => exact g
theorem eLc_of {fi : ID} {is : List Nat} {g : GD} {t : BD} {el : ED} {vs : List Nat} (sub : ∀ i ∈ is, i ∈ vs) {σ : L2.St} {H : Hp} {Q : VK} (h : tD (eLc fi g t el vs) σ H Q) : tLc (tI fi) (tH is g) (tB t) (tD el) vs σ H Q := by
  obtain ⟨ρ, S, m, F, res, S', e, en, s, q⟩ := h
  obtain ⟨⟨xs, S1⟩, e1, e⟩ := Option.bind_eq_some_iff.mp e
  obtain ⟨⟨rs, S2⟩, e2, e⟩ := Option.bind_eq_some_iff.mp e
  cases e
  refine ⟨ρ, S, m, F, xs, S1, e1, en, s, fun J F1 H1 t1 wk Dp hD => ?_⟩
  have pm : Dp ∉ m := t1.sr.out hD
  have fD : F1 Dp = none := by
    cases z : F1 Dp with
    | none => rfl
    | some o => rw [t1.sr.ex _ _ z] at hD; cases hD
  have ex1 : Ex H1 (upd H1 Dp (.lst [])) := fun b o e => by rw [upd_ne (ne_of_none e hD)]; exact e
  refine ⟨fun i mm H2 => mm = xs.length - i ∧ i ≤ xs.length ∧ ∃ S3 F3 acc va, Stp m F1 H1 m F3 H2 S3 ∧ H2 Dp = some (.lst va) ∧ F3 Dp = none ∧ Rps F3 va acc ∧ lcL g t el (wipeE ρ vs) (xs.drop i) S3 acc = some (rs, S2),
    ⟨xs.length, by simp, Nat.zero_le _, S1, F1, [], [], ⟨⟨Ex.rfl', fun _ _ h => .inl h⟩, fun b o e _ => ex1 b o e, t1.sr.priv fD pm, [], by simp, by simp⟩, upd_same, fD, .nil, e2⟩, ?_⟩
  rintro i mm H2 ⟨rfl, hi, S3, F3, acc, va, t3, hva, fD3, ra, e3⟩
  by_cases hlt : i < xs.length
  · right
    refine ⟨wk.go i H2 (t3.gr.ex.tr t3.sr.ex) hlt, fun H' => ∃ S3 F3 acc va, Stp m F1 H1 m F3 H' S3 ∧ H' Dp = some (.lst va) ∧ F3 Dp = none ∧ Rps F3 va acc ∧ lcL g t el (wipeE ρ vs) (xs.drop (i + 1)) S3 acc = some (rs, S2), fun H' n => ⟨xs.length - (i + 1), by omega, rfl, hlt, n⟩, fun x H' y => ?_⟩
    obtain ⟨d, F4, hd, t4, r4⟩ := wk.step t3.gr.ex t3.sr hlt y
    obtain ⟨hva4, fD4⟩ := priv t4 hva fD3 pm
    have hdrop : xs.drop i = d :: xs.drop (i + 1) := by
      rw [List.drop_eq_getElem_cons hlt]
      obtain ⟨_, q⟩ := List.getElem?_eq_some_iff.mp hd
      rw [q]
    rw [hdrop] at e3
    obtain ⟨ρ1, e4, e3⟩ := Option.bind_eq_some_iff.mp e3
    obtain ⟨⟨b, S5⟩, e5, e3⟩ := Option.bind_eq_some_iff.mp e3
    have en4 : EnR m F4 (L2.wipe σ vs) (wipeE ρ vs) := (((en.stp t1).mono t3.gr.ex).mono t4.gr.ex).wipe vs
    refine ⟨wipeE ρ vs, m, F4, S3, d, ρ1, e4, en4, t4.sr, r4, fun σ2 en5 fr => ⟨wipe_frm fr sub, ?_⟩⟩
    refine ⟨ρ1, S3, m, F4, b, S5, e5, en5, t4.sr, fun F5 H5 t5 => ?_⟩
    obtain ⟨hva5, fD5⟩ := priv t5 hva4 fD4 pm
    have t35 := t3.tr t1.sr (t4.tr t3.sr t5)
    cases b with
    | true =>
      rw [if_pos rfl] at e3
      refine iteT ?_
      obtain ⟨⟨y', S6⟩, e6, e3⟩ := Option.bind_eq_some_iff.mp e3
      obtain ⟨⟨w', S7⟩, e7, e3⟩ := Option.bind_eq_some_iff.mp e3
      obtain ⟨z, e8, e3⟩ := Option.bind_eq_some_iff.mp e3
      refine tD_frz e6 (en5.stp t5) t5.sr fun v F6 H6 t6 h6 => ?_
      obtain ⟨F7, t7, h7⟩ := off_ok t6.sr h6 e7
      have t67 := t6.tr t5.sr t7
      obtain ⟨hva7, fD7⟩ := priv t67 hva5 fD5 pm
      split at e3
      · rename_i hz
        have ra7 : Rps F7 va acc := Rps.mono ((t4.gr.ex.tr t5.gr.ex).tr t67.gr.ex) _ _ ra
        have t37 := t35.tr t1.sr t67
        refine ⟨va, hva7, by rw [ra7.length]; exact hz, S7, F7, acc ++ [z], va ++ [v], ?_, upd_same, fD7, ra7.app (.cons ?_ .nil), e3⟩
        · refine ⟨t37.gr, fun b o e hb => ?_, t37.sr.priv fD7 pm, t37.more⟩
          rw [upd_ne (ne_of_none e hD)]
          exact t37.kp b o e hb
        · cases w' with
          | c i => cases e8
          | x a => cases e8
          | d z' => cases e8; exact h7
      · cases e3
    | false =>
      rw [if_neg (by simp)] at e3
      refine iteF ?_
      exact ⟨S5, F5, acc, va, t35, hva5, fD5, Rps.mono (t4.gr.ex.tr t5.gr.ex) _ _ ra, e3⟩
  · left
    have hi' : i = xs.length := by omega
    subst hi'
    rw [List.drop_length] at e3
    cases e3
    refine ⟨wk.stop H2 (t3.gr.ex.tr t3.sr.ex), ?_⟩
    exact q (.ref Dp) F3 H2 (t1.tr s t3) ⟨Dp, va, rfl, t1.back s hD, fD3, pm, hva, ra⟩
theorem ped_lc {elt tg iter : Expr} {ifs : List Expr} {scope : Scope} {own : List (Str × Nat)} {fi : ID} {is : List Nat} {g : GD} {t : BD} {el : ED} (hc : X.calm = true) (hN : X.N.Nodup) (hi : PId X tg iter fi) (ok : BlkOk X.N X.env.scope scope own)
    (hg : ∀ (s : Shared) (H : Hp) (C : Addr) (cl : List (Str × Addr)) (fp : List Addr), PHd (X.blk s H scope (compEnvC scope cl C X.env) fp) tg is g) (ht : ∀ (s : Shared) (H : Hp) (C : Addr) (cl : List (Str × Addr)) (fp : List Addr), PTs (X.blk s H scope (compEnvC scope cl C X.env) fp) ifs (tB t))
    (he : ∀ (s : Shared) (H : Hp) (C : Addr) (cl : List (Str × Addr)) (fp : List Addr), PEd (X.blk s H scope (compEnvC scope cl C X.env) fp) elt el) (sub : ∀ i ∈ is, i ∈ own.map (·.2) := by decide) (hs : ∀ x, foldedSetIterable iter X.env x = pure x := by intro _; rfl) :
    PEd X (.ListComp elt [⟨tg, iter, ifs, 0⟩] scope pos) (eLc fi g t el (own.map (·.2))) := PE.of (pe_lc hc hN hi ok hg ht he hs) fun _ _ _ h => eLc_of sub h
section
variable {elt tg iter : Expr} {ifs : List Expr} {scope : Scope} {own : List (Str × Nat)} {fi : ID} {is : List Nat} {g : GD} {t : BD} {el : ED} {i : Nat} {y : Str} {py spos : Pos}
theorem psd_setLc (hc : X.calm = true) (hN : X.N.Nodup) (hy : X.N[i]? = some y) (hyl : X.env.scope.names.lookup y = some .local)
    (hsw : swapsWith (.ListComp elt [⟨tg, iter, ifs, 0⟩] scope pos) (some (.Name y py)) spos.line X.env = pure true) (hi : PId X tg iter fi) (ok : BlkOk X.N X.env.scope scope own)
    (hg : ∀ (s : Shared) (H : Hp) (C : Addr) (cl : List (Str × Addr)) (fp : List Addr), PHd (X.blk s H scope (compEnvC scope cl C X.env) fp) tg is g) (ht : ∀ (s : Shared) (H : Hp) (C : Addr) (cl : List (Str × Addr)) (fp : List Addr), PTs (X.blk s H scope (compEnvC scope cl C X.env) fp) ifs (tB t))
    (he : ∀ (s : Shared) (H : Hp) (C : Addr) (cl : List (Str × Addr)) (fp : List Addr), PEd (X.blk s H scope (compEnvC scope cl C X.env) fp) elt el) (sub : ∀ i ∈ is, i ∈ own.map (·.2) := by decide) (hs : ∀ x, foldedSetIterable iter X.env x = pure x := by intro _; rfl) :
    PSd X (.Assign [.Name y py] (.ListComp elt [⟨tg, iter, ifs, 0⟩] scope pos) spos) (bSet i (eLc fi g t el (own.map (·.2)))) :=
  PS.of (ps_setLc hc hN hy hyl hsw hi ok hg ht he hs) fun Dn σ H h => eLc_of (Q := fun x H1 => gName i x σ H1 Dn.nx) sub (bSet_of h)
theorem psd_setLcC (hc : X.calm = true) (hN : X.N.Nodup) (hy : X.N[i]? = some y) (hyl : X.env.scope.names.lookup y = some .local)
    (hsw : swapsWith (.ListComp elt [⟨tg, iter, ifs, 0⟩] scope pos) (some (.Name y py)) spos.line X.env = pure true) (hi : PId X tg iter fi) (ok : BlkOk X.N X.env.scope scope own)
    (hg : ∀ (s : Shared) (H : Hp) (C : Addr) (cl : List (Str × Addr)) (fp : List Addr), PHd (X.blk s H scope (compEnvC scope cl C X.env) fp) tg is g) (ht : ∀ (s : Shared) (H : Hp) (C : Addr) (cl : List (Str × Addr)) (fp : List Addr), PTs (X.blk s H scope (compEnvC scope cl C X.env) fp) ifs (tB t))
    (he : ∀ (s : Shared) (H : Hp) (C : Addr) (cl : List (Str × Addr)) (fp : List Addr), PEd (X.blk s H scope (compEnvC scope cl C X.env) fp) elt el) (sub : ∀ i ∈ is, i ∈ own.map (·.2) := by decide) (hs : ∀ x, foldedSetIterable iter X.env x = pure x := by intro _; rfl) :
    PSd X (.Assign [.Name y py] (.ListComp elt [⟨tg, iter, ifs, 0⟩] scope pos) spos) (bSetC i (eLc fi g t el (own.map (·.2)))) :=
  PS.of (ps_setLc hc hN hy hyl hsw hi ok hg ht he hs) fun Dn σ H h => eLc_of (Q := fun x H1 => gName i x σ H1 Dn.nx) sub (bSetC_of h)
end
end DL

set_option Elab.async false
set_option linter.all false
set_option maxRecDepth 100000
set_option maxHeartbeats 4000000
namespace DL
open PySem L2
variable {X : Cx} {e : Expr} {es : List Expr} {f : ED} {g : AD} {pos : Pos}

/-! ### built-ins, by name -/
theorem bt_len : bootBuiltins "len" = some (.builtin "len") := by decide +kernel
theorem bt_abs : bootBuiltins "abs" = some (.builtin "abs") := by decide +kernel
theorem bt_int : bootBuiltins "int" = some (.type "int") := by decide +kernel
theorem bt_list : bootBuiltins "list" = some (.type "list") := by decide +kernel
theorem bt_tuple : bootBuiltins "tuple" = some (.type "tuple") := by decide +kernel
theorem bt_str : bootBuiltins "str" = some (.type "str") := by decide +kernel
theorem bt_bool : bootBuiltins "bool" = some (.type "bool") := by decide +kernel
theorem bt_sum : bootBuiltins "sum" = some (.builtin "sum") := by decide +kernel
theorem bt_all : bootBuiltins "all" = some (.builtin "all") := by decide +kernel
theorem bt_any : bootBuiltins "any" = some (.builtin "any") := by decide +kernel
theorem bt_max : bootBuiltins "max" = some (.builtin "max") := by decide +kernel
theorem bt_min : bootBuiltins "min" = some (.builtin "min") := by decide +kernel
section
variable {h1 : Prop}
theorem ped_len {p : Pos} (hm : X.mg "len" = none) (hg : Gl X "len") (ha : PAd X (e :: es) g) (h1 : starEach (e :: es) X.env = (false, eval e X.env) :: starEach es X.env := by rfl) (h2 : (backTo pos (starEach es X.env)).any (·.1) = false := by rfl) :
    PEd X (.Call (.Name "len" p) (e :: es) [] pos) (eN kLen g) := ped_callB call_len ok_len hg hm bt_len ha (by decide) (by decide) h1 h2
theorem ped_abs {p : Pos} (hm : X.mg "abs" = none) (hg : Gl X "abs") (ha : PAd X (e :: es) g) (h1 : starEach (e :: es) X.env = (false, eval e X.env) :: starEach es X.env := by rfl) (h2 : (backTo pos (starEach es X.env)).any (·.1) = false := by rfl) :
    PEd X (.Call (.Name "abs" p) (e :: es) [] pos) (eN kAbs g) := ped_callB call_abs ok_abs hg hm bt_abs ha (by decide) (by decide) h1 h2
theorem ped_toInt {p : Pos} (hm : X.mg "int" = none) (hg : Gl X "int") (ha : PAd X (e :: es) g) (h1 : starEach (e :: es) X.env = (false, eval e X.env) :: starEach es X.env := by rfl) (h2 : (backTo pos (starEach es X.env)).any (·.1) = false := by rfl) :
    PEd X (.Call (.Name "int" p) (e :: es) [] pos) (eN kInt g) := ped_callTy call_int1 ok_int hg hm bt_int ha (by decide) (by decide) h1 h2
theorem ped_toList {p : Pos} (hm : X.mg "list" = none) (hg : Gl X "list") (ha : PAd X (e :: es) g) (h1 : starEach (e :: es) X.env = (false, eval e X.env) :: starEach es X.env := by rfl) (h2 : (backTo pos (starEach es X.env)).any (·.1) = false := by rfl) :
    PEd X (.Call (.Name "list" p) (e :: es) [] pos) (eN kList g) := ped_callTy call_list_of ok_list hg hm bt_list ha (by decide) (by decide) h1 h2
theorem ped_toTuple {p : Pos} (hm : X.mg "tuple" = none) (hg : Gl X "tuple") (ha : PAd X (e :: es) g) (h1 : starEach (e :: es) X.env = (false, eval e X.env) :: starEach es X.env := by rfl) (h2 : (backTo pos (starEach es X.env)).any (·.1) = false := by rfl) :
    PEd X (.Call (.Name "tuple" p) (e :: es) [] pos) (eN kTuple g) := ped_callTy call_tuple_of ok_tuple hg hm bt_tuple ha (by decide) (by decide) h1 h2
theorem ped_sum {p : Pos} (hc : X.calm = true) (hm : X.mg "sum" = none) (hg : Gl X "sum") (ha : PAd X (e :: es) g) (h1 : starEach (e :: es) X.env = (false, eval e X.env) :: starEach es X.env := by rfl) (h2 : (backTo pos (starEach es X.env)).any (·.1) = false := by rfl) :
    PEd X (.Call (.Name "sum" p) (e :: es) [] pos) (eN kSum g) := ped_callB (cr_sum hc) ok_sum hg hm bt_sum ha (by decide) (by decide) h1 h2
theorem ped_all {p : Pos} (hc : X.calm = true) (hm : X.mg "all" = none) (hg : Gl X "all") (ha : PAd X (e :: es) g) (h1 : starEach (e :: es) X.env = (false, eval e X.env) :: starEach es X.env := by rfl) (h2 : (backTo pos (starEach es X.env)).any (·.1) = false := by rfl) :
    PEd X (.Call (.Name "all" p) (e :: es) [] pos) (eN kAll g) := ped_callB (cr_all hc) ok_all hg hm bt_all ha (by decide) (by decide) h1 h2
theorem ped_any {p : Pos} (hc : X.calm = true) (hm : X.mg "any" = none) (hg : Gl X "any") (ha : PAd X (e :: es) g) (h1 : starEach (e :: es) X.env = (false, eval e X.env) :: starEach es X.env := by rfl) (h2 : (backTo pos (starEach es X.env)).any (·.1) = false := by rfl) :
    PEd X (.Call (.Name "any" p) (e :: es) [] pos) (eN kAny g) := ped_callB (cr_any hc) ok_any hg hm bt_any ha (by decide) (by decide) h1 h2
theorem ped_max {p : Pos} (hu : X.A.units + 64 < cLine) (hc : X.calm = true) (hm : X.mg "max" = none) (hg : Gl X "max") (ha : PAd X (e :: es) g) (h1 : starEach (e :: es) X.env = (false, eval e X.env) :: starEach es X.env := by rfl) (h2 : (backTo pos (starEach es X.env)).any (·.1) = false := by rfl) :
    PEd X (.Call (.Name "max" p) (e :: es) [] pos) (eN kMax g) := ped_callB (cr_maxA hc hu) ok_maxA hg hm bt_max ha (by decide) (by decide) h1 h2
theorem ped_min {p : Pos} (hu : X.A.units + 64 < cLine) (hc : X.calm = true) (hm : X.mg "min" = none) (hg : Gl X "min") (ha : PAd X (e :: es) g) (h1 : starEach (e :: es) X.env = (false, eval e X.env) :: starEach es X.env := by rfl) (h2 : (backTo pos (starEach es X.env)).any (·.1) = false := by rfl) :
    PEd X (.Call (.Name "min" p) (e :: es) [] pos) (eN kMin g) := ped_callB (cr_minA hc hu) ok_minA hg hm bt_min ha (by decide) (by decide) h1 h2
end
/-! list(range(a, b)) -/
def eRg1 (f : ED) : ED := fun ρ S => (f ρ S).bind fun x => (rd x.2 (frz x.1)).bind fun a => (intD a).bind fun n => if inB n && decide (n.toNat ≤ 2 ^ 24) then some (.fr (upTo 0 n.toNat), x.2) else none
def eRg2 (f g : ED) : ED := fun ρ S => (f ρ S).bind fun x => (g ρ x.2).bind fun y => (rd y.2 (frz x.1)).bind fun a => (rd y.2 (frz y.1)).bind fun b => (intD a).bind fun i => (intD b).bind fun j =>
  if inB i && inB j && decide ((j - i).toNat ≤ 2 ^ 24) then some (.fr (upTo i (j - i).toNat), y.2) else none
theorem rps_rg {F : Hp} (a b : Int) : Rps F (rgV a b) (upTo a (b - a).toNat) := by
  unfold rgV upTo
  generalize (b - a).toNat = n
  have : ∀ l : List Nat, Rps F (l.map fun i => V.int (a + (i : Nat))) (l.map fun i => PyData.int (a + (i : Nat))) := fun l => by
    induction l with
    | nil => exact .nil
    | cons x xs ih => exact .cons (.int _) ih
  exact this _
theorem ped_listRg1 {a : Expr} {fa : ED} {p p2 pos2 : Pos} (hc : X.calm = true) (hg : Gl X "list") (hm : X.mg "list" = none) (hg2 : Gl X "range") (hm2 : X.mg "range" = none) (ha : PEd X a fa)
    (na : starEach [a] X.env = (false, eval a X.env) :: starEach [] X.env := by rfl) (nb : starEach [.Call (.Name "range" p) [a] [] p2] X.env = (false, eval (.Call (.Name "range" p) [a] [] p2) X.env) :: starEach [] X.env := by rfl) :
    PEd X (.Call (.Name "list" pos2) [.Call (.Name "range" p) [a] [] p2] [] pos) (eRg1 fa) := PE.of (pe_listRg hc hg hm (prg_1 hg2 hm2 ha na) nb) fun σ H Q h => by
  obtain ⟨ρ, S, m, F, r, S', e, en, s, q⟩ := h
  obtain ⟨⟨x, S1⟩, e1, e⟩ := Option.bind_eq_some_iff.mp e
  obtain ⟨d, e2, e⟩ := Option.bind_eq_some_iff.mp e
  obtain ⟨n, e3, e⟩ := Option.bind_eq_some_iff.mp e
  split at e
  · rename_i hb
    cases e
    rw [Bool.and_eq_true] at hb
    obtain ⟨b1, b2⟩ := inB_of hb.1
    refine tD_frz e1 en s fun v F1 H1 t1 h1 => ?_
    have r := rd_rp t1.sr h1 e2
    cases r <;> simp only [intD, reduceCtorEq, Option.some.injEq] at e3
    subst e3
    refine ⟨_, rfl, ⟨by decide, by decide, b1, b2, by simpa using of_decide_eq_true hb.2⟩, fun q' hq => ?_⟩
    have := rps_rg (F := F1) 0 ‹Int›
    rw [Int.sub_zero] at this
    exact fin_new t1.sr this hq (Fin.tr s t1 q)
  · cases e
theorem ped_listRg2 {a b : Expr} {fa fb : ED} {p p2 pos2 : Pos} (hc : X.calm = true) (hg : Gl X "list") (hm : X.mg "list" = none) (hg2 : Gl X "range") (hm2 : X.mg "range" = none) (ha : PEd X a fa) (hb : PEd X b fb)
    (na : starEach [a, b] X.env = (false, eval a X.env) :: starEach [b] X.env := by rfl) (na2 : starEach [b] X.env = (false, eval b X.env) :: starEach [] X.env := by rfl) (nb : starEach [.Call (.Name "range" p) [a, b] [] p2] X.env = (false, eval (.Call (.Name "range" p) [a, b] [] p2) X.env) :: starEach [] X.env := by rfl) (hpp : (backTo p2 (starEach [b] X.env)).any (·.1) = false := by rfl) :
    PEd X (.Call (.Name "list" pos2) [.Call (.Name "range" p) [a, b] [] p2] [] pos) (eRg2 fa fb) := PE.of (pe_listRg hc hg hm (prg_2 hg2 hm2 ha hb na na2 hpp) nb) fun σ H Q h => by
  obtain ⟨ρ, S, m, F, r, S', e, en, s, q⟩ := h
  obtain ⟨⟨x, S1⟩, e1, e⟩ := Option.bind_eq_some_iff.mp e
  obtain ⟨⟨y, S2⟩, e2, e⟩ := Option.bind_eq_some_iff.mp e
  obtain ⟨d, e3, e⟩ := Option.bind_eq_some_iff.mp e
  obtain ⟨d', e4, e⟩ := Option.bind_eq_some_iff.mp e
  obtain ⟨i, e5, e⟩ := Option.bind_eq_some_iff.mp e
  obtain ⟨j, e6, e⟩ := Option.bind_eq_some_iff.mp e
  split at e
  · rename_i hb
    cases e
    rw [Bool.and_eq_true, Bool.and_eq_true] at hb
    obtain ⟨b1, b2⟩ := inB_of hb.1.1
    obtain ⟨b3, b4⟩ := inB_of hb.1.2
    refine tD_frz e1 en s fun v F1 H1 t1 h1 => ?_
    refine tD_frz e2 (en.stp t1) t1.sr fun u F2 H2 t2 h2 => ?_
    have r := rd_rp t2.sr (h1.mono t2.gr.ex) e3
    have r' := rd_rp t2.sr h2 e4
    cases r <;> simp only [intD, reduceCtorEq, Option.some.injEq] at e5
    cases r' <;> simp only [intD, reduceCtorEq, Option.some.injEq] at e6
    subst e5 e6
    exact ⟨_, _, rfl, rfl, ⟨b1, b2, b3, b4, of_decide_eq_true hb.2⟩, fun q' hq => fin_new t2.sr (rps_rg _ _) hq (Fin.tr s (t1.tr s t2) q)⟩
  · cases e

/-! ### the script -/
def ScrH (K : PySem.W.Frag) (H : Hp) (a : Addr) (ns : List Int) : Prop := (∃ o, H a = some (.frz o (.lst (ns.map V.int)))) ∨
  ∃ (o : Obj) (its : Array Value) (n : Nat), K.lookup a = some o ∧ o.cls = .type "list" ∧ o.dict = none ∧ o.data = .seq its n ∧ its.size ≤ sizeLine ∧ Vals (ns.map V.int) its.toList
theorem ScrH.sq {K : PySem.W.Frag} {H : Hp} {a : Addr} {ns : List Int} (h : ScrH K H a ns) : SqL K H a (ns.map V.int) := by
  rcases h with ⟨o, h⟩ | h
  · exact .inl (.inr ⟨o, h⟩)
  · exact .inr h
theorem ScrH.stp {K : PySem.W.Frag} {m m' : List Addr} {F H F' H' : Hp} {S S' : Sto} {a : Addr} {ns : List Int} (h : ScrH K H a ns) (s : SR m F H S) (t : Stp m F H m' F' H' S') : ScrH K H' a ns := by
  rcases h with ⟨o, h⟩ | h
  · refine .inl ⟨o, t.kp a _ h fun z => ?_⟩
    obtain ⟨vs, q⟩ := s.dom z
    rw [h] at q; cases q
  · exact .inr h
theorem ScrH.inv {pins : List (Addr × Obj)} {σ : L2.St} {H : Hp} {s : Shared} {a : Addr} {ns : List Int} (h : ScrH X.K X.H_0 a ns) (I : L2.Inv X pins σ H s) : ScrH X.K H a ns := by
  rcases h with ⟨o, h⟩ | h
  · exact .inl ⟨o, I.base.frzs a o _ h⟩
  · exact .inr h
theorem PE.ofI {e : Expr} {t u : TE} (h : PE X e t) (k : ∀ pins s σ H Q, L2.Inv X pins σ H s → u σ H Q → t σ H Q) : PE X e u := ⟨fun pins s σ H Q I q => h.run pins s σ H Q I (k pins s σ H Q I q)⟩
def isX (a : Addr) : Option Sl → Bool
  | some (.x b) => b == a
  | _ => false
def eScr (a : Addr) (ns : List Int) (i : Nat) (lo hi : OD) : ED := fun ρ S => if isX a (ρ.getD i none) then (lo ρ S).bind fun y => (hi ρ y.2).bind fun z => some (.fr ((cutL ns y.1 z.1).map .int), z.2) else none
theorem rps_ints {F : Hp} : ∀ ns : List Int, Rps F (ns.map V.int) (ns.map PyData.int)
  | [] => .nil
  | n :: ns => .cons (.int n) (rps_ints ns)
theorem isX_of {a : Addr} {i : Nat} {ρ : En} (h : isX a (ρ.getD i none) = true) : ρ[i]? = some (some (.x a)) := by
  rw [List.getD_eq_getElem?_getD] at h
  cases hi : ρ[i]? with
  | none => rw [hi] at h; cases h
  | some z =>
    rw [hi] at h
    have h : isX a z = true := h
    unfold isX at h
    split at h
    · rw [eq_of_beq h]
    · cases h
theorem ped_scr {a : Addr} {ns : List Int} (hS : ScrH X.K X.H_0 a ns) (i : Nat) {x : Str} {p p2 : Pos} {lo hi : Option Expr} {fl fh : OD} (hv : PE X (.Name x p) (tVar i)) (hl : POd X lo fl) (hh : POd X hi fh) : PEd X (.Subscript (.Name x p) (.Slice lo hi none p2) pos) (eScr a ns i fl fh) :=
  PE.ofI (pe_slice sl_list hv hl hh) fun pins s σ H Q I h => by
    obtain ⟨ρ, S, m, F, r, S', e, en, sr, q⟩ := h
    unfold eScr at e
    split at e
    · rename_i hx
      obtain ⟨⟨y, S2⟩, e2, e⟩ := Option.bind_eq_some_iff.mp e
      obtain ⟨⟨z, S3⟩, e3, e⟩ := Option.bind_eq_some_iff.mp e
      cases e
      obtain ⟨v, hσ, rv⟩ := en.get i _ (isX_of hx)
      have rv : v = .ref a := rv
      subst rv
      refine ⟨_, hσ, ρ, S, m, F, y, S2, e2, en, sr, fun F2 H2 t2 => ?_⟩
      refine ⟨ρ, S2, m, F2, z, S3, e3, en.stp t2, t2.sr, fun F3 H3 t3 => ?_⟩
      have t23 := t2.tr sr t3
      refine ⟨a, ns.map V.int, rfl, ((hS.inv I).stp sr t23).sq, fun p hp => ?_⟩
      have := (rps_ints (F := F3) ns).cut y z
      have e4 : cutL (ns.map PyData.int) y z = (cutL ns y z).map PyData.int := by
        unfold cutL
        simp only [List.length_map, List.map_take, List.map_drop]
      rw [e4] at this
      exact fin_new t3.sr this hp (Fin.tr sr t23 q)
    · cases e
/-! defs that are handed the script -/
def spS (K : PySem.W.Frag) (a : Addr) (ns : List Int) (f : FD) : Sp := fun vs H Q E => ScrH K H a ns ∧ spD f vs H Q E
structure CalS (P : Program) (w : World) (K : PySem.W.Frag) (mg : Str → Option Value) (base : Heap) (k : Nat) (x : Str) (ps : List Str) (a : Addr) (ns : List Int) (f : FD) : Prop where
  ex : ∃ (b : Addr) (fd : FuncData), mg x = some (.ref b) ∧ PySem.W.keepIn K (.ref b) = true ∧ Binds K fd ps [] ∧ FnOk P w K mg base CX0 k b fd ps (spS K a ns f)
theorem ped_callS {a : Addr} {ns : List Int} (hS : ScrH X.K X.H_0 a ns) {k : Nat} {x : Str} {p : Pos} {ps : List Str} {f : FD} (C : CalS X.prog X.w X.K X.mg X.base k x ps a ns f) (hr : Room k X.A) (hg : Gl X x) (ha : PAd X (e :: es) g) (hdb : (x == ("__debug__" : Str)) = false := by decide)
    (he : starEach (e :: es) X.env = (false, eval e X.env) :: starEach es X.env := by rfl) (hpl : (backTo pos (starEach es X.env)).any (·.1) = false := by rfl) : PEd X (.Call (.Name x p) (e :: es) [] pos) (eN f g) := by
  obtain ⟨fa, fd, hm, hk, hb, F⟩ := C.ex
  refine PE.ofI (pe_call F hr hg hm hk hb .nil pass0 ha hdb he hpl) fun pins s σ H Q I h => ?_
  obtain ⟨ρ, S, m, F, r, S', e, en, sr, q⟩ := h
  obtain ⟨⟨ws, S1⟩, e1, e⟩ := Option.bind_eq_some_iff.mp e
  refine ⟨ρ, S, m, F, ws, S1, e1, en, sr, fun vs F1 H1 t1 h1 => ?_⟩
  exact ⟨(hS.inv I).stp sr t1, m, F1, S1, ws, r, S', by rw [List.append_nil]; exact h1, t1.sr, e, Fin.tr sr t1 q⟩
section
variable {P : Program} {w : World} {K : PySem.W.Frag} {mg : Str → Option Value} {base : Heap}
theorem fn_okS {x qual : Str} {st : Stmt} {a0 : Addr} {ns : List Int} {a : Addr} {fd : FuncData} {N ps : List Str} {k : Nat} {b : SD} (Fn : Fun K x qual st a fd) (Sc : FnScope N ps (defScope st))
    (body : ∀ (cdv : Value) (A : Around) (outer : List Env) (s : Shared) (H : Hp) (E : XK), Room k (A.deeper (PyProof.Rows.envOfC qual (defScope st) s.heap.objs.size a cdv)) → ScrH K H a0 ns → PSsd (cxOf CX0 P w K mg base N qual (defScope st) a cdv A outer s H E).nox (defBody st) b) :
    FnOk P w K mg base CX0 (k + 1) a fd ps (spS K a0 ns (den ps.length N.length b)) := by
  refine Fn.ok Sc (fun vs H Q E h => ?_) (fun cdv A outer s H vs Q E hr h => ?_)
  · obtain ⟨_, m, F, S, ws, r, S', h1, h2, h3, h4⟩ := h
    unfold den at h3
    split at h3
    · rename_i hl
      rw [h1.length]; exact hl
    · cases h3
  · obtain ⟨hS, m, F, S, ws, r, S', h1, h2, h3, h4⟩ := h
    unfold den at h3
    split at h3
    · rename_i hl
      obtain ⟨o, e1, e2⟩ := Option.bind_eq_some_iff.mp h3
      refine ⟨_, body cdv A outer s H E hr hS, _, S, m, F, o, e1, start_enr h1 hl, h2, ?_⟩
      cases o with
      | rt r' S1 =>
        intro m' F' H' v t hv
        obtain ⟨t', hv'⟩ := retC_ok h2 t hv e2
        exact h4 v F' H' t' hv'
      | nx ρ S1 =>
        intro m' F' H' σ' t en
        cases e2
        exact h4 .non F' H' (t.take h2) .non
      | bk ρ S1 => cases e2
      | ct ρ S1 => cases e2
    · cases h3
theorem fn_ex {a : Addr} {fd : FuncData} {ps : List Str} {k : Nat} {f : Addr → List Int → FD} (h : ∀ a0 ns, FnOk P w K mg base CX0 k a fd ps (spS K a0 ns (f a0 ns))) : FnOk P w K mg base CX0 k a fd ps (fun vs H Q E => ∃ a0 ns, spS K a0 ns (f a0 ns) vs H Q E) :=
  ⟨fun vs H Q E ⟨a0, ns, q⟩ => (h a0 ns).len vs H Q E q, fun A outer s H args us vs Q E hr e0 hb hv ⟨a0, ns, q⟩ => (h a0 ns).run A outer s H args us vs Q E hr e0 hb hv q⟩
end
/-! ### return f(e), e a new list that f changes -/
def tA1 (f1 : ED) : TA := fun σ H Q => ∃ ρ S m F xs S1, f1 ρ S = some (.fr xs, S1) ∧ EnR m F σ ρ ∧ SR m F H S ∧ ∀ v m' F1 H1, Stp m F H m' F1 H1 (S1 ++ [.on xs]) → RpS m' F1 v (.c S1.length) → Q [v] H1
def bRetNew (f : FD) (f1 : ED) : SD := fun ρ S => (f1 ρ S).bind fun x => match x.1 with
  | .fr xs => (f [.c x.2.length] (x.2 ++ [.on xs])).bind fun y => some (.rt y.1 y.2)
  | .w _ => none
theorem psd_retNew {e1 : Expr} {f1 : ED} {k : Nat} {x : Str} {p p2 : Pos} {ps : List Str} {f : FD} (C : Cal X.prog X.w X.K X.mg X.base k x ps f) (hr : Room k X.A) (hg : Gl X x) (ha : PEd X e1 f1) (hdb : (x == ("__debug__" : Str)) = false := by decide)
    (he : starEach [e1] X.env = (false, eval e1 X.env) :: starEach [] X.env := by rfl) (hpl : (backTo p2 (starEach [] X.env)).any (·.1) = false := by rfl) : PSd X (.Return (some (.Call (.Name x p) [e1] [] p2)) pos) (bRetNew f f1) := by
  obtain ⟨fa, fd, hm, hk, hb, F⟩ := C.ex
  have h1 : PA X [e1] (tA1 f1) := PA.of (pa_cons ha pa_nil he) fun σ H Q h => by
    obtain ⟨ρ, S, m, F, xs, S1, e, en, sr, q⟩ := h
    refine ⟨ρ, S, m, F, _, S1, e, en, sr, fun v F1 H1 t1 h1 => ?_⟩
    obtain ⟨m', t', h'⟩ := new_cell t1 h1
    exact q v m' F1 H1 t' h'
  refine PS.of (ps_ret (pe_call F hr hg hm hk hb .nil pass0 h1 hdb he hpl)) fun Dn σ H h => ?_
  obtain ⟨ρ, S, m, F, o, e, en, s, q⟩ := h
  obtain ⟨⟨x, S1⟩, e1, e⟩ := Option.bind_eq_some_iff.mp e
  cases x with
  | w z => cases e
  | fr xs =>
    obtain ⟨⟨y, S2⟩, e2, e⟩ := Option.bind_eq_some_iff.mp e
    cases e
    refine ⟨ρ, S, m, F, xs, S1, e1, en, s, fun v m' F1 H1 t1 h1 => ?_⟩
    refine ⟨m', F1, _, [.c S1.length], y, S2, by rw [List.append_nil]; exact .cons h1 .nil, t1.sr, e2, fun v' F' H' t' h' => ?_⟩
    exact q m' F' H' v' (t1.tr s t') (h'.back s t1)
/-! ### a, b = e, e', some of them cells -/
def mkC (c : Bool) (x : Rs × Sto) : Option (Sl × Sto) := if c then (match x.1 with
  | .fr xs => some (.c x.2.length, x.2 ++ [.on xs])
  | .w _ => none) else some (frz x.1, x.2)
theorem mkC_ok {m m1 : List Addr} {F H F1 H1 : Hp} {S1 S2 : Sto} {v : V} {r : Rs} {c : Bool} {w : Sl} (t : Stp m F H m F1 H1 S1) (h : RpR m F1 H H1 v r) (e : mkC c (r, S1) = some (w, S2)) : ∃ m' F', Stp m F H m' F' H1 S2 ∧ RpS m' F' v w := by
  unfold mkC at e
  split at e
  · cases r with
    | w x => cases e
    | fr xs =>
      cases e
      obtain ⟨m', t', h'⟩ := new_cell t h
      exact ⟨m', F1, t', h'⟩
  · cases e
    obtain ⟨F', t', h'⟩ := t.frz h
    exact ⟨m, F', t', h'⟩
theorem RpS.stp {m m' : List Addr} {F H F' H' : Hp} {S' : Sto} {v : V} {w : Sl} (h : RpS m F v w) (t : Stp m F H m' F' H' S') : RpS m' F' v w := by
  obtain ⟨l, e, _⟩ := t.more
  rw [e]
  exact (h.mono t.gr.ex).more
def bParC (i j : Nat) (c1 c2 : Bool) (f g : ED) : SD := fun ρ S => (f ρ S).bind fun x => (mkC c1 x).bind fun u => (g ρ u.2).bind fun y => (mkC c2 y).bind fun v => some (.nx ((ρ.set i (some u.1)).set j (some v.1)) v.2)
theorem psd_parC {i j : Nat} {c1 c2 : Bool} {x y : Str} {a b : Expr} {f g : ED} {px py pt : Pos} {kt k2 pt2} (hc : X.calm = true) (hN : X.N.Nodup) (hi : X.N[i]? = some x) (hj : X.N[j]? = some y) (hij : i ≠ j)
    (hx : X.env.scope.names.lookup x = some .local) (hy : X.env.scope.names.lookup y = some .local) (ha : PEd X a f) (hb : PEd X b g)
    (hw : swappedStores [.Tuple [.Name x px, .Name y py] kt pt] (.Tuple [a, b] k2 pt2) X.env = pure (some [x, y]))
    (hs : swapsWithSole [.Tuple [.Name x px, .Name y py] kt pt] (.Tuple [a, b] k2 pt2) pos.line X.env = pure false := by rfl)
    (h1 : starEach [a, b] X.env = (false, eval a X.env) :: starEach [b] X.env := by rfl) (h2 : starEach [b] X.env = (false, eval b X.env) :: starEach [] X.env := by rfl) :
    PSd X (.Assign [.Tuple [.Name x px, .Name y py] kt pt] (.Tuple [a, b] k2 pt2) pos) (bParC i j c1 c2 f g) := PS.of (ps_par hc hN hi hj hij hx hy (pa_cons ha (pa_cons hb pa_nil h2) h1) hw hs) fun Dn σ H h => by
  obtain ⟨ρ, S, m, F, o, e, en, s, q⟩ := h
  obtain ⟨⟨x, S1⟩, e1, e⟩ := Option.bind_eq_some_iff.mp e
  obtain ⟨⟨u, S2⟩, e2, e⟩ := Option.bind_eq_some_iff.mp e
  obtain ⟨⟨y, S3⟩, e3, e⟩ := Option.bind_eq_some_iff.mp e
  obtain ⟨⟨v, S4⟩, e4, e⟩ := Option.bind_eq_some_iff.mp e
  cases e
  refine ⟨ρ, S, m, F, x, S1, e1, en, s, fun vx F1 H1 t1 h1 => ?_⟩
  obtain ⟨m2, F2, t2, r2⟩ := mkC_ok (m1 := m) t1 h1 e2
  refine ⟨ρ, S2, m2, F2, y, S3, e3, en.stp t2, t2.sr, fun vy F3 H3 t3 h3 => ?_⟩
  obtain ⟨m4, F4, t4, r4⟩ := mkC_ok (m1 := m2) t3 h3 e4
  exact ⟨vx, vy, rfl, q m4 F4 H3 _ (t2.tr s t4) (((en.stp (t2.tr s t4)).set i (r2.stp t4)).set j r4)⟩
section
variable {P : Program} {w : World} {K : PySem.W.Frag} {mg : Str → Option Value} {base : Heap}
theorem fn_none {x qual : Str} {st : Stmt} {a : Addr} {fd : FuncData} {ps : List Str} {k : Nat} (Fn : Fun K x qual st a fd) : FnOk P w K mg base CX0 k a fd ps (spD fun _ _ => none) := by
  constructor
  · intro vs H Q E h
    obtain ⟨m, F, S, ws, r, S', h1, h2, h3, h4⟩ := h
    cases h3
  · intro A outer s H args us vs Q E hr e0 hb hv h
    obtain ⟨m, F, S, ws, r, S', h1, h2, h3, h4⟩ := h
    cases h3
end
/-- the law's promise, at its end -/
theorem law_end {K : PySem.W.Frag} {H : Hp} {a : Addr} {ns : List Int} {f : Addr → List Int → FD} (hO : Only H) (hS : SqL K H a (ns.map V.int)) (h : f a ns [.x a] [] = some (.w (.d (.bool true)), [])) :
    ∃ a0 ns, spS K a0 ns (f a0 ns) [.ref a] H (fun v _ => v = .bl true) fun _ _ _ => False := by
  refine ⟨a, ns, ?_, [], fun _ => none, [], [.x a], _, _, .cons rfl .nil, ⟨fun b o z => (by cases z), List.nodup_nil, rfl, fun i b c z => (by simp at z)⟩, h, fun v F' H' t r => ?_⟩
  · rcases hS with (z | ⟨o, z⟩) | z
    · rcases hO a with q | ⟨o, xs, q⟩
      · rw [q] at z; cases z
      · rw [q] at z; cases z
    · exact .inl ⟨o, z⟩
    · exact .inr z
  · cases (show Rp F' v (.bool true) from r)
    rfl
theorem room_hu {k : Nat} {A : Around} (hr : Room k A) : A.units + 65 < cLine := by
  have := hr.un
  omega
end DL

set_option Elab.async false
set_option linter.all false
set_option maxRecDepth 100000
set_option maxHeartbeats 4000000
/-! The combinators, reckoned: what simp needs. -/
namespace DL
open PySem L2
section
variable {ρ : En} {S : Sto} {f g h : ED} {t u : BD} {a b : AD} {k : K1} {k2 k2' : K2} {kn : KN} {km : KM} {bb cc : SD} {o o' : OD}
@[simp] theorem eC_ (x : D) : eC x ρ S = some (.w (.d x), S) := rfl
@[simp] theorem eVar_ (i : Nat) : eVar i ρ S = (ρ.getD i none).map fun w => (Rs.w w, S) := rfl
@[simp] theorem aNil_ : aNil ρ S = some ([], S) := rfl
@[simp] theorem aCons_ : aCons f a ρ S = (f ρ S).bind fun x => (a ρ x.2).bind fun y => some (frz x.1 :: y.1, y.2) := rfl
@[simp] theorem frz_w (x : Sl) : frz (.w x) = x := rfl
@[simp] theorem frz_fr (xs : List D) : frz (.fr xs) = .d (.list xs) := rfl
@[simp] theorem rd_d (x : D) : rd S (.d x) = some x := rfl
@[simp] theorem rd_c (i : Nat) : rd S (.c i) = (S[i]?).map fun c => .list c.xs := rfl
@[simp] theorem off_d (x : D) : off S (.d x) = some (.d x, S) := rfl
@[simp] theorem off_c (i : Nat) : off S (.c i) = (S[i]?).bind fun c => some (.d (.list c.xs), S.set i (.off c.xs)) := rfl
@[simp] theorem dat_d (x : D) : dat (.d x) = some x := rfl
@[simp] theorem offs_nil : offs S [] = some ([], S) := rfl
@[simp] theorem offs_cons (w : Sl) (ws : List Sl) : offs S (w :: ws) = (off S w).bind fun y => (dat y.1).bind fun d => (offs y.2 ws).bind fun z => some (d :: z.1, z.2) := rfl
@[simp] theorem xs_on (xs : List D) : (Cel.on xs).xs = xs := rfl
@[simp] theorem xs_off (xs : List D) : (Cel.off xs).xs = xs := rfl
@[simp] theorem e1_ : e1 k f ρ S = (f ρ S).bind fun x => k (frz x.1) x.2 := rfl
@[simp] theorem e2_ : e2 k2 f g ρ S = (f ρ S).bind fun x => (g ρ x.2).bind fun y => k2 (frz x.1) (frz y.1) y.2 := rfl
@[simp] theorem eN_ : eN kn a ρ S = (a ρ S).bind fun x => kn x.1 x.2 := rfl
@[simp] theorem eM_ : eM km f a ρ S = (f ρ S).bind fun x => (rd x.2 (frz x.1)).bind fun d => if isLs d then (a ρ x.2).bind fun y => km (frz x.1) y.1 y.2 else none := rfl
@[simp] theorem isLs_l (xs : List D) : isLs (.list xs) = true := rfl
@[simp] theorem k1D_ (op : D → Option D) (x : D) : k1D op (.d x) S = (op x).bind fun z => some (.w (.d z), S) := rfl
@[simp] theorem k2D_ (op : D → D → Option D) (x y : D) : k2D op (.d x) (.d y) S = (op x y).bind fun z => some (.w (.d z), S) := rfl
@[simp] theorem kN1_ (w : Sl) : kN1 k [w] S = k w S := rfl
@[simp] theorem kN2_ (w v : Sl) : kN2 k2 [w, v] S = k2 w v S := rfl
@[simp] theorem oI_ (g : Int → Int → Int) (i j : Int) : oI g (.int i) (.int j) = some (.int (g i j)) := rfl
@[simp] theorem oIb_ (g : Int → Int → Bool) (i j : Int) : oIb g (.int i) (.int j) = some (.bool (g i j)) := rfl
@[simp] theorem oIc_ (C : Int → Int → Bool) (g : Int → Int → Int) (i j : Int) : oIc C g (.int i) (.int j) = if C i j then some (.int (g i j)) else none := rfl
@[simp] theorem eAdd_ : eAdd f g ρ S = (f ρ S).bind fun x => (g ρ x.2).bind fun y => kAdd (frz x.1) (frz y.1) y.2 := rfl
@[simp] theorem kAdd_ints (i j : Int) : kAdd (.d (.int i)) (.d (.int j)) S = some (.w (.d (.int (i + j))), S) := rfl
@[simp] theorem kAdd_lists (xs ys : List D) : kAdd (.d (.list xs)) (.d (.list ys)) S = kCat (.d (.list xs)) (.d (.list ys)) S := by
  cases h : kCat (.d (.list xs)) (.d (.list ys)) S <;> simp [kAdd, oI, h, kCatT, oStr]
@[simp] theorem kAdd_tups (a b : List D) : kAdd (.d (.tuple a)) (.d (.tuple b)) S = if a.length + b.length ≤ sizeLine then some (.w (.d (.tuple (a ++ b))), S) else none := by
  by_cases h : a.length + b.length ≤ sizeLine
  · rw [if_pos h]
    have : kCatT (.d (.tuple a)) (.d (.tuple b)) S = some (.w (.d (.tuple (a ++ b))), S) := by
      show (if a.length + b.length ≤ sizeLine then _ else _) = _
      rw [if_pos h]
    show ((none : Option (Rs × Sto)).or ((none : Option (Rs × Sto)).or ((kCatT (.d (.tuple a)) (.d (.tuple b)) S).or _))) = _
    rw [this]
    rfl
  · rw [if_neg h]
    have : kCatT (.d (.tuple a)) (.d (.tuple b)) S = none := by
      show (if a.length + b.length ≤ sizeLine then _ else _) = _
      rw [if_neg h]
    show ((none : Option (Rs × Sto)).or ((none : Option (Rs × Sto)).or ((kCatT (.d (.tuple a)) (.d (.tuple b)) S).or _))) = _
    rw [this]
    rfl
@[simp] theorem kCat_lists (a b : List D) : kCat (.d (.list a)) (.d (.list b)) S = if a.length + b.length ≤ sizeLine then some (.fr (a ++ b), S) else none := rfl
@[simp] theorem eSub_ : eSub f g ρ S = (f ρ S).bind fun x => (g ρ x.2).bind fun y => k2D (oI fun i j => i - j) (frz x.1) (frz y.1) y.2 := rfl
@[simp] theorem eMul_ : eMul f g ρ S = (f ρ S).bind fun x => (g ρ x.2).bind fun y => kMul (frz x.1) (frz y.1) y.2 := rfl
@[simp] theorem kMul_ints (i j : Int) : kMul (.d (.int i)) (.d (.int j)) S = if cMul i j then some (.w (.d (.int (i * j))), S) else none := by
  by_cases h : cMul i j = true <;> simp [kMul, h, kRep]
@[simp] theorem eDiv_ : eDiv f g ρ S = (f ρ S).bind fun x => (g ρ x.2).bind fun y => k2D (oIc cDiv fun i j => i / j) (frz x.1) (frz y.1) y.2 := rfl
@[simp] theorem eMod_ : eMod f g ρ S = (f ρ S).bind fun x => (g ρ x.2).bind fun y => k2D (oIc (fun _ j => decide (0 < j)) fun i j => i % j) (frz x.1) (frz y.1) y.2 := rfl
@[simp] theorem ePow_ : ePow f g ρ S = (f ρ S).bind fun x => (g ρ x.2).bind fun y => k2D (oIc cPow fun i j => i ^ j.toNat) (frz x.1) (frz y.1) y.2 := rfl
@[simp] theorem eNeg_ : eNeg f ρ S = (f ρ S).bind fun x => k1D oNeg (frz x.1) x.2 := rfl
@[simp] theorem oNeg_ (i : Int) : oNeg (.int i) = some (.int (-i)) := rfl
@[simp] theorem eLt_ : eLt f g ρ S = (f ρ S).bind fun x => (g ρ x.2).bind fun y => kLt (frz x.1) (frz y.1) y.2 := rfl
@[simp] theorem eLe_ : eLe f g ρ S = (f ρ S).bind fun x => (g ρ x.2).bind fun y => kLe (frz x.1) (frz y.1) y.2 := rfl
@[simp] theorem eGt_ : eGt f g ρ S = (f ρ S).bind fun x => (g ρ x.2).bind fun y => kGt (frz x.1) (frz y.1) y.2 := rfl
@[simp] theorem eGe_ : eGe f g ρ S = (f ρ S).bind fun x => (g ρ x.2).bind fun y => kGe (frz x.1) (frz y.1) y.2 := rfl
@[simp] theorem eEq_ : eEq f g ρ S = (f ρ S).bind fun x => (g ρ x.2).bind fun y => kEq (frz x.1) (frz y.1) y.2 := rfl
@[simp] theorem eNe_ : eNe f g ρ S = (f ρ S).bind fun x => (g ρ x.2).bind fun y => kNe (frz x.1) (frz y.1) y.2 := rfl
theorem eqv_int (i j : Int) : PyData.eqv (.int i) (.int j) = decide (i = j) := by
  by_cases h : i = j
  · subst h; simp [PyData.eqv]
  · simp [PyData.eqv, h]
theorem shaped_int (i : Int) : SeqAt.shaped (.int i) = true := by simp [SeqAt.shaped, PyData.canLay0, PyData.depth]
theorem shaped_bool (i : Bool) : SeqAt.shaped (.bool i) = true := by simp [SeqAt.shaped, PyData.canLay0, PyData.depth]
theorem shaped_none : SeqAt.shaped (.none) = true := by simp [SeqAt.shaped, PyData.canLay0, PyData.depth]
@[simp] theorem oEq_ints (n : Bool) (i j : Int) : oEq n (.int i) (.int j) = some (.bool (n ^^ decide (i = j))) := by
  simp [oEq, shaped_int, eqv_int]
@[simp] theorem oEq_bools (n : Bool) (i j : Bool) : oEq n (.bool i) (.bool j) = some (.bool (n ^^ decide (i = j))) := by
  simp only [oEq, shaped_bool, Bool.and_self, if_true]
  cases i <;> cases j <;> simp [PyData.eqv]
@[simp] theorem bE_ : bE f ρ S = (f ρ S).bind fun x => (rd x.2 (frz x.1)).bind fun a => (tsD a).bind fun b => some (b, x.2) := rfl
@[simp] theorem tsD_ (b : Bool) : tsD (.bool b) = some b := rfl
@[simp] theorem bAnd_ : bAnd t u ρ S = (t ρ S).bind fun x => if x.1 then u ρ x.2 else some (false, x.2) := rfl
@[simp] theorem bOr_ : bOr t u ρ S = (t ρ S).bind fun x => if x.1 then some (true, x.2) else u ρ x.2 := rfl
@[simp] theorem bNot_ : bNot t ρ S = (t ρ S).bind fun x => some (!x.1, x.2) := rfl
@[simp] theorem eAndV_ : eAndV f g ρ S = (f ρ S).bind fun x => (rd x.2 (frz x.1)).bind fun a => (tsD a).bind fun b => if b then g ρ x.2 else some (.w (.d (.bool false)), x.2) := rfl
@[simp] theorem eOrV_ : eOrV f g ρ S = (f ρ S).bind fun x => (rd x.2 (frz x.1)).bind fun a => (tsD a).bind fun b => if b then some (.w (.d (.bool true)), x.2) else g ρ x.2 := rfl
@[simp] theorem eOrT_ : eOrT f g ρ S = (f ρ S).bind fun x => (rd x.2 (frz x.1)).bind fun a => (trD a).bind fun b => if b then some (x.1, x.2) else g ρ x.2 := rfl
@[simp] theorem eNotV_ : eNotV f ρ S = (f ρ S).bind fun x => k1D oNot (frz x.1) x.2 := rfl
@[simp] theorem oNot_ (b : Bool) : oNot (.bool b) = some (.bool (!b)) := rfl
@[simp] theorem eIf_ : eIf t f g ρ S = (t ρ S).bind fun x => if x.1 then f ρ x.2 else g ρ x.2 := rfl
@[simp] theorem bT_ : bT f ρ S = (f ρ S).bind fun x => (rd x.2 (frz x.1)).bind fun a => (trD a).bind fun b => some (b, x.2) := rfl
@[simp] theorem eIsN_ : eIsN f ρ S = (f ρ S).bind fun x => k1N false (frz x.1) x.2 := rfl
@[simp] theorem eNotN_ : eNotN f ρ S = (f ρ S).bind fun x => k1N true (frz x.1) x.2 := rfl
@[simp] theorem k1N_int (n : Bool) (i : Int) : k1N n (.d (.int i)) S = some (.w (.d (.bool n)), S) := by cases n <;> rfl
@[simp] theorem k1N_none (n : Bool) : k1N n (.d .none) S = some (.w (.d (.bool (!n))), S) := by cases n <;> rfl
@[simp] theorem eIx_ : eIx f g ρ S = (f ρ S).bind fun x => (g ρ x.2).bind fun y => kIx (frz x.1) (frz y.1) y.2 := rfl
@[simp] theorem kIx_t (xs : List D) (i : Int) : kIx (.d (.tuple xs)) (.d (.int i)) S = (atI xs i).bind fun z => some (.w (.d z), S) := rfl
@[simp] theorem kIx_l (xs : List D) (i : Int) : kIx (.d (.list xs)) (.d (.int i)) S = (atI xs i).bind fun z => some (.w (.d z), S) := rfl
@[simp] theorem oNon_ : oNon ρ S = some (none, S) := rfl
@[simp] theorem oSom_ : oSom f ρ S = (f ρ S).bind fun x => (rd x.2 (frz x.1)).bind fun a => (intD a).bind fun i => some (some i, x.2) := rfl
@[simp] theorem intD_ (i : Int) : intD (.int i) = some i := rfl
@[simp] theorem eSl_ : eSl f o o' ρ S = (f ρ S).bind fun x => (o ρ x.2).bind fun y => (o' ρ y.2).bind fun z => kSl (frz x.1) y.1 z.1 z.2 := rfl
@[simp] theorem kSl_t (xs : List D) (i j : Option Int) : kSl (.d (.tuple xs)) i j S = some (.w (.d (.tuple (cutL xs i j))), S) := rfl
@[simp] theorem kSl_l (xs : List D) (i j : Option Int) : kSl (.d (.list xs)) i j S = some (.fr (cutL xs i j), S) := rfl
@[simp] theorem eLst_ : eLst a ρ S = (a ρ S).bind fun x => (offs x.2 x.1).bind fun y => if y.1.length ≤ sizeLine then some (.fr y.1, y.2) else none := rfl
@[simp] theorem eTup_ : eTup a ρ S = (a ρ S).bind fun x => (offs x.2 x.1).bind fun y => if y.1.length ≤ sizeLine then some (.w (.d (.tuple y.1)), y.2) else none := rfl
@[simp] theorem oLen_l (xs : List D) : oLen (.list xs) = some (.int xs.length) := rfl
@[simp] theorem oLen_t (xs : List D) : oLen (.tuple xs) = some (.int xs.length) := rfl
@[simp] theorem oAbs_ (i : Int) : oAbs (.int i) = some (.int i.natAbs) := by
  show some (PyData.int (if i < 0 then -i else i)) = _
  congr 2
  split <;> omega
@[simp] theorem oInt_ (i : Int) : oInt (.int i) = some (.int i) := rfl
@[simp] theorem kList_l (xs : List D) : kList [.d (.list xs)] S = some (.fr xs, S) := rfl
@[simp] theorem kList_t (xs : List D) : kList [.d (.tuple xs)] S = some (.fr xs, S) := rfl
@[simp] theorem bSeq_ : bSeq bb cc ρ S = (bb ρ S).bind fun o => match o with
  | .nx ρ1 S1 => cc ρ1 S1
  | .rt r S1 => some (.rt r S1)
  | .bk ρ1 S1 => some (.bk ρ1 S1)
  | .ct ρ1 S1 => some (.ct ρ1 S1) := by
  unfold bSeq
  cases bb ρ S with
  | none => rfl
  | some o => cases o <;> rfl
@[simp] theorem bNil_ : bNil ρ S = some (.nx ρ S) := rfl
@[simp] theorem bBrk_ : bBrk ρ S = some (.bk ρ S) := rfl
@[simp] theorem bCnt_ : bCnt ρ S = some (.ct ρ S) := rfl
@[simp] theorem bX_ : bX f ρ S = (f ρ S).bind fun x => some (.nx ρ x.2) := rfl
@[simp] theorem bRet_ : bRet f ρ S = (f ρ S).bind fun x => some (.rt x.1 x.2) := rfl
@[simp] theorem bRetN_ : bRetN ρ S = some (.rt (.w (.d .none)) S) := rfl
@[simp] theorem bIf_ : bIf t bb cc ρ S = (t ρ S).bind fun x => if x.1 then bb ρ x.2 else cc ρ x.2 := rfl
@[simp] theorem bSet_ (i : Nat) : bSet i f ρ S = (f ρ S).bind fun x => some (.nx (ρ.set i (some (frz x.1))) x.2) := rfl
@[simp] theorem bAug_ (i : Nat) : bAug i k2 f ρ S = (ρ.getD i none).bind fun w => (f ρ S).bind fun x => (k2 w (frz x.1) x.2).bind fun z => some (.nx (ρ.set i (some (frz z.1))) z.2) := rfl
@[simp] theorem bUnp_ (is : List Nat) : bUnp is f ρ S = (f ρ S).bind fun x => (rd x.2 (frz x.1)).bind fun d => match d with
  | .tuple ds => (setAll is ds ρ).bind fun ρ' => some (.nx ρ' x.2)
  | _ => none := rfl
@[simp] theorem bPar_ (i j : Nat) : bPar i j a ρ S = (a ρ S).bind fun x => match x.1 with
  | [v, w] => some (.nx ((ρ.set i (some v)).set j (some w)) x.2)
  | _ => none := rfl
@[simp] theorem bPar3_ (i j l : Nat) : bPar3 i j l a ρ S = (a ρ S).bind fun x => match x.1 with
  | [u, v, w] => some (.nx (((ρ.set i (some u)).set j (some v)).set l (some w)) x.2)
  | _ => none := rfl
@[simp] theorem retC_d (n : Nat) (x : D) : retC n (.w (.d x)) S = some (.w (.d x), S.take n) := rfl
@[simp] theorem retC_fr (n : Nat) (xs : List D) : retC n (.fr xs) S = some (.fr xs, S.take n) := rfl
@[simp] theorem eCh_ : eCh k2 k2' f g h ρ S = (f ρ S).bind fun x => (g ρ x.2).bind fun y => (k2 (frz x.1) (frz y.1) y.2).bind fun z => (rd z.2 (frz z.1)).bind fun t => (tsD t).bind fun b =>
  if b then (h ρ z.2).bind fun v => k2' (frz y.1) (frz v.1) v.2 else some (.w (.d (.bool false)), z.2) := rfl
@[simp] theorem iSq_ : iSq f ρ S = (f ρ S).bind fun x => (off x.2 (frz x.1)).bind fun y => (dat y.1).bind fun d => (itemsD d).bind fun xs => some (xs, y.2) := rfl
@[simp] theorem itemsD_l (xs : List D) : itemsD (.list xs) = some xs := rfl
@[simp] theorem itemsD_t (xs : List D) : itemsD (.tuple xs) = some xs := rfl
@[simp] theorem iR1_ : iR1 a ρ S = (a ρ S).bind fun x => match x.1 with
  | [.d (.int j)] => if inB j then some (upTo 0 j.toNat, x.2) else none
  | _ => none := rfl
@[simp] theorem iR2_ : iR2 a ρ S = (a ρ S).bind fun x => match x.1 with
  | [.d (.int i), .d (.int j)] => if inB i && inB j then some (upTo i (j - i).toNat, x.2) else none
  | _ => none := rfl
@[simp] theorem bFor_ (fi : ID) (gd : GD) : bFor fi gd bb ρ S = (fi ρ S).bind fun x => forL gd bb x.1 ρ x.2 := rfl
@[simp] theorem eLc_ (fi : ID) (gd : GD) (vs : List Nat) : eLc fi gd t f vs ρ S = (fi ρ S).bind fun x => (lcL gd t f (wipeE ρ vs) x.1 x.2 []).bind fun y => some (.fr y.1, y.2) := rfl
@[simp] theorem bYes_ : bYes ρ S = some (true, S) := rfl
@[simp] theorem gN_ (i : Nat) (d : D) : gN i d ρ = some (ρ.set i (some (.d d))) := rfl
def denK (n : Nat) (o : Out) : Option (Rs × Sto) := match o with
  | .rt r S1 => retC n r S1
  | .nx _ S1 => some (.w (.d .none), S1.take n)
  | _ => none
@[simp] theorem denK_rt (n : Nat) (r : Rs) (S1 : Sto) : denK n (.rt r S1) = retC n r S1 := rfl
@[simp] theorem denK_nx (n : Nat) (r : En) (S1 : Sto) : denK n (.nx r S1) = some (.w (.d .none), S1.take n) := rfl
theorem den_ (np n : Nat) (ws : List Sl) (h : ws.length = np) : den np n bb ws S = (bb (ws.map some ++ List.replicate (n - np) none) S).bind (denK S.length) := by
  unfold den
  rw [if_pos h]
  cases bb (ws.map some ++ List.replicate (n - np) none) S with
  | none => rfl
  | some o => cases o <;> rfl
@[simp] theorem den_1 (n : Nat) (a : Sl) : den 1 n bb [a] S = (bb (some a :: List.replicate (n - 1) none) S).bind (denK S.length) := den_ _ _ _ rfl
@[simp] theorem den_2 (n : Nat) (a b : Sl) : den 2 n bb [a, b] S = (bb (some a :: some b :: List.replicate (n - 2) none) S).bind (denK S.length) := den_ _ _ _ rfl
@[simp] theorem den_3 (n : Nat) (a b c : Sl) : den 3 n bb [a, b, c] S = (bb (some a :: some b :: some c :: List.replicate (n - 3) none) S).bind (denK S.length) := den_ _ _ _ rfl
@[simp] theorem den_4 (n : Nat) (a b c d : Sl) : den 4 n bb [a, b, c, d] S = (bb (some a :: some b :: some c :: some d :: List.replicate (n - 4) none) S).bind (denK S.length) := den_ _ _ _ rfl
@[simp] theorem den_5 (n : Nat) (a b c d e : Sl) : den 5 n bb [a, b, c, d, e] S = (bb (some a :: some b :: some c :: some d :: some e :: List.replicate (n - 5) none) S).bind (denK S.length) := den_ _ _ _ rfl
/-! ### cells -/
@[simp] theorem kIx_c (i : Nat) (j : Int) : kIx (.c i) (.d (.int j)) S = (S[i]?).bind fun c => (atI c.xs j).bind fun z => some (.w (.d z), S) := by
  unfold kIx
  cases h : S[i]? with
  | none => simp [h]
  | some c => simp [h]
@[simp] theorem k1D_c (op : D → Option D) (i : Nat) : k1D op (.c i) S = (S[i]?).bind fun c => (op (.list c.xs)).bind fun z => some (.w (.d z), S) := by
  unfold k1D
  rw [rd_c]
  cases S[i]? <;> rfl
@[simp] theorem kList_c (i : Nat) : kList [.c i] S = (S[i]?).bind fun c => some (.fr c.xs, S) := by
  show (match rd S (.c i) with
    | some (.list a) => some (Rs.fr a, S)
    | some (.tuple a) => some (.fr a, S)
    | _ => none) = _
  rw [rd_c]
  cases S[i]? <;> rfl
@[simp] theorem onC_c (i : Nat) : onC S (.c i) = (S[i]?).bind fun c => match c with
    | .on xs => some (i, xs)
    | .off _ => none := rfl
@[simp] theorem bSetIx_ : bSetIx f g h ρ S = (h ρ S).bind fun x => (f ρ x.2).bind fun y => (g ρ y.2).bind fun z => (dat (frz x.1)).bind fun d => (rd z.2 (frz z.1)).bind fun iv => (intD iv).bind fun i =>
  (onC z.2 (frz y.1)).bind fun c => (ixN c.2.length i).bind fun j => some (.nx ρ (z.2.set c.1 (.on (c.2.set j d)))) := rfl
@[simp] theorem bSetC_ (i : Nat) : bSetC i f ρ S = (f ρ S).bind fun x => match x.1 with
  | .fr xs => some (.nx (ρ.set i (some (.c x.2.length))) (x.2 ++ [.on xs]))
  | .w _ => none := rfl
theorem retC_c (n i : Nat) : retC n (.w (.c i)) S = if i < n then some (.w (.c i), S.take n) else (S[i]?).bind fun c => match c with
    | .on xs => some (.fr xs, S.take n)
    | .off xs => some (.w (.d (.list xs)), S.take n) := rfl
@[simp] theorem kTuple_l (xs : List D) : kTuple [.d (.list xs)] S = some (.w (.d (.tuple xs)), S) := rfl
@[simp] theorem kTuple_t (xs : List D) : kTuple [.d (.tuple xs)] S = some (.w (.d (.tuple xs)), S) := rfl
@[simp] theorem atI_0 {α : Type} (a : α) (l : List α) : atI (a :: l) 0 = some a := by
  unfold atI ixN
  rw [if_pos (by omega), if_pos (by simp)]
  rfl
theorem atI_nat' {α : Type} {xs : List α} {i : Nat} (h : i < xs.length) : atI xs (i : Int) = some xs[i] := by
  unfold atI ixN
  rw [if_pos (by omega), if_pos (by omega)]
  show xs[(i : Int).toNat]? = _
  rw [Int.toNat_natCast, List.getElem?_eq_getElem h]
@[simp] theorem atI_1 {α : Type} (a b : α) (l : List α) : atI (a :: b :: l) 1 = some b := atI_nat' (i := 1) (by simp)
@[simp] theorem atI_2 {α : Type} (a b c : α) (l : List α) : atI (a :: b :: c :: l) 2 = some c := atI_nat' (i := 2) (by simp)
@[simp] theorem kMin2 (i j : Int) : kMin [.d (.int i), .d (.int j)] S = some (.w (.d (.int (if j < i then j else i))), S) := Eq.trans rfl rfl
@[simp] theorem kMax2 (i j : Int) : kMax [.d (.int i), .d (.int j)] S = some (.w (.d (.int (if j > i then j else i))), S) := Eq.trans rfl rfl
@[simp] theorem bParC_ (i j : Nat) (c1 c2 : Bool) : bParC i j c1 c2 f g ρ S = (f ρ S).bind fun x => (mkC c1 x).bind fun u => (g ρ u.2).bind fun y => (mkC c2 y).bind fun v => some (.nx ((ρ.set i (some u.1)).set j (some v.1)) v.2) := rfl
@[simp] theorem mkC_t (xs : List D) : mkC true (.fr xs, S) = some (.c S.length, S ++ [.on xs]) := Eq.trans rfl rfl
theorem inB_nat {n : Nat} (h : n < 1000000) : inB (n : Int) = true := by
  unfold inB
  rw [Bool.and_eq_true, decide_eq_true_eq, decide_eq_true_eq]
  omega
theorem upTo_nat (n : Nat) : upTo 0 n = (List.range n).map fun i => .int (i : Nat) := by
  unfold upTo
  congr 1
  funext i
  rw [Int.zero_add]
theorem ixN_nat {n i : Nat} (h : i < n) : ixN n (i : Int) = some i := by
  unfold ixN
  rw [if_pos (by omega), if_pos (by omega), Int.toNat_natCast]
/-! ### stages -/
theorem seq_nx {ρ1 : En} {S1 : Sto} (h : bb ρ S = some (.nx ρ1 S1)) : bSeq bb cc ρ S = cc ρ1 S1 := by rw [bSeq_, h]; rfl
theorem seq_rt {r : Rs} {S1 : Sto} (h : bb ρ S = some (.rt r S1)) : bSeq bb cc ρ S = some (.rt r S1) := by rw [bSeq_, h]; rfl
theorem for_of {fi : ID} {gd : GD} {xs : List D} {S1 : Sto} {o : Option Out} (h1 : fi ρ S = some (xs, S1)) (h2 : forL gd bb xs ρ S1 = o) : bFor fi gd bb ρ S = o := by rw [bFor_, h1]; exact h2
theorem r1_of {j : Int} {S1 : Sto} (h : a ρ S = some ([.d (.int j)], S1)) (hb : inB j = true) : iR1 a ρ S = some (upTo 0 j.toNat, S1) := by rw [iR1_, h]; show (if inB j = true then _ else _) = _; rw [if_pos hb]
theorem r2_of {i j : Int} {S1 : Sto} (h : a ρ S = some ([.d (.int i), .d (.int j)], S1)) (hb : inB i = true) (hb2 : inB j = true) : iR2 a ρ S = some (upTo i (j - i).toNat, S1) := by rw [iR2_, h]; show (if (inB i && inB j) = true then _ else _) = _; rw [if_pos (by rw [hb, hb2]; rfl)]
theorem rg2_of {x y : Int} (hf : f ρ S = some (.w (.d (.int x)), S)) (hg : g ρ S = some (.w (.d (.int y)), S)) (hx : inB x = true) (hy : inB y = true) (h : (y - x).toNat ≤ 2 ^ 24) : eRg2 f g ρ S = some (.fr (upTo x (y - x).toNat), S) := by
  unfold eRg2
  rw [hf]
  rw [Option.bind_some, hg, Option.bind_some]
  show (if (inB x && inB y && decide ((y - x).toNat ≤ 2 ^ 24)) = true then _ else _) = _
  rw [if_pos]
  rw [hx, hy, decide_eq_true h]
  rfl
theorem acons_of {x : Rs} {u : Sl} {us : List Sl} {S1 S2 : Sto} (hf : f ρ S = some (x, S1)) (hx : frz x = u) (ha : a ρ S1 = some (us, S2)) : aCons f a ρ S = some (u :: us, S2) := by rw [aCons_, hf, Option.bind_some, ha, Option.bind_some, hx]
theorem call_of {ws : List Sl} {S1 : Sto} {r : Option (Rs × Sto)} (ha : a ρ S = some (ws, S1)) (hc : kn ws S1 = r) : eN kn a ρ S = r := by rw [eN_, ha, Option.bind_some, hc]
theorem if_t {S1 : Sto} {o : Option Out} (ht : t ρ S = some (true, S1)) (h : bb ρ S1 = o) : bIf t bb cc ρ S = o := by rw [bIf_, ht, Option.bind_some]; exact h
theorem if_f {S1 : Sto} {o : Option Out} (ht : t ρ S = some (false, S1)) (h : cc ρ S1 = o) : bIf t bb cc ρ S = o := by rw [bIf_, ht, Option.bind_some]; exact h
theorem bE_of' {x : Rs} {S1 : Sto} {b : Bool} (hf : f ρ S = some (x, S1)) (hx : frz x = .d (.bool b)) : bE f ρ S = some (b, S1) := by rw [bE_, hf, Option.bind_some, hx]; rfl
theorem eif_t {S1 : Sto} {o : Option (Rs × Sto)} (ht : t ρ S = some (true, S1)) (h : f ρ S1 = o) : eIf t f g ρ S = o := by rw [eIf_, ht, Option.bind_some]; exact h
theorem eif_f {S1 : Sto} {o : Option (Rs × Sto)} (ht : t ρ S = some (false, S1)) (h : g ρ S1 = o) : eIf t f g ρ S = o := by rw [eIf_, ht, Option.bind_some]; exact h
theorem tup_of {ws : List Sl} {ds : List D} {S1 S2 : Sto} (ha : a ρ S = some (ws, S1)) (ho : offs S1 ws = some (ds, S2)) (hl : ds.length ≤ 1000000) : eTup a ρ S = some (.w (.d (.tuple ds)), S2) := by
  rw [eTup_, ha, Option.bind_some, ho, Option.bind_some]
  show (if ds.length ≤ sizeLine then _ else _) = _
  rw [if_pos (Nat.le_trans hl (by decide))]
theorem unp_of {is : List Nat} {x : Rs} {ds : List D} {S1 : Sto} {ρ' : En} (hf : f ρ S = some (x, S1)) (hx : frz x = .d (.tuple ds)) (hs : setAll is ds ρ = some ρ') : bUnp is f ρ S = some (.nx ρ' S1) := by
  rw [bUnp_, hf, Option.bind_some, hx, rd_d, Option.bind_some]
  show ((setAll is ds ρ).bind _) = _
  rw [hs]
  rfl
theorem e2_of {x y : Rs} {u v : Sl} {S1 S2 : Sto} {r : Option (Rs × Sto)} (hf : f ρ S = some (x, S1)) (hx : frz x = u) (hg : g ρ S1 = some (y, S2)) (hy : frz y = v) (hk : k2 u v S2 = r) : e2 k2 f g ρ S = r := by
  rw [e2_, hf, Option.bind_some, hg, Option.bind_some, hx, hy, hk]
theorem mul_of {x y : Rs} {i j : Int} {S1 S2 : Sto} (hf : f ρ S = some (x, S1)) (hx : frz x = .d (.int i)) (hg : g ρ S1 = some (y, S2)) (hy : frz y = .d (.int j)) (hc : cMul i j = true) : eMul f g ρ S = some (.w (.d (.int (i * j))), S2) :=
  e2_of hf hx hg hy (by rw [kMul_ints, if_pos hc])
theorem add_of {x y : Rs} {i j : Int} {S1 S2 : Sto} (hf : f ρ S = some (x, S1)) (hx : frz x = .d (.int i)) (hg : g ρ S1 = some (y, S2)) (hy : frz y = .d (.int j)) : eAdd f g ρ S = some (.w (.d (.int (i + j))), S2) :=
  e2_of hf hx hg hy (by rw [kAdd_ints])
theorem div_of {x y : Rs} {i j : Int} {S1 S2 : Sto} (hf : f ρ S = some (x, S1)) (hx : frz x = .d (.int i)) (hg : g ρ S1 = some (y, S2)) (hy : frz y = .d (.int j)) (hc : cDiv i j = true) : eDiv f g ρ S = some (.w (.d (.int (i / j))), S2) :=
  e2_of hf hx hg hy (by rw [k2D_, oIc_, if_pos hc, Option.bind_some])
theorem sub_of {x y : Rs} {i j : Int} {S1 S2 : Sto} (hf : f ρ S = some (x, S1)) (hx : frz x = .d (.int i)) (hg : g ρ S1 = some (y, S2)) (hy : frz y = .d (.int j)) : eSub f g ρ S = some (.w (.d (.int (i - j))), S2) :=
  e2_of hf hx hg hy (by rw [k2D_, oI_, Option.bind_some])
theorem ret_of {x : Rs} {S1 : Sto} (hf : f ρ S = some (x, S1)) : bRet f ρ S = some (.rt x S1) := by rw [bRet_, hf, Option.bind_some]
theorem set_of {i : Nat} {x : Rs} {u : Sl} {S1 : Sto} (hf : f ρ S = some (x, S1)) (hx : frz x = u) : bSet i f ρ S = some (.nx (ρ.set i (some u)) S1) := by rw [bSet_, hf, Option.bind_some, hx]
theorem den_rt {np n : Nat} {ws : List Sl} {r : Rs} {S1 : Sto} (h : ws.length = np) (e : bb (ws.map some ++ List.replicate (n - np) none) S = some (.rt r S1)) : den np n bb ws S = retC S.length r S1 := by rw [den_ _ _ _ h, e]; rfl
theorem bWh_ {n : Nat} : bWh n t bb ρ S = whL t bb n ρ S := rfl
theorem whL_nx {fl : Nat} {ρ2 : En} {S1 S2 : Sto} (ht : t ρ S = some (true, S1)) (hb : bb ρ S1 = some (.nx ρ2 S2)) : whL t bb (fl + 1) ρ S = whL t bb fl ρ2 S2 := by
  rw [whL, ht, Option.bind_some, if_pos rfl, hb]; rfl
theorem whL_rt {fl : Nat} {r : Rs} {S1 S2 : Sto} (ht : t ρ S = some (true, S1)) (hb : bb ρ S1 = some (.rt r S2)) : whL t bb (fl + 1) ρ S = some (.rt r S2) := by
  rw [whL, ht, Option.bind_some, if_pos rfl, hb]; rfl
theorem whL_end {fl : Nat} {S1 : Sto} (ht : t ρ S = some (false, S1)) : whL t bb (fl + 1) ρ S = some (.nx ρ S1) := by
  rw [whL, ht, Option.bind_some, if_neg (by simp)]
/-! ### for -/
theorem forL_all {gd : GD} {b : SD} (P : List D → En → Sto → Prop) (st : ∀ d ds ρ S, P (d :: ds) ρ S → ∃ ρ1 ρ2 S2, gd d ρ = some ρ1 ∧ b ρ1 S = some (.nx ρ2 S2) ∧ P ds ρ2 S2) : ∀ {xs : List D} {ρ : En} {S : Sto}, P xs ρ S → ∃ ρ' S', forL gd b xs ρ S = some (.nx ρ' S') ∧ P [] ρ' S'
  | [], ρ, S, h => ⟨ρ, S, rfl, h⟩
  | d :: ds, ρ, S, h => by
    obtain ⟨ρ1, ρ2, S2, e1, e2, p⟩ := st d ds ρ S h
    obtain ⟨ρ', S', e3, p'⟩ := forL_all P st p
    refine ⟨ρ', S', ?_, p'⟩
    unfold forL
    rw [e1]
    simp [e2, e3]
theorem forL_nx {gd : GD} {b : SD} {d : D} {ds : List D} {ρ ρ1 ρ2 : En} {S S2 : Sto} (hg : gd d ρ = some ρ1) (hb : b ρ1 S = some (.nx ρ2 S2)) : forL gd b (d :: ds) ρ S = forL gd b ds ρ2 S2 := by
  rw [forL, hg, Option.bind_some, hb]; rfl
/-- [e for x in xs if t]: what each turn gives -/
theorem lcL_map {gd : GD} {t : BD} {el : ED} {ρ : En} {S : Sto} (f : D → Option D) : ∀ {xs : List D} (acc : List D), (∀ d ∈ xs, ∃ ρ1, gd d ρ = some ρ1 ∧ ((∃ z r, t ρ1 S = some (true, S) ∧ el ρ1 S = some (r, S) ∧ frz r = .d z ∧ f d = some z) ∨ (t ρ1 S = some (false, S) ∧ f d = none))) →
    acc.length + xs.length ≤ sizeLine → lcL gd t el ρ xs S acc = some (acc ++ xs.filterMap f, S)
  | [], acc, _, _ => by simp [lcL]
  | d :: ds, acc, h, hl => by
    rw [List.length_cons] at hl
    obtain ⟨ρ1, e1, h1⟩ := h d (by simp)
    unfold lcL
    rw [e1]
    rcases h1 with ⟨z, r, e2, e3, e4, e5⟩ | ⟨e2, e5⟩
    · have ih := lcL_map f (xs := ds) (acc ++ [z]) (fun x hx => h x (List.mem_cons_of_mem _ hx)) (by rw [List.length_append, List.length_singleton]; omega)
      simp only [Option.bind_some, e2, if_true, e3, e4, off_d, dat_d]
      rw [if_pos (by omega), ih, List.filterMap_cons, e5]
      simp
    · have ih := lcL_map f (xs := ds) acc (fun x hx => h x (List.mem_cons_of_mem _ hx)) (by omega)
      simp only [Option.bind_some, e2]
      rw [if_neg (by simp), ih, List.filterMap_cons, e5]
end
/-! ### lists of ints -/
theorem canLayAll0_ints : ∀ ns : List Int, PyData.canLayAll0 (ns.map PyData.int) = true
  | [] => by simp [PyData.canLayAll0]
  | n :: ns => by
    rw [List.map_cons, PyData.canLayAll0, canLayAll0_ints ns]
    simp [PyData.canLay0]
theorem intsD_ints : ∀ ns : List Int, intsD (ns.map PyData.int) = some ns
  | [] => rfl
  | n :: ns => by
    rw [List.map_cons]
    show (intsD (ns.map PyData.int)).map (n :: ·) = _
    rw [intsD_ints ns]
    rfl
theorem cutL_nat {α : Type} {xs : List α} {a b : Nat} (h : a ≤ b) (hb : b ≤ xs.length) : cutL xs (some (a : Int)) (some (b : Int)) = (xs.drop a).take (b - a) := by
  unfold cutL
  rw [HT.sIx_nat, HT.sIx_nat, Nat.min_eq_left hb, Nat.min_eq_left (Nat.le_trans h hb)]
end DL
namespace DL
open PySem L2
theorem depthAll_ints : ∀ ns : List Int, PyData.depthAll (ns.map PyData.int) = 0
  | [] => by simp [PyData.depthAll]
  | n :: ns => by
    rw [List.map_cons, PyData.depthAll, depthAll_ints ns]
    simp [PyData.depth]
theorem shaped_ints (ns : List Int) : SeqAt.shaped (.list (ns.map PyData.int)) = true := by
  simp [SeqAt.shaped, PyData.canLay0, PyData.depth, canLayAll0_ints, depthAll_ints]
theorem shaped_intsT (ns : List Int) : SeqAt.shaped (.tuple (ns.map PyData.int)) = true := by
  simp [SeqAt.shaped, PyData.canLay0, PyData.depth, canLayAll0_ints, depthAll_ints]
end DL

set_option Elab.async false
set_option linter.all false
set_option maxRecDepth 100000
set_option maxHeartbeats 4000000
/-! Counting nestings by parts: the plain functions, and what the two defs that use the class give. -/
namespace Ct
open PySem L2 DL
/-- the place of the biggest of row[a .. b] -/
def bigM (row : List Int) (a b : Nat) : Nat := row.idxOf (mxI ((row.drop a).take (b + 1 - a)))
def fitsM (cl : List (Option Int)) (p h : Nat) : Bool := match cl.getD p none with
  | none => true
  | some i => decide (i = (h : Int))
/-- ways in which row[a .. a + k - 1] falls into parts, the biggest of each in h -/
def partsM (row : List Int) (cl : List (Option Int)) : Nat → Nat → Nat → Nat → Int
  | 0, _, _, _ => 0
  | n + 1, a, k, h => if k = 0 then 1 else
      ((List.range k).map fun j =>
        let t := bigM row a (a + j)
        if fitsM cl t h then (partsM row cl n a (t - a) t * partsM row cl n (t + 1) (a + j - t) t) * partsM row cl n (a + j + 1) (k - 1 - j) h else 0).sum
def pV (row : List Int) (cl : List (Option Int)) (a k h : Nat) : Int := partsM row cl (k + 1) a k h
/-- row[a .. a + k - 1], k from 1, in its biggest box -/
def hV (row : List Int) (cl : List (Option Int)) (a k : Nat) : Int :=
  let t := bigM row a (a + k - 1)
  pV row cl a (t - a) t * pV row cl (t + 1) (a + k - 1 - t) t
def outersM (row : List Int) (cl : List (Option Int)) : Nat → Nat → Nat → Int
  | 0, _, _ => 0
  | n + 1, a, many => if a = row.length ∨ many = 0 then (if a = row.length ∧ many = 0 then 1 else 0) else
      ((List.range (row.length - a)).map fun j => hV row cl a (j + 1) * outersM row cl n (a + j + 1) (many - 1)).sum
def oV (row : List Int) (cl : List (Option Int)) (a many : Nat) : Int := outersM row cl (row.length - a + 1) a many
def countWithM (row : List Int) (cl : List (Option Int)) : Int :=
  if cl.getD (bigM row 0 (row.length - 1)) none = none then hV row cl 0 row.length else 0
def countOuterM (row : List Int) (many : Int) : Int :=
  if 0 < many ∧ many ≤ row.length then oV row (List.replicate row.length none) 0 many.toNat else 0
def claimD : List D → Option (List (Option Int))
  | [] => some []
  | .none :: r => (claimD r).map (none :: ·)
  | .int i :: r => (claimD r).map (some i :: ·)
  | _ => none
/-- a row that is served: some ints, all different, at most twelve -/
def okRow (row : List Int) : Bool := decide (row ≠ []) && decide row.Nodup && decide (row.length ≤ 12)
def F_count_with : FD := fun ws S => match ws with
  | [.d (.tuple rs), w] => (intsD rs).bind fun row => (rd S w).bind fun c => (itemsD c).bind fun cs => (claimD cs).bind fun cl => if okRow row && decide (cl.length = row.length) then some (.w (.d (.int (countWithM row cl))), S) else none
  | _ => none
def F_count_outer : FD := fun ws S => match ws with
  | [.d (.tuple rs), .d (.int many)] => (intsD rs).bind fun row => if okRow row then some (.w (.d (.int (countOuterM row many))), S) else none
  | _ => none

/-! ### the biggest box of a stretch -/
theorem mxI_mem {l : List Int} (h : l ≠ []) : mxI l ∈ l := by
  cases l with
  | nil => exact absurd rfl h
  | cons x xs => exact foldl_max_mem xs x
theorem idxOf_nd {l : List Int} (h : l.Nodup) {i : Nat} (hi : i < l.length) : l.idxOf l[i] = i := by
  have h1 : l.idxOf l[i] < l.length := List.idxOf_lt_length_of_mem (List.getElem_mem hi)
  have h2 : l[l.idxOf l[i]] = l[i] := List.getElem_idxOf h1
  exact (List.getElem_inj h).mp h2
theorem slice_mem {row : List Int} {a b : Nat} {x : Int} (h : x ∈ (row.drop a).take (b + 1 - a)) : ∃ j, a ≤ j ∧ j ≤ b ∧ ∃ hj : j < row.length, row[j] = x := by
  obtain ⟨i, hi, e⟩ := List.mem_iff_getElem.mp h
  rw [List.length_take, List.length_drop] at hi
  rw [List.getElem_take, List.getElem_drop] at e
  exact ⟨a + i, by omega, by omega, by omega, e⟩
theorem slice_ne {row : List Int} {a b : Nat} (hab : a ≤ b) (hb : b < row.length) : (row.drop a).take (b + 1 - a) ≠ [] := by
  intro z
  have := congrArg List.length z
  rw [List.length_take, List.length_drop] at this
  simp at this
  omega
theorem bigM_at {row : List Int} {a b : Nat} (hn : row.Nodup) (hab : a ≤ b) (hb : b < row.length) : a ≤ bigM row a b ∧ bigM row a b ≤ b ∧ ∀ j, a ≤ j → j ≤ b → row.getD j 0 ≤ row.getD (bigM row a b) 0 := by
  have hm := mxI_mem (slice_ne hab hb)
  obtain ⟨j, h1, h2, h3, e⟩ := slice_mem hm
  have hj : bigM row a b = j := by
    unfold bigM
    rw [← e]
    exact idxOf_nd hn h3
  rw [hj]
  refine ⟨h1, h2, fun i hi hi' => ?_⟩
  have hil : i < row.length := by omega
  rw [List.getD_eq_getElem?_getD, List.getD_eq_getElem?_getD, List.getElem?_eq_getElem hil, List.getElem?_eq_getElem h3]
  show row[i] ≤ row[j]
  rw [e]
  have hmem : row[i] ∈ (row.drop a).take (b + 1 - a) := by
    refine List.mem_iff_getElem.mpr ⟨i - a, by rw [List.length_take, List.length_drop]; omega, ?_⟩
    rw [List.getElem_take, List.getElem_drop]
    congr 1
    omega
  cases hs : (row.drop a).take (b + 1 - a) with
  | nil => exact absurd hs (slice_ne hab hb)
  | cons x xs =>
    rw [hs] at hmem
    exact foldl_max_ge xs x _ hmem
theorem fstIx_ints (m : Int) : ∀ {row : List Int}, m ∈ row → fstIx (.int m) (row.map PyData.int) = some (row.idxOf m)
  | [], h => by cases h
  | x :: xs, h => by
    rw [List.map_cons]
    unfold fstIx
    have e : PyData.eqv (.int x) (.int m) = (x == m) := by simp [PyData.eqv]
    rw [e, List.idxOf_cons]
    by_cases hx : x == m
    · rw [if_pos hx, hx]; rfl
    · rw [if_neg hx]
      have hm : m ∈ xs := by
        rcases List.mem_cons.mp h with z | z
        · subst z; simp at hx
        · exact z
      rw [fstIx_ints m hm]
      simp [hx]
/-! ### the fuel does not matter -/
theorem partsM_fuel {row : List Int} {cl : List (Option Int)} (hn : row.Nodup) : ∀ (n n' a k h : Nat), k < n → k < n' → a + k ≤ row.length → partsM row cl n a k h = partsM row cl n' a k h
  | 0, _, _, _, _, h, _, _ => absurd h (Nat.not_lt_zero _)
  | _, 0, _, _, _, _, h, _ => absurd h (Nat.not_lt_zero _)
  | n + 1, n' + 1, a, k, h, h1, h2, h3 => by
    unfold partsM
    by_cases hk : k = 0
    · rw [if_pos hk, if_pos hk]
    · rw [if_neg hk, if_neg hk]
      congr 1
      refine List.map_congr_left fun j hj => ?_
      have hj : j < k := List.mem_range.mp hj
      have hb := bigM_at (a := a) (b := a + j) hn (by omega) (by omega)
      show (if fitsM cl (bigM row a (a + j)) h = true then _ else _) = (if fitsM cl (bigM row a (a + j)) h = true then _ else _)
      generalize ht : bigM row a (a + j) = t at hb
      by_cases hf : fitsM cl t h = true
      · rw [if_pos hf, if_pos hf, partsM_fuel hn n n' a (t - a) t (by omega) (by omega) (by omega), partsM_fuel hn n n' (t + 1) (a + j - t) t (by omega) (by omega) (by omega), partsM_fuel hn n n' (a + j + 1) (k - 1 - j) h (by omega) (by omega) (by omega)]
      · rw [if_neg hf, if_neg hf]
theorem pV_zero {row : List Int} {cl : List (Option Int)} {a h : Nat} : pV row cl a 0 h = 1 := by
  unfold pV partsM
  rw [if_pos rfl]
/-- the loop's turns -/
def tV (row : List Int) (cl : List (Option Int)) (a k h j : Nat) : Int := if fitsM cl (bigM row a (a + j)) h then hV row cl a (j + 1) * pV row cl (a + j + 1) (k - 1 - j) h else 0
theorem pV_pos {row : List Int} {cl : List (Option Int)} (hn : row.Nodup) {a k h : Nat} (hk : 0 < k) (hl : a + k ≤ row.length) : pV row cl a k h = ((List.range k).map fun j => tV row cl a k h j).sum := by
  unfold pV
  rw [partsM, if_neg (by omega)]
  congr 1
  refine List.map_congr_left fun j hj => ?_
  have hj : j < k := List.mem_range.mp hj
  have hb := bigM_at (a := a) (b := a + j) hn (by omega) (by omega)
  unfold tV hV pV
  have e : a + (j + 1) - 1 = a + j := by omega
  rw [e]
  show (if fitsM cl (bigM row a (a + j)) h = true then _ else _) = (if fitsM cl (bigM row a (a + j)) h = true then _ else _)
  generalize ht : bigM row a (a + j) = t at hb
  by_cases hf : fitsM cl t h = true
  · rw [if_pos hf, if_pos hf]
    dsimp only
    rw [partsM_fuel hn k (t - a + 1) a (t - a) t (by omega) (by omega) (by omega), partsM_fuel hn k (a + j - t + 1) (t + 1) (a + j - t) t (by omega) (by omega) (by omega), partsM_fuel hn k (k - 1 - j + 1) (a + j + 1) (k - 1 - j) h (by omega) (by omega) (by omega)]
  · rw [if_neg hf, if_neg hf]
theorem outersM_fuel {row : List Int} {cl : List (Option Int)} : ∀ (n n' a m : Nat), row.length - a < n → row.length - a < n' → a ≤ row.length → outersM row cl n a m = outersM row cl n' a m
  | 0, _, _, _, h, _, _ => absurd h (Nat.not_lt_zero _)
  | _, 0, _, _, _, h, _ => absurd h (Nat.not_lt_zero _)
  | n + 1, n' + 1, a, m, h1, h2, h3 => by
    unfold outersM
    by_cases hk : a = row.length ∨ m = 0
    · rw [if_pos hk, if_pos hk]
    · rw [if_neg hk, if_neg hk]
      congr 1
      refine List.map_congr_left fun j hj => ?_
      have hj : j < row.length - a := List.mem_range.mp hj
      rw [outersM_fuel n n' (a + j + 1) (m - 1) (by omega) (by omega) (by omega)]
theorem oV_end {row : List Int} {cl : List (Option Int)} {a m : Nat} (h : a = row.length ∨ m = 0) : oV row cl a m = if a = row.length ∧ m = 0 then 1 else 0 := by
  unfold oV outersM
  rw [if_pos h]
theorem oV_pos {row : List Int} {cl : List (Option Int)} {a m : Nat} (h : ¬ (a = row.length ∨ m = 0)) (hl : a ≤ row.length) : oV row cl a m = ((List.range (row.length - a)).map fun j => hV row cl a (j + 1) * oV row cl (a + j + 1) (m - 1)).sum := by
  unfold oV
  rw [outersM, if_neg h]
  congr 1
  refine List.map_congr_left fun j hj => ?_
  have hj : j < row.length - a := List.mem_range.mp hj
  rw [outersM_fuel (row.length - a) (row.length - (a + j + 1) + 1) (a + j + 1) (m - 1) (by omega) (by omega) (by omega)]
/-! ### how big they are -/
theorem sum_lt {l : List Int} {B : Nat} (h : ∀ x ∈ l, x.natAbs ≤ B) : l.sum.natAbs ≤ l.length * B := by
  induction l with
  | nil => simp
  | cons x xs ih =>
    rw [List.sum_cons, List.length_cons]
    have h1 := h x (by simp)
    have h2 := ih fun y hy => h y (List.mem_cons_of_mem _ hy)
    have h3 := Int.natAbs_add_le x xs.sum
    have e : (xs.length + 1) * B = xs.length * B + B := Nat.succ_mul _ _
    omega
theorem pow3 (x y z : Nat) : 16 ^ x * 16 ^ y * 16 ^ z = 16 ^ (x + y + z) := by rw [← Nat.pow_add, ← Nat.pow_add]
theorem partsM_cap {row : List Int} {cl : List (Option Int)} (hn : row.Nodup) : ∀ (n a k h : Nat), k < n → k ≤ 12 → a + k ≤ row.length → (partsM row cl n a k h).natAbs ≤ 16 ^ k
  | 0, _, _, _, z, _, _ => absurd z (Nat.not_lt_zero _)
  | n + 1, a, k, h, hkn, hk, hl => by
    unfold partsM
    by_cases hk0 : k = 0
    · rw [if_pos hk0]
      exact Nat.pos_of_ne_zero (by simp)
    · rw [if_neg hk0]
      refine Nat.le_trans (sum_lt (B := 16 ^ (k - 1)) fun x hx => ?_) ?_
      · obtain ⟨j, hj, rfl⟩ := List.mem_map.mp hx
        have hj : j < k := List.mem_range.mp hj
        have hb := bigM_at (a := a) (b := a + j) hn (by omega) (by omega)
        dsimp only
        generalize bigM row a (a + j) = t at hb
        split
        · rw [Int.natAbs_mul, Int.natAbs_mul]
          have e := pow3 (t - a) (a + j - t) (k - 1 - j)
          rw [show t - a + (a + j - t) + (k - 1 - j) = k - 1 by omega] at e
          rw [← e]
          exact Nat.mul_le_mul (Nat.mul_le_mul (partsM_cap hn _ _ _ _ (by omega) (by omega) (by omega)) (partsM_cap hn _ _ _ _ (by omega) (by omega) (by omega))) (partsM_cap hn _ _ _ _ (by omega) (by omega) (by omega))
        · simp
      · rw [List.length_map, List.length_range]
        obtain ⟨i, rfl⟩ : ∃ i, k = i + 1 := ⟨k - 1, by omega⟩
        rw [Nat.pow_succ, Nat.mul_comm (16 ^ i)]
        exact Nat.mul_le_mul_right _ (by omega)
theorem pV_cap {row : List Int} {cl : List (Option Int)} {a k h : Nat} (hn : row.Nodup) (hk : k ≤ 12) (hl : a + k ≤ row.length) : (pV row cl a k h).natAbs ≤ 16 ^ k := partsM_cap hn _ _ _ _ (by omega) hk hl
theorem hV_cap {row : List Int} {cl : List (Option Int)} {a k : Nat} (hn : row.Nodup) (h0 : 0 < k) (hk : k ≤ 12) (hl : a + k ≤ row.length) : (hV row cl a k).natAbs ≤ 16 ^ (k - 1) := by
  have hb := bigM_at (a := a) (b := a + k - 1) hn (by omega) (by omega)
  unfold hV
  dsimp only
  generalize bigM row a (a + k - 1) = t at hb
  rw [Int.natAbs_mul]
  have e : 16 ^ (t - a) * 16 ^ (a + k - 1 - t) = 16 ^ (k - 1) := by rw [← Nat.pow_add]; congr 1; omega
  rw [← e]
  exact Nat.mul_le_mul (pV_cap hn (by omega) (by omega)) (pV_cap hn (by omega) (by omega))
theorem outersM_cap {row : List Int} {cl : List (Option Int)} (hn : row.Nodup) (h12 : row.length ≤ 12) : ∀ (n a m : Nat), row.length - a < n → a ≤ row.length → (outersM row cl n a m).natAbs ≤ 16 ^ (row.length - a)
  | 0, _, _, z, _ => absurd z (Nat.not_lt_zero _)
  | n + 1, a, m, hn1, hl => by
    unfold outersM
    have hp : 0 < 16 ^ (row.length - a) := Nat.pos_of_ne_zero (by simp)
    by_cases hk0 : a = row.length ∨ m = 0
    · rw [if_pos hk0]
      split
      · exact hp
      · exact Nat.zero_le _
    · rw [if_neg hk0]
      refine Nat.le_trans (sum_lt (B := 16 ^ (row.length - a - 1)) fun x hx => ?_) ?_
      · obtain ⟨j, hj, rfl⟩ := List.mem_map.mp hx
        have hj : j < row.length - a := List.mem_range.mp hj
        rw [Int.natAbs_mul]
        have e : 16 ^ (j + 1 - 1) * 16 ^ (row.length - (a + j + 1)) = 16 ^ (row.length - a - 1) := by rw [← Nat.pow_add]; congr 1; omega
        rw [← e]
        exact Nat.mul_le_mul (hV_cap hn (by omega) (by omega) (by omega)) (outersM_cap hn h12 _ _ _ (by omega) (by omega))
      · rw [List.length_map, List.length_range]
        obtain ⟨i, e⟩ : ∃ i, row.length - a = i + 1 := ⟨row.length - a - 1, by omega⟩
        rw [e, Nat.pow_succ, Nat.mul_comm (16 ^ i)]
        exact Nat.mul_le_mul_right _ (by omega)
theorem oV_cap {row : List Int} {cl : List (Option Int)} {a m : Nat} (hn : row.Nodup) (h12 : row.length ≤ 12) (hl : a ≤ row.length) : (oV row cl a m).natAbs ≤ 16 ^ (row.length - a) := outersM_cap hn h12 _ _ _ (by omega) hl
theorem cMul_cap {x y : Int} {i j : Nat} (hx : x.natAbs ≤ 16 ^ i) (hy : y.natAbs ≤ 16 ^ j) (hi : i ≤ 12) (hj : j ≤ 12) : cMul x y = true := by
  have h1 : ∀ {z : Int} {i : Nat}, z.natAbs ≤ 16 ^ i → i ≤ 12 → z.natAbs.log2 < 100 := fun {z i} h hi => by
    by_cases h0 : z.natAbs = 0
    · rw [h0]; decide
    · refine (Nat.log2_lt h0).mpr (Nat.lt_of_le_of_lt h ?_)
      exact Nat.lt_of_le_of_lt (Nat.pow_le_pow_right (by decide) hi) (by decide)
  unfold cMul
  refine decide_eq_true ?_
  have := h1 hx hi
  have := h1 hy hj
  omega
end Ct

set_option Elab.async false
set_option linter.all false
set_option maxRecDepth 100000
set_option maxHeartbeats 4000000
namespace K87
open PySem L2 DL Ct
@[reducible] def fuel : Nat := 1000000
def b_biggest : SD := (bRet (eM kIndex (eN kList (aCons (eVar 0) aNil)) (aCons (eN kMax (aCons (eSl (eVar 0) (oSom (eVar 1)) (oSom (eAdd (eVar 2) (eC (.int 1))))) aNil)) aNil)))
def F_biggest : FD := den 3 3 (b_biggest)
def b_look_place : SD := (bIf (bNot (bE (eCh kLe kLt (eC (.int 0)) (eVar 1) (eN kLen (aCons (eVar 0) aNil))))) bNev bNil)
def F_look_place : FD := den 2 2 (b_look_place)
def b_between : SD := (bRet (eRg2 (eAdd (eN kMin (aCons (eVar 0) (aCons (eVar 1) aNil))) (eC (.int 1))) (eN kMax (aCons (eVar 0) (aCons (eVar 1) aNil)))))
def F_between : FD := den 2 2 (b_between)
def b_is_above : SD := (bRet (eN kAll (aCons (eLc (iSq (eAdd (eN F_between (aCons (eVar 1) (aCons (eVar 2) aNil))) (eLst (aCons (eVar 2) aNil)))) (gN 3) bYes (eLt (eIx (eVar 0) (eVar 3)) (eIx (eVar 0) (eVar 1))) [3]) aNil)))
def F_is_above : FD := den 3 4 (b_is_above)
def b_holders : SD := (bSeq (bX (eN F_look_place (aCons (eVar 0) (aCons (eVar 1) aNil)))) (bRet (eLc (iR1 (aCons (eN kLen (aCons (eVar 0) aNil)) aNil)) (gN 2) (bAnd (bE (eNe (eVar 2) (eVar 1))) (bE (eN F_is_above (aCons (eVar 0) (aCons (eVar 2) (aCons (eVar 1) aNil)))))) (eVar 2) [2])))
def F_holders : FD := den 2 3 (b_holders)
def b_count_nestings : SD := (bRet (eN F_count_with (aCons (eVar 0) (aCons (eMul (eLst (aCons (eC .none) aNil)) (eN kLen (aCons (eVar 0) aNil))) aNil))))
def F_count_nestings : FD := den 1 1 (b_count_nestings)
def b_gcd : SD := (bSeq (bWh fuel (bE (eGt (eVar 1) (eC (.int 0)))) (bPar 0 1 (aCons (eVar 1) (aCons (eMod (eVar 0) (eVar 1)) aNil)))) (bRet (eVar 0)))
def F_gcd : FD := den 2 2 (b_gcd)
def b_reduced : SD := (bSeq (bSet 2 (eN F_gcd (aCons (eVar 0) (aCons (eVar 1) aNil)))) (bRet (eTup (aCons (eDiv (eVar 0) (eVar 2)) (aCons (eDiv (eVar 1) (eVar 2)) aNil)))))
def F_reduced : FD := den 2 3 (b_reduced)
def b_added : SD := (bSeq (bSet 1 (eTup (aCons (eC (.int 0)) (aCons (eC (.int 1)) aNil)))) (bSeq (bFor (iSq (eVar 0)) (gT [2, 3]) (bSet 1 (eN F_reduced (aCons (eAdd (eMul (eIx (eVar 1) (eC (.int 0))) (eVar 3)) (eMul (eVar 2) (eIx (eVar 1) (eC (.int 1))))) (aCons (eMul (eIx (eVar 1) (eC (.int 1))) (eVar 3)) aNil))))) (bRet (eVar 1))))
def F_added : FD := den 1 4 (b_added)
def b_distance_to_bigger : SD := (bSeq (bSet 4 (eAdd (eVar 1) (eVar 2))) (bSeq (bWh fuel (bE (eCh kLe kLt (eC (.int 0)) (eVar 4) (eN kLen (aCons (eVar 0) aNil)))) (bSeq (bIf (bE (eGt (eIx (eVar 0) (eVar 4)) (eVar 3))) (bRet (eN kAbs (aCons (eSub (eVar 4) (eVar 1)) aNil))) bNil) (bAug 4 (k2D (oI fun i j => i + j)) (eVar 2)))) (bRet (eC .none))))
def F_distance_to_bigger : FD := den 4 5 (b_distance_to_bigger)
def b_first_of_three : SD := (bSeq (bIf (bAnd (bE (eIsN (eVar 1))) (bE (eIsN (eVar 2)))) (bRet (eTup (aCons (eC (.int 1)) (aCons (eC (.int 1)) aNil)))) bNil) (bSeq (bIf (bOr (bE (eIsN (eVar 1))) (bE (eIsN (eVar 2)))) (bSeq (bSet 6 (eIf (bE (eIsN (eVar 1))) (eVar 2) (eVar 1))) (bRet (eTup (aCons (eVar 6) (aCons (eAdd (eVar 0) (eVar 6)) aNil))))) bNil) (bSeq (bPar3 3 4 5 (aCons (eAdd (eVar 0) (eVar 1)) (aCons (eAdd (eVar 0) (eVar 2)) (aCons (eAdd (eAdd (eVar 0) (eVar 1)) (eVar 2)) aNil)))) (bRet (eTup (aCons (eSub (eMul (eMul (eVar 3) (eVar 4)) (eVar 5)) (eMul (eVar 0) (eSub (eAdd (eMul (eVar 4) (eVar 5)) (eMul (eVar 3) (eVar 5))) (eMul (eVar 3) (eVar 4))))) (aCons (eMul (eMul (eVar 3) (eVar 4)) (eVar 5)) aNil)))))))
def F_first_of_three : FD := den 3 7 (b_first_of_three)
def b_look_both : SD := (bSeq (bX (eN F_look_place (aCons (eVar 0) (aCons (eVar 1) aNil)))) (bX (eN F_look_place (aCons (eVar 0) (aCons (eVar 2) aNil)))))
def F_look_both : FD := den 3 3 (b_look_both)
def b_holder_chance : SD := (bSeq (bX (eN F_look_both (aCons (eVar 0) (aCons (eVar 1) (aCons (eVar 2) aNil))))) (bSeq (bIf (bOr (bE (eEq (eVar 1) (eVar 2))) (bNot (bE (eN F_is_above (aCons (eVar 0) (aCons (eVar 2) (aCons (eVar 1) aNil))))))) (bRet (eTup (aCons (eC (.int 0)) (aCons (eC (.int 1)) aNil)))) bNil) (bSeq (bSet 3 (eIf (bE (eGt (eVar 2) (eVar 1))) (eC (.int 1)) (eNeg (eC (.int 1))))) (bSeq (bSet 4 (eN F_distance_to_bigger (aCons (eVar 0) (aCons (eVar 1) (aCons (eVar 3) (aCons (eIx (eVar 0) (eVar 1)) aNil)))))) (bSeq (bSet 5 (eN kAbs (aCons (eSub (eVar 2) (eVar 1)) aNil))) (bSeq (bSet 6 (eN F_distance_to_bigger (aCons (eVar 0) (aCons (eVar 1) (aCons (eNeg (eVar 3)) (aCons (eIx (eVar 0) (eVar 1)) aNil)))))) (bSeq (bUnp [7, 8] (eN F_first_of_three (aCons (eVar 5) (aCons (eVar 6) (aCons (eN F_distance_to_bigger (aCons (eVar 0) (aCons (eVar 2) (aCons (eVar 3) (aCons (eIx (eVar 0) (eVar 2)) aNil))))) aNil))))) (bRet (eN F_reduced (aCons (eMul (eVar 4) (eVar 7)) (aCons (eMul (eVar 5) (eVar 8)) aNil)))))))))))
def F_holder_chance : FD := den 3 9 (b_holder_chance)
def b_around_chance : SD := (bSeq (bX (eN F_look_both (aCons (eVar 0) (aCons (eVar 1) (aCons (eVar 2) aNil))))) (bSeq (bIf (bOr (bE (eEq (eVar 1) (eVar 2))) (bNot (bE (eN F_is_above (aCons (eVar 0) (aCons (eVar 2) (aCons (eVar 1) aNil))))))) (bRet (eTup (aCons (eC (.int 0)) (aCons (eC (.int 1)) aNil)))) bNil) (bSeq (bSet 3 (eIf (bE (eGt (eVar 2) (eVar 1))) (eC (.int 1)) (eNeg (eC (.int 1))))) (bSeq (bSet 4 (eN F_distance_to_bigger (aCons (eVar 0) (aCons (eVar 1) (aCons (eNeg (eVar 3)) (aCons (eIx (eVar 0) (eVar 2)) aNil)))))) (bSeq (bUnp [5, 6] (eN F_first_of_three (aCons (eN kAbs (aCons (eSub (eVar 2) (eVar 1)) aNil)) (aCons (eVar 4) (aCons (eN F_distance_to_bigger (aCons (eVar 0) (aCons (eVar 2) (aCons (eVar 3) (aCons (eIx (eVar 0) (eVar 2)) aNil))))) aNil))))) (bRet (eN F_reduced (aCons (eVar 5) (aCons (eVar 6) aNil)))))))))
def F_around_chance : FD := den 3 7 (b_around_chance)
def b_mean_depth : SD := (bSeq (bX (eN F_look_place (aCons (eVar 0) (aCons (eVar 1) aNil)))) (bRet (eN F_added (aCons (eLc (iR1 (aCons (eN kLen (aCons (eVar 0) aNil)) aNil)) (gN 2) bYes (eN F_around_chance (aCons (eVar 0) (aCons (eVar 1) (aCons (eVar 2) aNil)))) [2]) aNil))))
def F_mean_depth : FD := den 2 3 (b_mean_depth)
def b_mean_inside : SD := (bSeq (bX (eN F_look_place (aCons (eVar 0) (aCons (eVar 1) aNil)))) (bRet (eN F_added (aCons (eLc (iR1 (aCons (eN kLen (aCons (eVar 0) aNil)) aNil)) (gN 2) bYes (eN F_around_chance (aCons (eVar 0) (aCons (eVar 2) (aCons (eVar 1) aNil)))) [2]) aNil))))
def F_mean_inside : FD := den 2 3 (b_mean_inside)
def b_greatest_depth : SD := (bRet (eN kLen (aCons (eN F_holders (aCons (eVar 0) (aCons (eVar 1) aNil))) aNil)))
def F_greatest_depth : FD := den 2 2 (b_greatest_depth)
def b_fewest_moves : SD := (bSeq (bX (eN F_look_both (aCons (eVar 0) (aCons (eVar 1) (aCons (eVar 2) aNil))))) (bRet (eIf (bAnd (bE (eNe (eVar 1) (eVar 2))) (bE (eN F_is_above (aCons (eVar 0) (aCons (eVar 2) (aCons (eVar 1) aNil)))))) (eN kAbs (aCons (eSub (eVar 2) (eVar 1)) aNil)) (eC .none))))
def F_fewest_moves : FD := den 3 3 (b_fewest_moves)
def b__law_box : SD := (bSeq (bSet 2 (eIf (bE (eLt (eVar 1) (eN kLen (aCons (eVar 0) aNil)))) (eIx (eVar 0) (eVar 1)) (eC (.int 0)))) (bRet (eLst (aCons (eMul (eN kAbs (aCons (eVar 2) aNil)) (eN kInt (aCons (eGe (eN kAbs (aCons (eVar 2) aNil)) (ePow (eC (.int 10)) (eC (.int 18)))) aNil))) (aCons (eAdd (eAdd (eMod (eN kInt (aCons (eVar 2) aNil)) (eC (.int 2305843009213693951))) (eMul (eC (.int 39373)) (eVar 1))) (eC (.int 366787))) (aCons (eC (.int 0)) aNil))))))
def F__law_box : FD := den 2 3 (b__law_box)
def b__law_take : SD := (bSeq (bIf (bE (eGt (eIx (eVar 0) (eC (.int 0))) (eC (.int 0)))) (bSeq (bSet 5 (eMod (eN kInt (aCons (eIx (eVar 0) (eC (.int 0))) aNil)) (eVar 1))) (bSeq (bSetIx (eVar 0) (eC (.int 0)) (eDiv (eIx (eVar 0) (eC (.int 0))) (eVar 1))) (bRet (eVar 5)))) bNil) (bSeq (bSetIx (eVar 0) (eC (.int 2)) (eAdd (eIx (eVar 0) (eC (.int 2))) (eC (.int 1)))) (bSeq (bSet 2 (eMod (eN kInt (aCons (eMul (eAdd (eIx (eVar 0) (eC (.int 1))) (eMul (eC (.int 48271)) (eIx (eVar 0) (eC (.int 2))))) (eAdd (eC (.int 39373)) (eIx (eVar 0) (eC (.int 2))))) aNil)) (eC (.int 2147483647)))) (bSeq (bSet 3 (eAdd (eMod (eN kInt (aCons (eVar 2) aNil)) (eC (.int 40009))) (eC (.int 7)))) (bSeq (bSet 4 (eMod (eN kInt (aCons (eMul (eAdd (eAdd (eVar 2) (eIx (eVar 0) (eC (.int 2)))) (eDiv (eIx (eVar 0) (eC (.int 1))) (eC (.int 1000003)))) (eVar 3)) aNil)) (eC (.int 2147483629)))) (bRet (eMod (eN kInt (aCons (eDiv (eMod (eN kInt (aCons (eAdd (eMul (eVar 4) (eC (.int 48271))) (eVar 2)) aNil)) (eC (.int 2147483587))) (eC (.int 64))) aNil)) (eVar 1))))))))
def F__law_take : FD := den 2 6 (b__law_take)
def b__law_cells (a0 : Addr) (ns : List Int) : SD := (bSeq (bSetC 2 (eOrT (eN kList (aCons (eScr a0 ns 0 oNon (oSom (eVar 1))) aNil)) (eLst (aCons (eC (.int 0)) aNil)))) (bSeq (bFor (iEn (aCons (eScr a0 ns 0 (oSom (eVar 1)) (oSom (eC (.int 63)))) aNil)) (gT [3, 4]) (bSeq (bSet 5 (eMod (eN kInt (aCons (eVar 3) aNil)) (eVar 1))) (bSetIx (eVar 2) (eVar 5) (eAdd (eIx (eVar 2) (eVar 5)) (eMul (eVar 4) (eAdd (eVar 3) (eC (.int 2)))))))) (bRet (eVar 2))))
def F__law_cells (a0 : Addr) (ns : List Int) : FD := den 2 6 (b__law_cells a0 ns)
def b__law_same (self_ : FD) : SD := (bSeq (bIf (bE (eIsi ["list", "tuple"] (eVar 1))) (bSeq (bIf (bOr (bE (eNe (eIsi ["list"] (eVar 0)) (eIsi ["list"] (eVar 1)))) (bE (eNe (eIsi ["tuple"] (eVar 0)) (eIsi ["tuple"] (eVar 1))))) (bRet (eC (.bool false))) bNil) (bRet (eAndV (eEq (eN kLen (aCons (eVar 0) aNil)) (eN kLen (aCons (eVar 1) aNil))) (eN kAll (aCons (eLc (iZp (aCons (eVar 0) (aCons (eVar 1) aNil))) (gT [2, 3]) bYes (eN self_ (aCons (eVar 2) (aCons (eVar 3) aNil))) [2, 3]) aNil))))) bNil) (bSeq (bIf (bOr (bE (eIsN (eVar 1))) (bE (eIsi ["bool", "str"] (eVar 1)))) (bRet (eAndV (eEq (eVar 0) (eVar 1)) (eAndV (eEq (eIsi ["bool"] (eVar 0)) (eIsi ["bool"] (eVar 1))) (eEq (eIsN (eVar 0)) (eIsN (eVar 1)))))) bNil) (bRet (eAndV (eIsi ["int"] (eVar 0)) (eAndV (eNotV (eIsi ["bool"] (eVar 0))) (eEq (eVar 0) (eVar 1)))))))
def F__law_same : Nat → FD
  | 0 => fun _ _ => none
  | k + 1 => den 2 4 (b__law_same (F__law_same k))
def b__law_pick : SD := (bSeq (bParC 3 4 true true (eN kList (aCons (eVar 1) aNil)) (eLst aNil)) (bSeq (bFor (iR1 (aCons (eN kMin (aCons (eN kInt (aCons (eVar 2) aNil)) (aCons (eN kLen (aCons (eVar 3) aNil)) aNil))) aNil)) (gN 5) (bX (eM kApp (eVar 4) (aCons (eM kPopAt (eVar 3) (aCons (eN F__law_take (aCons (eVar 0) (aCons (eN kLen (aCons (eVar 3) aNil)) aNil))) aNil)) aNil)))) (bRet (eVar 4))))
def F__law_pick : FD := den 3 6 (b__law_pick)
def b__law_divisor : SD := (bSeq (bWh fuel (bE (eGt (eVar 1) (eC (.int 0)))) (bPar 0 1 (aCons (eVar 1) (aCons (eMod (eN kInt (aCons (eVar 0) aNil)) (eVar 1)) aNil)))) (bRet (eVar 0)))
def F__law_divisor : FD := den 2 2 (b__law_divisor)
def b__law_part : SD := (bSeq (bSet 2 (eN F__law_divisor (aCons (eVar 0) (aCons (eVar 1) aNil)))) (bRet (eTup (aCons (eDiv (eVar 0) (eVar 2)) (aCons (eDiv (eVar 1) (eVar 2)) aNil)))))
def F__law_part : FD := den 2 3 (b__law_part)
def b__law_added : SD := (bRet (eN F__law_part (aCons (eAdd (eMul (eIx (eVar 0) (eC (.int 0))) (eIx (eVar 1) (eC (.int 1)))) (eMul (eIx (eVar 1) (eC (.int 0))) (eIx (eVar 0) (eC (.int 1))))) (aCons (eMul (eIx (eVar 0) (eC (.int 1))) (eIx (eVar 1) (eC (.int 1)))) aNil))))
def F__law_added : FD := den 2 2 (b__law_added)
def b__law_down : SD := (bSeq (bSet 1 (eC (.int 1))) (bSeq (bFor (iR2 (aCons (eC (.int 2)) (aCons (eAdd (eVar 0) (eC (.int 1))) aNil))) (gN 2) (bSet 1 (eMul (eVar 1) (eVar 2)))) (bRet (eVar 1))))
def F__law_down : FD := den 1 3 (b__law_down)
def b__law_row : SD := (bSeq (bSetC 2 (eLst (aCons (eAdd (eC (.int 1)) (eN F__law_take (aCons (eVar 0) (aCons (eC (.int 5)) aNil)))) aNil))) (bSeq (bFor (iR2 (aCons (eC (.int 1)) (aCons (eVar 1) aNil))) (gN 3) (bX (eM kApp (eVar 2) (aCons (eAdd (eAdd (eIx (eVar 2) (eNeg (eC (.int 1)))) (eC (.int 1))) (eN F__law_take (aCons (eVar 0) (aCons (eC (.int 4)) aNil)))) aNil)))) (bRet (eN kTuple (aCons (eN F__law_pick (aCons (eVar 0) (aCons (eVar 2) (aCons (eVar 1) aNil)))) aNil)))))
def F__law_row : FD := den 2 4 (b__law_row)
def b__law_rows : SD := (bSeq (bSet 1 (eLst (aCons (eTup aNil) aNil))) (bSeq (bFor (iR1 (aCons (eN kLen (aCons (eVar 0) aNil)) aNil)) (gN 2) (bSeq (bSet 3 (eLst aNil)) (bSeq (bFor (iSq (eVar 1)) (gN 4) (bSet 3 (eAdd (eVar 3) (eLc (iSq (eVar 0)) (gN 5) (bE (eNotIn (eVar 5) (eVar 4))) (eAdd (eVar 4) (eTup (aCons (eVar 5) aNil))) [5])))) (bSet 1 (eVar 3))))) (bRet (eVar 1))))
def F__law_rows : FD := den 1 6 (b__law_rows)
def b__law_every : SD := (bSeq (bSet 1 (eC (.int 1))) (bSeq (bFor (iR2 (aCons (eC (.int 2)) (aCons (eAdd (eVar 0) (eC (.int 1))) aNil))) (gN 2) (bSet 1 (eMul (eVar 1) (eSub (eMul (eC (.int 3)) (eVar 2)) (eC (.int 4)))))) (bRet (eVar 1))))
def F__law_every : FD := den 1 3 (b__law_every)
def b__law_lots (self_ : FD) : SD := (bSeq (bIf (bOr (bE (eEq (eVar 1) (eC (.int 0)))) (bE (eEq (eVar 0) (eC (.int 0))))) (bRet (eN kInt (aCons (eAndV (eEq (eVar 1) (eC (.int 0))) (eEq (eVar 0) (eC (.int 0)))) aNil))) bNil) (bSeq (bSet 2 (eC (.int 0))) (bSeq (bFor (iR2 (aCons (eC (.int 1)) (aCons (eAdd (eVar 0) (eC (.int 1))) aNil))) (gN 3) (bSeq (bSet 4 (eDiv (eN F__law_down (aCons (eVar 0) aNil)) (eMul (eN F__law_down (aCons (eVar 3) aNil)) (eN F__law_down (aCons (eSub (eVar 0) (eVar 3)) aNil))))) (bSet 2 (eAdd (eVar 2) (eMul (eMul (eVar 4) (eN F__law_every (aCons (eVar 3) aNil))) (eN self_ (aCons (eSub (eVar 0) (eVar 3)) (aCons (eSub (eVar 1) (eC (.int 1))) aNil)))))))) (bRet (eVar 2)))))
def F__law_lots : Nat → FD
  | 0 => fun _ _ => none
  | k + 1 => den 2 5 (b__law_lots (F__law_lots k))
def b__law_mean : SD := (bSeq (bSet 2 (eTup (aCons (eC (.int 0)) (aCons (eC (.int 1)) aNil)))) (bSeq (bFor (iSq (eVar 0)) (gN 3) (bSet 2 (eN F__law_added (aCons (eVar 2) (aCons (eVar 3) aNil))))) (bRet (eN F__law_part (aCons (eIx (eVar 2) (eC (.int 0))) (aCons (eMul (eIx (eVar 2) (eC (.int 1))) (eVar 1)) aNil))))))
def F__law_mean : FD := den 2 4 (b__law_mean)
def b__law_chance (self_ : FD) : SD := (bSeq (bIf (bOr (bE (eEq (eVar 1) (eVar 2))) (bE (eEq (eVar 0) (eC (.int 1))))) (bRet (eTup (aCons (eC (.int 0)) (aCons (eC (.int 1)) aNil)))) bNil) (bSeq (bSetC 4 (eLst aNil)) (bSeq (bFor (iR1 (aCons (eSub (eVar 0) (eC (.int 1))) aNil)) (gN 5) (bIf (bE (eEq (eLe (eVar 1) (eVar 5)) (eLe (eVar 2) (eVar 5)))) (bSeq (bUnp [6, 7] (eIf (bE (eLe (eVar 1) (eVar 5))) (eTup (aCons (eC (.int 0)) (aCons (eAdd (eVar 5) (eC (.int 1))) aNil))) (eTup (aCons (eAdd (eVar 5) (eC (.int 1))) (aCons (eSub (eSub (eVar 0) (eVar 5)) (eC (.int 1))) aNil))))) (bX (eM kApp (eVar 4) (aCons (eN self_ (aCons (eVar 7) (aCons (eSub (eVar 1) (eVar 6)) (aCons (eSub (eVar 2) (eVar 6)) (aCons (eVar 3) aNil))))) aNil)))) (bSeq (bSet 8 (eIf (bE (eLe (eVar 1) (eVar 5))) (eAdd (eVar 5) (eC (.int 1))) (eSub (eSub (eVar 0) (eVar 5)) (eC (.int 1))))) (bX (eM kApp (eVar 4) (aCons (eTup (aCons (eC (.int 1)) (aCons (eIf (bE (eVar 3)) (eMul (eVar 0) (eVar 8)) (eVar 0)) aNil))) aNil)))))) (bRet (eN F__law_mean (aCons (eVar 4) (aCons (eSub (eVar 0) (eC (.int 1))) aNil)))))))
def F__law_chance : Nat → FD
  | 0 => fun _ _ => none
  | k + 1 => den 4 9 (b__law_chance (F__law_chance k))
def b__law_deep : SD := (bSeq (bSetC 1 (eLst (aCons (eTup (aCons (eC (.int 0)) (aCons (eC (.int 1)) aNil))) (aCons (eTup (aCons (eC (.int 0)) (aCons (eC (.int 1)) aNil))) aNil)))) (bSeq (bFor (iR2 (aCons (eC (.int 2)) (aCons (eAdd (eVar 0) (eC (.int 1))) aNil))) (gN 2) (bSeq (bSet 3 (eN F__law_part (aCons (eAdd (eVar 2) (eC (.int 1))) (aCons (eC (.int 3)) aNil)))) (bSeq (bFor (iSq (eSl (eVar 1) (oSom (eC (.int 1))) (oSom (eVar 2)))) (gN 4) (bSet 3 (eN F__law_added (aCons (eVar 3) (aCons (eTup (aCons (eMul (eC (.int 2)) (eIx (eVar 4) (eC (.int 0)))) (aCons (eMul (eIx (eVar 4) (eC (.int 1))) (eSub (eVar 2) (eC (.int 1)))) aNil))) aNil))))) (bX (eM kApp (eVar 1) (aCons (eVar 3) aNil)))))) (bRet (eIx (eVar 1) (eVar 0)))))
def F__law_deep : FD := den 1 5 (b__law_deep)
def b__law_great : SD := (bSeq (bSet 2 (eTup (aCons (eC (.int 0)) (aCons (eC (.int 1)) aNil)))) (bSeq (bFor (iSq (eAdd (eRg2 (eC (.int 1)) (eAdd (eVar 1) (eC (.int 1)))) (eRg2 (eC (.int 1)) (eSub (eVar 0) (eVar 1))))) (gN 3) (bSet 2 (eN F__law_added (aCons (eVar 2) (aCons (eTup (aCons (eC (.int 1)) (aCons (eAdd (eVar 3) (eC (.int 1))) aNil))) aNil))))) (bRet (eVar 2))))
def F__law_great : FD := den 2 4 (b__law_great)
def b__law_right : SD := (bSeq (bSet 1 (eAdd (eC (.int 1)) (eN F__law_take (aCons (eVar 0) (aCons (eC (.int 5)) aNil))))) (bSeq (bSet 2 (eN F__law_rows (aCons (eN F__law_row (aCons (eVar 0) (aCons (eVar 1) aNil))) aNil))) (bSeq (bUnp [3, 4, 5, 6] (eTup (aCons (eN F__law_take (aCons (eVar 0) (aCons (eAdd (eVar 1) (eC (.int 2))) aNil))) (aCons (eN F__law_take (aCons (eVar 0) (aCons (eVar 1) aNil))) (aCons (eN F__law_take (aCons (eVar 0) (aCons (eVar 1) aNil))) (aCons (eN F__law_take (aCons (eVar 0) (aCons (eVar 1) aNil))) aNil)))))) (bSeq (bSet 7 (eN kLen (aCons (eVar 2) aNil))) (bSeq (bSet 8 (eLst (aCons (eN kSum (aCons (eLc (iSq (eVar 2)) (gN 12) bYes (eN F_count_nestings (aCons (eVar 12) aNil)) [12]) aNil)) (aCons (eN kSum (aCons (eLc (iSq (eVar 2)) (gN 12) bYes (eN F_count_outer (aCons (eVar 12) (aCons (eVar 3) aNil))) [12]) aNil)) aNil)))) (bSeq (bIf (bNot (bE (eN (F__law_same 4) (aCons (eVar 8) (aCons (eLst (aCons (eN F__law_every (aCons (eVar 1) aNil)) (aCons (eN (F__law_lots 8) (aCons (eVar 1) (aCons (eVar 3) aNil))) aNil))) aNil))))) (bRet (eC (.bool false))) bNil) (bSeq (bSetC 8 (eLst (aCons (eN F__law_mean (aCons (eLc (iSq (eVar 2)) (gN 12) bYes (eTup (aCons (eN F_greatest_depth (aCons (eVar 12) (aCons (eVar 4) aNil))) (aCons (eC (.int 1)) aNil))) [12]) (aCons (eVar 7) aNil))) aNil))) (bSeq (bX (eM kApp (eVar 8) (aCons (eN F__law_mean (aCons (eLc (iSq (eVar 2)) (gN 12) bYes (eN F_holder_chance (aCons (eVar 12) (aCons (eVar 5) (aCons (eVar 6) aNil)))) [12]) (aCons (eVar 7) aNil))) aNil))) (bSeq (bX (eM kApp (eVar 8) (aCons (eN F__law_mean (aCons (eLc (iSq (eVar 2)) (gN 12) bYes (eN F_around_chance (aCons (eVar 12) (aCons (eVar 5) (aCons (eVar 6) aNil)))) [12]) (aCons (eVar 7) aNil))) aNil))) (bSeq (bSet 9 (eLst (aCons (eN F__law_great (aCons (eVar 1) (aCons (eVar 4) aNil))) (aCons (eN (F__law_chance 8) (aCons (eVar 1) (aCons (eVar 5) (aCons (eVar 6) (aCons (eC (.bool true)) aNil))))) (aCons (eN (F__law_chance 8) (aCons (eVar 1) (aCons (eVar 5) (aCons (eVar 6) (aCons (eC (.bool false)) aNil))))) aNil))))) (bSeq (bIf (bNot (bE (eN (F__law_same 4) (aCons (eVar 8) (aCons (eVar 9) aNil))))) (bRet (eC (.bool false))) bNil) (bSeq (bPar 10 11 (aCons (eLst aNil) (aCons (eLst aNil) aNil))) (bSeq (bFor (iSq (eVar 2)) (gN 12) (bSeq (bSet 10 (eAdd (eVar 10) (eLc (iR1 (aCons (eVar 1) aNil)) (gN 16) bYes (eN F_mean_depth (aCons (eVar 12) (aCons (eVar 16) aNil))) [16]))) (bSet 11 (eAdd (eVar 11) (eLc (iR1 (aCons (eVar 1) aNil)) (gN 16) bYes (eN F_mean_inside (aCons (eVar 12) (aCons (eVar 16) aNil))) [16]))))) (bSeq (bIf (bNot (bE (eN (F__law_same 4) (aCons (eLst (aCons (eN F__law_mean (aCons (eVar 10) (aCons (eVar 7) aNil))) (aCons (eN F__law_mean (aCons (eVar 11) (aCons (eVar 7) aNil))) aNil))) (aCons (eMul (eLst (aCons (eN F__law_deep (aCons (eVar 1) aNil)) aNil)) (eC (.int 2))) aNil))))) (bRet (eC (.bool false))) bNil) (bSeq (bSet 13 (eLc (iSq (eVar 2)) (gN 12) (bE (eIn (eVar 6) (eN F_holders (aCons (eVar 12) (aCons (eVar 5) aNil))))) (eVar 12) [12])) (bSeq (bSet 14 (eLc (iSq (eVar 2)) (gN 12) bYes (eN F_fewest_moves (aCons (eVar 12) (aCons (eVar 5) (aCons (eVar 6) aNil)))) [12])) (bSeq (bIf (bE (eEq (eVar 5) (eVar 6))) (bRet (eN (F__law_same 4) (aCons (eLst (aCons (eVar 13) (aCons (eVar 14) aNil))) (aCons (eLst (aCons (eLst aNil) (aCons (eMul (eLst (aCons (eC .none) aNil)) (eVar 7)) aNil))) aNil)))) bNil) (bSeq (bSet 15 (eAdd (eN kAbs (aCons (eSub (eVar 5) (eVar 6)) aNil)) (eC (.int 1)))) (bRet (eAndV (eEq (eMul (eN kLen (aCons (eVar 13) aNil)) (eVar 15)) (eVar 7)) (eN (F__law_same 4) (aCons (eLc (iSq (eVar 14)) (gN 17) (bE (eNotN (eVar 17))) (eVar 17) [17]) (aCons (eMul (eLst (aCons (eSub (eVar 15) (eC (.int 1))) aNil)) (eN kLen (aCons (eVar 13) aNil))) aNil)))))))))))))))))))))))
def F__law_right : FD := den 1 18 (b__law_right)
def b_law (a0 : Addr) (ns : List Int) : SD := (bRetNew F__law_right (eN F__law_box (aCons (eN (F__law_cells a0 ns) (aCons (eVar 0) (aCons (eC (.int 1)) aNil))) (aCons (eC (.int 0)) aNil))))
def F_law (a0 : Addr) (ns : List Int) : FD := den 1 1 (b_law a0 ns)
end K87

set_option Elab.async false
set_option linter.all false
set_option maxRecDepth 100000
set_option maxHeartbeats 4000000
namespace K87
open PySem L2 DL Ct
def top (i : Nat) : Stmt := PySem.Challenge.pw_putinside_k87_across_all_orders_of_the_s.main.body.getD i (.Pass ⟨0, 0, 0, 0⟩)
structure Tx (mg : Str → Option Value) : Prop where
  n_abs : mg "abs" = none
  n_all : mg "all" = none
  n_bool : mg "bool" = none
  n_enumerate : mg "enumerate" = none
  n_int : mg "int" = none
  n_isinstance : mg "isinstance" = none
  n_len : mg "len" = none
  n_list : mg "list" = none
  n_max : mg "max" = none
  n_min : mg "min" = none
  n_range : mg "range" = none
  n_str : mg "str" = none
  n_sum : mg "sum" = none
  n_tuple : mg "tuple" = none
  n_zip : mg "zip" = none
section
variable {P : Program} {w : World} {K : PySem.W.Frag} {mg : Str → Option Value} {base : Heap}
abbrev s_biggest : Stmt := top 3
abbrev N_biggest : List Str := ["row", "first", "last"]
theorem sc_biggest : FnScope N_biggest ["row", "first", "last"] (defScope s_biggest) := ⟨rfl, rfl, rfl, by decide +kernel, rfl, by decide +kernel, by decide +kernel⟩
theorem cal_biggest (T : Tx mg) {a : Addr} {fd : FuncData} (Fn : Fun K "biggest" "biggest" s_biggest a fd) (hm : mg "biggest" = some (.ref a)) (hb : Binds K fd ["row", "first", "last"] []) : Cal P w K mg base 1 "biggest" ["row", "first", "last"] F_biggest :=
  ⟨a, fd, hm, Fn.kp, hb, fn_ok Fn sc_biggest fun cdv A outer s H E hr => (pssd_one (psd_ret (PE.of (pe_bm PySem.F.plainAttrs_list PySem.F.slot_list_index PySem.F.type_list_index (mt_indexD (room_hu hr)) (ped_toList T.n_list (by rfl) (pad_cons (ped_var 0 (pv 0)) pad_nil)) (pad_cons (ped_max hr.units rfl T.n_max (by rfl) (pad_cons (ped_slice (ped_var 0 (pv 0)) (pod_some (ped_var 1 (pv 1))) (pod_some (ped_add (ped_var 2 (pv 2)) ped_int))) pad_nil)) pad_nil)) fun _ _ _ h => eM_of ok_index h)))⟩

abbrev s_look_place : Stmt := top 5
abbrev N_look_place : List Str := ["row", "place"]
theorem sc_look_place : FnScope N_look_place ["row", "place"] (defScope s_look_place) := ⟨rfl, rfl, rfl, by decide +kernel, rfl, by decide +kernel, by decide +kernel⟩
theorem cal_look_place (T : Tx mg) {a : Addr} {fd : FuncData} (Fn : Fun K "look_place" "look_place" s_look_place a fd) (hm : mg "look_place" = some (.ref a)) (hb : Binds K fd ["row", "place"] []) : Cal P w K mg base 1 "look_place" ["row", "place"] F_look_place :=
  ⟨a, fd, hm, Fn.kp, hb, fn_ok Fn sc_look_place fun cdv A outer s H E hr => (pssd_one (psd_if (ptd_not (ptd_chain op_le op_lt ok_oIb ok_oIb ped_int (ped_var 1 (pv 1)) (ped_len T.n_len (by rfl) (pad_cons (ped_var 0 (pv 0)) pad_nil)))) (pssd_one psd_never) pssd_nil))⟩

abbrev s_between : Stmt := top 6
abbrev N_between : List Str := ["one", "other"]
theorem sc_between : FnScope N_between ["one", "other"] (defScope s_between) := ⟨rfl, rfl, rfl, by decide +kernel, rfl, by decide +kernel, by decide +kernel⟩
theorem cal_between (T : Tx mg) {a : Addr} {fd : FuncData} (Fn : Fun K "between" "between" s_between a fd) (hm : mg "between" = some (.ref a)) (hb : Binds K fd ["one", "other"] []) : Cal P w K mg base 1 "between" ["one", "other"] F_between :=
  ⟨a, fd, hm, Fn.kp, hb, fn_ok Fn sc_between fun cdv A outer s H E hr => (pssd_one (psd_ret (ped_listRg2 rfl (by rfl) T.n_list (by rfl) T.n_range (ped_add (ped_min hr.units rfl T.n_min (by rfl) (pad_cons (ped_var 0 (pv 0)) (pad_cons (ped_var 1 (pv 1)) pad_nil))) ped_int) (ped_max hr.units rfl T.n_max (by rfl) (pad_cons (ped_var 0 (pv 0)) (pad_cons (ped_var 1 (pv 1)) pad_nil))))))⟩

abbrev s_is_above : Stmt := top 7
abbrev N_is_above : List Str := ["row", "one", "other", "place"]
theorem sc_is_above : FnScope N_is_above ["row", "one", "other"] (defScope s_is_above) := ⟨rfl, rfl, rfl, by decide +kernel, rfl, by decide +kernel, by decide +kernel⟩
theorem cal_is_above (T : Tx mg) {a : Addr} {fd : FuncData} (Fn : Fun K "is_above" "is_above" s_is_above a fd) (hm : mg "is_above" = some (.ref a)) (hb : Binds K fd ["row", "one", "other"] []) (C_between : Cal P w K mg base 1 "between" ["one", "other"] F_between) : Cal P w K mg base 2 "is_above" ["row", "one", "other"] F_is_above :=
  ⟨a, fd, hm, Fn.kp, hb, fn_ok Fn sc_is_above fun cdv A outer s H E hr => (pssd_one (psd_ret (ped_all rfl T.n_all (by rfl) (pad_cons (ped_lc (own := [("place", 3)]) rfl sc_is_above.nd (pid_sq (ped_add (ped_call C_between (hr.mono (by decide)) (by rfl) (pad_cons (ped_var 1 (pv 1)) (pad_cons (ped_var 2 (pv 2)) pad_nil))) (ped_lst (pad_cons (ped_var 2 (pv 2)) pad_nil)))) (blkOk_by (own := [("place", 3)]) (N := N_is_above) (sc := defScope s_is_above) (by decide +kernel)) (fun _ _ _ _ _ => (phd_name (pg_name (i := 3) sc_is_above.nd rfl (.inl rfl)))) (fun _ _ _ _ _ => ptsd_nil) (fun _ _ _ _ _ => (ped_lt (ped_ix (ped_var 0 (pv 0)) (ped_var 3 (pv 3))) (ped_ix (ped_var 0 (pv 0)) (ped_var 1 (pv 1)))))) pad_nil))))⟩

abbrev s_holders : Stmt := top 8
abbrev N_holders : List Str := ["row", "place", "other"]
theorem sc_holders : FnScope N_holders ["row", "place"] (defScope s_holders) := ⟨rfl, rfl, rfl, by decide +kernel, rfl, by decide +kernel, by decide +kernel⟩
theorem cal_holders (T : Tx mg) {a : Addr} {fd : FuncData} (Fn : Fun K "holders" "holders" s_holders a fd) (hm : mg "holders" = some (.ref a)) (hb : Binds K fd ["row", "place"] []) (C_look_place : Cal P w K mg base 1 "look_place" ["row", "place"] F_look_place) (C_is_above : Cal P w K mg base 2 "is_above" ["row", "one", "other"] F_is_above) : Cal P w K mg base 3 "holders" ["row", "place"] F_holders :=
  ⟨a, fd, hm, Fn.kp, hb, fn_ok Fn sc_holders fun cdv A outer s H E hr => (pssd_cons (psd_expr (ped_call C_look_place (hr.mono (by decide)) (by rfl) (pad_cons (ped_var 0 (pv 0)) (pad_cons (ped_var 1 (pv 1)) pad_nil)))) (pssd_one (psd_ret (ped_lc (own := [("other", 2)]) rfl sc_holders.nd (pid_r1 (by rfl) T.n_range (pad_cons (ped_len T.n_len (by rfl) (pad_cons (ped_var 0 (pv 0)) pad_nil)) pad_nil)) (blkOk_by (own := [("other", 2)]) (N := N_holders) (sc := defScope s_holders) (by decide +kernel)) (fun _ _ _ _ _ => (phd_name (pg_name (i := 2) sc_holders.nd rfl (.inl rfl)))) (fun _ _ _ _ _ => (ptsd_one (PW.pt (pwd_and (ptd_ne hr.units (ped_var 2 (pv 2)) (ped_var 1 (pv 1))) (pwd_and1 (ptd_val (ped_call C_is_above (hr.mono (by decide)) (by rfl) (pad_cons (ped_var 0 (pv 0)) (pad_cons (ped_var 2 (pv 2)) (pad_cons (ped_var 1 (pv 1)) pad_nil)))))))))) (fun _ _ _ _ _ => (ped_var 2 (pv 2)))))))⟩

abbrev s_count_nestings : Stmt := top 12
abbrev N_count_nestings : List Str := ["row"]
theorem sc_count_nestings : FnScope N_count_nestings ["row"] (defScope s_count_nestings) := ⟨rfl, rfl, rfl, by decide +kernel, rfl, by decide +kernel, by decide +kernel⟩
theorem cal_count_nestings (T : Tx mg) {a : Addr} {fd : FuncData} (Fn : Fun K "count_nestings" "count_nestings" s_count_nestings a fd) (hm : mg "count_nestings" = some (.ref a)) (hb : Binds K fd ["row"] []) (C_count_with : Cal P w K mg base 40 "count_with" ["row", "claim"] F_count_with) : Cal P w K mg base 41 "count_nestings" ["row"] F_count_nestings :=
  ⟨a, fd, hm, Fn.kp, hb, fn_ok Fn sc_count_nestings fun cdv A outer s H E hr => (pssd_one (psd_ret (ped_call C_count_with (hr.mono (by decide)) (by rfl) (pad_cons (ped_var 0 (pv 0)) (pad_cons (ped_mul (ped_lst (pad_cons ped_non pad_nil)) (ped_len T.n_len (by rfl) (pad_cons (ped_var 0 (pv 0)) pad_nil))) pad_nil)))))⟩

abbrev s_gcd : Stmt := top 15
abbrev N_gcd : List Str := ["one", "other"]
theorem sc_gcd : FnScope N_gcd ["one", "other"] (defScope s_gcd) := ⟨rfl, rfl, rfl, by decide +kernel, rfl, by decide +kernel, by decide +kernel⟩
theorem cal_gcd (T : Tx mg) {a : Addr} {fd : FuncData} (Fn : Fun K "gcd" "gcd" s_gcd a fd) (hm : mg "gcd" = some (.ref a)) (hb : Binds K fd ["one", "other"] []) : Cal P w K mg base 1 "gcd" ["one", "other"] F_gcd :=
  ⟨a, fd, hm, Fn.kp, hb, fn_ok Fn sc_gcd fun cdv A outer s H E hr => (pssd_cons (psd_while PassesOwn.never (ptd_gt (ped_var 1 (pv 1)) ped_int) (pssd_one (psd_par (i := 0) (j := 1) rfl sc_gcd.nd rfl rfl (by decide) rfl rfl (pad_cons (ped_var 1 (pv 1)) (pad_cons (ped_mod (ped_var 0 (pv 0)) (ped_var 1 (pv 1))) pad_nil)) (by rfl)))) (pssd_one (psd_ret (ped_var 0 (pv 0)))))⟩

abbrev s_reduced : Stmt := top 16
abbrev N_reduced : List Str := ["numerator", "denominator", "common"]
theorem sc_reduced : FnScope N_reduced ["numerator", "denominator"] (defScope s_reduced) := ⟨rfl, rfl, rfl, by decide +kernel, rfl, by decide +kernel, by decide +kernel⟩
theorem cal_reduced (T : Tx mg) {a : Addr} {fd : FuncData} (Fn : Fun K "reduced" "reduced" s_reduced a fd) (hm : mg "reduced" = some (.ref a)) (hb : Binds K fd ["numerator", "denominator"] []) (C_gcd : Cal P w K mg base 1 "gcd" ["one", "other"] F_gcd) : Cal P w K mg base 2 "reduced" ["numerator", "denominator"] F_reduced :=
  ⟨a, fd, hm, Fn.kp, hb, fn_ok Fn sc_reduced fun cdv A outer s H E hr => (pssd_cons (psd_set (i := 2) sc_reduced.nd rfl (.inl rfl) (ped_call C_gcd (hr.mono (by decide)) (by rfl) (pad_cons (ped_var 0 (pv 0)) (pad_cons (ped_var 1 (pv 1)) pad_nil)))) (pssd_one (psd_ret (ped_tup (pad_cons (ped_div (ped_var 0 (pv 0)) (ped_var 2 (pv 2))) (pad_cons (ped_div (ped_var 1 (pv 1)) (ped_var 2 (pv 2))) pad_nil))))))⟩

abbrev s_added : Stmt := top 17
abbrev N_added : List Str := ["fractions", "found", "above", "below"]
theorem sc_added : FnScope N_added ["fractions"] (defScope s_added) := ⟨rfl, rfl, rfl, by decide +kernel, rfl, by decide +kernel, by decide +kernel⟩
theorem cal_added (T : Tx mg) {a : Addr} {fd : FuncData} (Fn : Fun K "added" "added" s_added a fd) (hm : mg "added" = some (.ref a)) (hb : Binds K fd ["fractions"] []) (C_reduced : Cal P w K mg base 2 "reduced" ["numerator", "denominator"] F_reduced) : Cal P w K mg base 3 "added" ["fractions"] F_added :=
  ⟨a, fd, hm, Fn.kp, hb, fn_ok Fn sc_added fun cdv A outer s H E hr => (pssd_cons (psd_set (i := 1) sc_added.nd rfl (.inl rfl) (ped_tup (pad_cons ped_int (pad_cons ped_int pad_nil)))) (pssd_cons (psd_for PassesOwn.never rfl (pid_sq (ped_var 0 (pv 0))) (phd_tup rfl (pgsf_cons (pg_name (i := 2) sc_added.nd rfl (.inl rfl)) (pgsf_cons (pg_name (i := 3) sc_added.nd rfl (.inl rfl)) pgsf_nil))) (pssd_one (psd_set (i := 1) sc_added.nd rfl (.inl rfl) (ped_call C_reduced (hr.mono (by decide)) (by rfl) (pad_cons (ped_add (ped_mul (ped_ix (ped_var 1 (pv 1)) ped_int) (ped_var 3 (pv 3))) (ped_mul (ped_var 2 (pv 2)) (ped_ix (ped_var 1 (pv 1)) ped_int))) (pad_cons (ped_mul (ped_ix (ped_var 1 (pv 1)) ped_int) (ped_var 3 (pv 3))) pad_nil)))))) (pssd_one (psd_ret (ped_var 1 (pv 1))))))⟩

abbrev s_distance_to_bigger : Stmt := top 18
abbrev N_distance_to_bigger : List Str := ["row", "begin", "step", "size", "place"]
theorem sc_distance_to_bigger : FnScope N_distance_to_bigger ["row", "begin", "step", "size"] (defScope s_distance_to_bigger) := ⟨rfl, rfl, rfl, by decide +kernel, rfl, by decide +kernel, by decide +kernel⟩
theorem cal_distance_to_bigger (T : Tx mg) {a : Addr} {fd : FuncData} (Fn : Fun K "distance_to_bigger" "distance_to_bigger" s_distance_to_bigger a fd) (hm : mg "distance_to_bigger" = some (.ref a)) (hb : Binds K fd ["row", "begin", "step", "size"] []) : Cal P w K mg base 1 "distance_to_bigger" ["row", "begin", "step", "size"] F_distance_to_bigger :=
  ⟨a, fd, hm, Fn.kp, hb, fn_ok Fn sc_distance_to_bigger fun cdv A outer s H E hr => (pssd_cons (psd_set (i := 4) sc_distance_to_bigger.nd rfl (.inl rfl) (ped_add (ped_var 1 (pv 1)) (ped_var 2 (pv 2)))) (pssd_cons (psd_while PassesOwn.never (ptd_chain op_le op_lt ok_oIb ok_oIb ped_int (ped_var 4 (pv 4)) (ped_len T.n_len (by rfl) (pad_cons (ped_var 0 (pv 0)) pad_nil))) (pssd_cons (psd_if (ptd_gt (ped_ix (ped_var 0 (pv 0)) (ped_var 4 (pv 4))) (ped_var 3 (pv 3))) (pssd_one (psd_ret (ped_abs T.n_abs (by rfl) (pad_cons (ped_sub (ped_var 4 (pv 4)) (ped_var 1 (pv 1))) pad_nil)))) pssd_nil) (pssd_one (psd_aug (i := 4) sc_distance_to_bigger.nd rfl (.inl rfl) (ped_var 2 (pv 2)) iop_add ok_oI)))) (pssd_one (psd_ret ped_non))))⟩

abbrev s_first_of_three : Stmt := top 19
abbrev N_first_of_three : List Str := ["many", "left", "right", "one", "other", "both", "only"]
theorem sc_first_of_three : FnScope N_first_of_three ["many", "left", "right"] (defScope s_first_of_three) := ⟨rfl, rfl, rfl, by decide +kernel, rfl, by decide +kernel, by decide +kernel⟩
theorem cal_first_of_three (T : Tx mg) {a : Addr} {fd : FuncData} (Fn : Fun K "first_of_three" "first_of_three" s_first_of_three a fd) (hm : mg "first_of_three" = some (.ref a)) (hb : Binds K fd ["many", "left", "right"] []) : Cal P w K mg base 1 "first_of_three" ["many", "left", "right"] F_first_of_three :=
  ⟨a, fd, hm, Fn.kp, hb, fn_ok Fn sc_first_of_three fun cdv A outer s H E hr => (pssd_cons (psd_if (PW.pt (pwd_and (ptd_isN (ped_var 1 (pv 1))) (pwd_and1 (ptd_isN (ped_var 2 (pv 2)))))) (pssd_one (psd_ret (ped_tup (pad_cons ped_int (pad_cons ped_int pad_nil))))) pssd_nil) (pssd_cons (psd_if (PW.pt (pwd_or (ptd_isN (ped_var 1 (pv 1))) (pwd_or1 (ptd_isN (ped_var 2 (pv 2)))))) (pssd_cons (psd_set (i := 6) sc_first_of_three.nd rfl (.inl rfl) (ped_if (ptd_isN (ped_var 1 (pv 1))) (ped_var 2 (pv 2)) (ped_var 1 (pv 1)))) (pssd_one (psd_ret (ped_tup (pad_cons (ped_var 6 (pv 6)) (pad_cons (ped_add (ped_var 0 (pv 0)) (ped_var 6 (pv 6))) pad_nil)))))) pssd_nil) (pssd_cons (psd_par3 (i := 3) (j := 4) (l := 5) rfl sc_first_of_three.nd rfl rfl rfl (by decide) (by decide) (by decide) rfl rfl rfl (pad_cons (ped_add (ped_var 0 (pv 0)) (ped_var 1 (pv 1))) (pad_cons (ped_add (ped_var 0 (pv 0)) (ped_var 2 (pv 2))) (pad_cons (ped_add (ped_add (ped_var 0 (pv 0)) (ped_var 1 (pv 1))) (ped_var 2 (pv 2))) pad_nil))) (by rfl)) (pssd_one (psd_ret (ped_tup (pad_cons (ped_sub (ped_mul (ped_mul (ped_var 3 (pv 3)) (ped_var 4 (pv 4))) (ped_var 5 (pv 5))) (ped_mul (ped_var 0 (pv 0)) (ped_sub (ped_add (ped_mul (ped_var 4 (pv 4)) (ped_var 5 (pv 5))) (ped_mul (ped_var 3 (pv 3)) (ped_var 5 (pv 5)))) (ped_mul (ped_var 3 (pv 3)) (ped_var 4 (pv 4)))))) (pad_cons (ped_mul (ped_mul (ped_var 3 (pv 3)) (ped_var 4 (pv 4))) (ped_var 5 (pv 5))) pad_nil))))))))⟩

abbrev s_look_both : Stmt := top 20
abbrev N_look_both : List Str := ["row", "one", "other"]
theorem sc_look_both : FnScope N_look_both ["row", "one", "other"] (defScope s_look_both) := ⟨rfl, rfl, rfl, by decide +kernel, rfl, by decide +kernel, by decide +kernel⟩
theorem cal_look_both (T : Tx mg) {a : Addr} {fd : FuncData} (Fn : Fun K "look_both" "look_both" s_look_both a fd) (hm : mg "look_both" = some (.ref a)) (hb : Binds K fd ["row", "one", "other"] []) (C_look_place : Cal P w K mg base 1 "look_place" ["row", "place"] F_look_place) : Cal P w K mg base 2 "look_both" ["row", "one", "other"] F_look_both :=
  ⟨a, fd, hm, Fn.kp, hb, fn_ok Fn sc_look_both fun cdv A outer s H E hr => (pssd_cons (psd_expr (ped_call C_look_place (hr.mono (by decide)) (by rfl) (pad_cons (ped_var 0 (pv 0)) (pad_cons (ped_var 1 (pv 1)) pad_nil)))) (pssd_one (psd_expr (ped_call C_look_place (hr.mono (by decide)) (by rfl) (pad_cons (ped_var 0 (pv 0)) (pad_cons (ped_var 2 (pv 2)) pad_nil))))))⟩

abbrev s_holder_chance : Stmt := top 21
abbrev N_holder_chance : List Str := ["row", "one", "other", "step", "near", "many", "left", "above", "below"]
theorem sc_holder_chance : FnScope N_holder_chance ["row", "one", "other"] (defScope s_holder_chance) := ⟨rfl, rfl, rfl, by decide +kernel, rfl, by decide +kernel, by decide +kernel⟩
theorem cal_holder_chance (T : Tx mg) {a : Addr} {fd : FuncData} (Fn : Fun K "holder_chance" "holder_chance" s_holder_chance a fd) (hm : mg "holder_chance" = some (.ref a)) (hb : Binds K fd ["row", "one", "other"] []) (C_look_both : Cal P w K mg base 2 "look_both" ["row", "one", "other"] F_look_both) (C_is_above : Cal P w K mg base 2 "is_above" ["row", "one", "other"] F_is_above) (C_distance_to_bigger : Cal P w K mg base 1 "distance_to_bigger" ["row", "begin", "step", "size"] F_distance_to_bigger) (C_first_of_three : Cal P w K mg base 1 "first_of_three" ["many", "left", "right"] F_first_of_three) (C_reduced : Cal P w K mg base 2 "reduced" ["numerator", "denominator"] F_reduced) : Cal P w K mg base 3 "holder_chance" ["row", "one", "other"] F_holder_chance :=
  ⟨a, fd, hm, Fn.kp, hb, fn_ok Fn sc_holder_chance fun cdv A outer s H E hr => (pssd_cons (psd_expr (ped_call C_look_both (hr.mono (by decide)) (by rfl) (pad_cons (ped_var 0 (pv 0)) (pad_cons (ped_var 1 (pv 1)) (pad_cons (ped_var 2 (pv 2)) pad_nil))))) (pssd_cons (psd_if (PW.pt (pwd_or (ptd_eq hr.units (ped_var 1 (pv 1)) (ped_var 2 (pv 2))) (pwd_or1 (ptd_not (ptd_val (ped_call C_is_above (hr.mono (by decide)) (by rfl) (pad_cons (ped_var 0 (pv 0)) (pad_cons (ped_var 2 (pv 2)) (pad_cons (ped_var 1 (pv 1)) pad_nil))))))))) (pssd_one (psd_ret (ped_tup (pad_cons ped_int (pad_cons ped_int pad_nil))))) pssd_nil) (pssd_cons (psd_set (i := 3) sc_holder_chance.nd rfl (.inl rfl) (ped_if (ptd_gt (ped_var 2 (pv 2)) (ped_var 1 (pv 1))) ped_int (ped_neg ped_int))) (pssd_cons (psd_set (i := 4) sc_holder_chance.nd rfl (.inl rfl) (ped_call C_distance_to_bigger (hr.mono (by decide)) (by rfl) (pad_cons (ped_var 0 (pv 0)) (pad_cons (ped_var 1 (pv 1)) (pad_cons (ped_var 3 (pv 3)) (pad_cons (ped_ix (ped_var 0 (pv 0)) (ped_var 1 (pv 1))) pad_nil)))))) (pssd_cons (psd_set (i := 5) sc_holder_chance.nd rfl (.inl rfl) (ped_abs T.n_abs (by rfl) (pad_cons (ped_sub (ped_var 2 (pv 2)) (ped_var 1 (pv 1))) pad_nil))) (pssd_cons (psd_set (i := 6) sc_holder_chance.nd rfl (.inl rfl) (ped_call C_distance_to_bigger (hr.mono (by decide)) (by rfl) (pad_cons (ped_var 0 (pv 0)) (pad_cons (ped_var 1 (pv 1)) (pad_cons (ped_neg (ped_var 3 (pv 3))) (pad_cons (ped_ix (ped_var 0 (pv 0)) (ped_var 1 (pv 1))) pad_nil)))))) (pssd_cons (psd_unp rfl (ped_call C_first_of_three (hr.mono (by decide)) (by rfl) (pad_cons (ped_var 5 (pv 5)) (pad_cons (ped_var 6 (pv 6)) (pad_cons (ped_call C_distance_to_bigger (hr.mono (by decide)) (by rfl) (pad_cons (ped_var 0 (pv 0)) (pad_cons (ped_var 2 (pv 2)) (pad_cons (ped_var 3 (pv 3)) (pad_cons (ped_ix (ped_var 0 (pv 0)) (ped_var 2 (pv 2))) pad_nil))))) pad_nil)))) (pgsd_cons (pg_name (i := 7) sc_holder_chance.nd rfl (.inl rfl)) (pgsd_cons (pg_name (i := 8) sc_holder_chance.nd rfl (.inl rfl)) pgsd_nil))) (pssd_one (psd_ret (ped_call C_reduced (hr.mono (by decide)) (by rfl) (pad_cons (ped_mul (ped_var 4 (pv 4)) (ped_var 7 (pv 7))) (pad_cons (ped_mul (ped_var 5 (pv 5)) (ped_var 8 (pv 8))) pad_nil))))))))))))⟩

abbrev s_around_chance : Stmt := top 22
abbrev N_around_chance : List Str := ["row", "one", "other", "step", "left", "above", "below"]
theorem sc_around_chance : FnScope N_around_chance ["row", "one", "other"] (defScope s_around_chance) := ⟨rfl, rfl, rfl, by decide +kernel, rfl, by decide +kernel, by decide +kernel⟩
theorem cal_around_chance (T : Tx mg) {a : Addr} {fd : FuncData} (Fn : Fun K "around_chance" "around_chance" s_around_chance a fd) (hm : mg "around_chance" = some (.ref a)) (hb : Binds K fd ["row", "one", "other"] []) (C_look_both : Cal P w K mg base 2 "look_both" ["row", "one", "other"] F_look_both) (C_is_above : Cal P w K mg base 2 "is_above" ["row", "one", "other"] F_is_above) (C_distance_to_bigger : Cal P w K mg base 1 "distance_to_bigger" ["row", "begin", "step", "size"] F_distance_to_bigger) (C_first_of_three : Cal P w K mg base 1 "first_of_three" ["many", "left", "right"] F_first_of_three) (C_reduced : Cal P w K mg base 2 "reduced" ["numerator", "denominator"] F_reduced) : Cal P w K mg base 3 "around_chance" ["row", "one", "other"] F_around_chance :=
  ⟨a, fd, hm, Fn.kp, hb, fn_ok Fn sc_around_chance fun cdv A outer s H E hr => (pssd_cons (psd_expr (ped_call C_look_both (hr.mono (by decide)) (by rfl) (pad_cons (ped_var 0 (pv 0)) (pad_cons (ped_var 1 (pv 1)) (pad_cons (ped_var 2 (pv 2)) pad_nil))))) (pssd_cons (psd_if (PW.pt (pwd_or (ptd_eq hr.units (ped_var 1 (pv 1)) (ped_var 2 (pv 2))) (pwd_or1 (ptd_not (ptd_val (ped_call C_is_above (hr.mono (by decide)) (by rfl) (pad_cons (ped_var 0 (pv 0)) (pad_cons (ped_var 2 (pv 2)) (pad_cons (ped_var 1 (pv 1)) pad_nil))))))))) (pssd_one (psd_ret (ped_tup (pad_cons ped_int (pad_cons ped_int pad_nil))))) pssd_nil) (pssd_cons (psd_set (i := 3) sc_around_chance.nd rfl (.inl rfl) (ped_if (ptd_gt (ped_var 2 (pv 2)) (ped_var 1 (pv 1))) ped_int (ped_neg ped_int))) (pssd_cons (psd_set (i := 4) sc_around_chance.nd rfl (.inl rfl) (ped_call C_distance_to_bigger (hr.mono (by decide)) (by rfl) (pad_cons (ped_var 0 (pv 0)) (pad_cons (ped_var 1 (pv 1)) (pad_cons (ped_neg (ped_var 3 (pv 3))) (pad_cons (ped_ix (ped_var 0 (pv 0)) (ped_var 2 (pv 2))) pad_nil)))))) (pssd_cons (psd_unp rfl (ped_call C_first_of_three (hr.mono (by decide)) (by rfl) (pad_cons (ped_abs T.n_abs (by rfl) (pad_cons (ped_sub (ped_var 2 (pv 2)) (ped_var 1 (pv 1))) pad_nil)) (pad_cons (ped_var 4 (pv 4)) (pad_cons (ped_call C_distance_to_bigger (hr.mono (by decide)) (by rfl) (pad_cons (ped_var 0 (pv 0)) (pad_cons (ped_var 2 (pv 2)) (pad_cons (ped_var 3 (pv 3)) (pad_cons (ped_ix (ped_var 0 (pv 0)) (ped_var 2 (pv 2))) pad_nil))))) pad_nil)))) (pgsd_cons (pg_name (i := 5) sc_around_chance.nd rfl (.inl rfl)) (pgsd_cons (pg_name (i := 6) sc_around_chance.nd rfl (.inl rfl)) pgsd_nil))) (pssd_one (psd_ret (ped_call C_reduced (hr.mono (by decide)) (by rfl) (pad_cons (ped_var 5 (pv 5)) (pad_cons (ped_var 6 (pv 6)) pad_nil))))))))))⟩

abbrev s_mean_depth : Stmt := top 23
abbrev N_mean_depth : List Str := ["row", "place", "other"]
theorem sc_mean_depth : FnScope N_mean_depth ["row", "place"] (defScope s_mean_depth) := ⟨rfl, rfl, rfl, by decide +kernel, rfl, by decide +kernel, by decide +kernel⟩
theorem cal_mean_depth (T : Tx mg) {a : Addr} {fd : FuncData} (Fn : Fun K "mean_depth" "mean_depth" s_mean_depth a fd) (hm : mg "mean_depth" = some (.ref a)) (hb : Binds K fd ["row", "place"] []) (C_look_place : Cal P w K mg base 1 "look_place" ["row", "place"] F_look_place) (C_around_chance : Cal P w K mg base 3 "around_chance" ["row", "one", "other"] F_around_chance) (C_added : Cal P w K mg base 3 "added" ["fractions"] F_added) : Cal P w K mg base 4 "mean_depth" ["row", "place"] F_mean_depth :=
  ⟨a, fd, hm, Fn.kp, hb, fn_ok Fn sc_mean_depth fun cdv A outer s H E hr => (pssd_cons (psd_expr (ped_call C_look_place (hr.mono (by decide)) (by rfl) (pad_cons (ped_var 0 (pv 0)) (pad_cons (ped_var 1 (pv 1)) pad_nil)))) (pssd_one (psd_ret (ped_call C_added (hr.mono (by decide)) (by rfl) (pad_cons (ped_lc (own := [("other", 2)]) rfl sc_mean_depth.nd (pid_r1 (by rfl) T.n_range (pad_cons (ped_len T.n_len (by rfl) (pad_cons (ped_var 0 (pv 0)) pad_nil)) pad_nil)) (blkOk_by (own := [("other", 2)]) (N := N_mean_depth) (sc := defScope s_mean_depth) (by decide +kernel)) (fun _ _ _ _ _ => (phd_name (pg_name (i := 2) sc_mean_depth.nd rfl (.inl rfl)))) (fun _ _ _ _ _ => ptsd_nil) (fun _ _ _ _ _ => (ped_call C_around_chance (hr.mono (by decide)) (by rfl) (pad_cons (ped_var 0 (pv 0)) (pad_cons (ped_var 1 (pv 1)) (pad_cons (ped_var 2 (pv 2)) pad_nil)))))) pad_nil)))))⟩

abbrev s_mean_inside : Stmt := top 24
abbrev N_mean_inside : List Str := ["row", "place", "other"]
theorem sc_mean_inside : FnScope N_mean_inside ["row", "place"] (defScope s_mean_inside) := ⟨rfl, rfl, rfl, by decide +kernel, rfl, by decide +kernel, by decide +kernel⟩
theorem cal_mean_inside (T : Tx mg) {a : Addr} {fd : FuncData} (Fn : Fun K "mean_inside" "mean_inside" s_mean_inside a fd) (hm : mg "mean_inside" = some (.ref a)) (hb : Binds K fd ["row", "place"] []) (C_look_place : Cal P w K mg base 1 "look_place" ["row", "place"] F_look_place) (C_around_chance : Cal P w K mg base 3 "around_chance" ["row", "one", "other"] F_around_chance) (C_added : Cal P w K mg base 3 "added" ["fractions"] F_added) : Cal P w K mg base 4 "mean_inside" ["row", "place"] F_mean_inside :=
  ⟨a, fd, hm, Fn.kp, hb, fn_ok Fn sc_mean_inside fun cdv A outer s H E hr => (pssd_cons (psd_expr (ped_call C_look_place (hr.mono (by decide)) (by rfl) (pad_cons (ped_var 0 (pv 0)) (pad_cons (ped_var 1 (pv 1)) pad_nil)))) (pssd_one (psd_ret (ped_call C_added (hr.mono (by decide)) (by rfl) (pad_cons (ped_lc (own := [("other", 2)]) rfl sc_mean_inside.nd (pid_r1 (by rfl) T.n_range (pad_cons (ped_len T.n_len (by rfl) (pad_cons (ped_var 0 (pv 0)) pad_nil)) pad_nil)) (blkOk_by (own := [("other", 2)]) (N := N_mean_inside) (sc := defScope s_mean_inside) (by decide +kernel)) (fun _ _ _ _ _ => (phd_name (pg_name (i := 2) sc_mean_inside.nd rfl (.inl rfl)))) (fun _ _ _ _ _ => ptsd_nil) (fun _ _ _ _ _ => (ped_call C_around_chance (hr.mono (by decide)) (by rfl) (pad_cons (ped_var 0 (pv 0)) (pad_cons (ped_var 2 (pv 2)) (pad_cons (ped_var 1 (pv 1)) pad_nil)))))) pad_nil)))))⟩

abbrev s_greatest_depth : Stmt := top 26
abbrev N_greatest_depth : List Str := ["row", "place"]
theorem sc_greatest_depth : FnScope N_greatest_depth ["row", "place"] (defScope s_greatest_depth) := ⟨rfl, rfl, rfl, by decide +kernel, rfl, by decide +kernel, by decide +kernel⟩
theorem cal_greatest_depth (T : Tx mg) {a : Addr} {fd : FuncData} (Fn : Fun K "greatest_depth" "greatest_depth" s_greatest_depth a fd) (hm : mg "greatest_depth" = some (.ref a)) (hb : Binds K fd ["row", "place"] []) (C_holders : Cal P w K mg base 3 "holders" ["row", "place"] F_holders) : Cal P w K mg base 4 "greatest_depth" ["row", "place"] F_greatest_depth :=
  ⟨a, fd, hm, Fn.kp, hb, fn_ok Fn sc_greatest_depth fun cdv A outer s H E hr => (pssd_one (psd_ret (ped_len T.n_len (by rfl) (pad_cons (ped_call C_holders (hr.mono (by decide)) (by rfl) (pad_cons (ped_var 0 (pv 0)) (pad_cons (ped_var 1 (pv 1)) pad_nil))) pad_nil))))⟩

abbrev s_fewest_moves : Stmt := top 27
abbrev N_fewest_moves : List Str := ["row", "one", "other"]
theorem sc_fewest_moves : FnScope N_fewest_moves ["row", "one", "other"] (defScope s_fewest_moves) := ⟨rfl, rfl, rfl, by decide +kernel, rfl, by decide +kernel, by decide +kernel⟩
theorem cal_fewest_moves (T : Tx mg) {a : Addr} {fd : FuncData} (Fn : Fun K "fewest_moves" "fewest_moves" s_fewest_moves a fd) (hm : mg "fewest_moves" = some (.ref a)) (hb : Binds K fd ["row", "one", "other"] []) (C_look_both : Cal P w K mg base 2 "look_both" ["row", "one", "other"] F_look_both) (C_is_above : Cal P w K mg base 2 "is_above" ["row", "one", "other"] F_is_above) : Cal P w K mg base 3 "fewest_moves" ["row", "one", "other"] F_fewest_moves :=
  ⟨a, fd, hm, Fn.kp, hb, fn_ok Fn sc_fewest_moves fun cdv A outer s H E hr => (pssd_cons (psd_expr (ped_call C_look_both (hr.mono (by decide)) (by rfl) (pad_cons (ped_var 0 (pv 0)) (pad_cons (ped_var 1 (pv 1)) (pad_cons (ped_var 2 (pv 2)) pad_nil))))) (pssd_one (psd_ret (ped_if (PW.pt (pwd_and (ptd_ne hr.units (ped_var 1 (pv 1)) (ped_var 2 (pv 2))) (pwd_and1 (ptd_val (ped_call C_is_above (hr.mono (by decide)) (by rfl) (pad_cons (ped_var 0 (pv 0)) (pad_cons (ped_var 2 (pv 2)) (pad_cons (ped_var 1 (pv 1)) pad_nil)))))))) (ped_abs T.n_abs (by rfl) (pad_cons (ped_sub (ped_var 2 (pv 2)) (ped_var 1 (pv 1))) pad_nil)) ped_non))))⟩

abbrev s__law_box : Stmt := top 29
abbrev N__law_box : List Str := ["script", "k", "cell"]
theorem sc__law_box : FnScope N__law_box ["script", "k"] (defScope s__law_box) := ⟨rfl, rfl, rfl, by decide +kernel, rfl, by decide +kernel, by decide +kernel⟩
theorem cal__law_box (T : Tx mg) {a : Addr} {fd : FuncData} (Fn : Fun K "_law_box" "_law_box" s__law_box a fd) (hm : mg "_law_box" = some (.ref a)) (hb : Binds K fd ["script", "k"] []) : Cal P w K mg base 1 "_law_box" ["script", "k"] F__law_box :=
  ⟨a, fd, hm, Fn.kp, hb, fn_ok Fn sc__law_box fun cdv A outer s H E hr => (pssd_cons (psd_set (i := 2) sc__law_box.nd rfl (.inl rfl) (ped_if (ptd_lt (ped_var 1 (pv 1)) (ped_len T.n_len (by rfl) (pad_cons (ped_var 0 (pv 0)) pad_nil))) (ped_ix (ped_var 0 (pv 0)) (ped_var 1 (pv 1))) ped_int)) (pssd_one (psd_ret (ped_lst (pad_cons (ped_mul (ped_abs T.n_abs (by rfl) (pad_cons (ped_var 2 (pv 2)) pad_nil)) (ped_toInt T.n_int (by rfl) (pad_cons (ped_ge (ped_abs T.n_abs (by rfl) (pad_cons (ped_var 2 (pv 2)) pad_nil)) (ped_pow ped_int ped_int)) pad_nil))) (pad_cons (ped_add (ped_add (ped_mod (ped_toInt T.n_int (by rfl) (pad_cons (ped_var 2 (pv 2)) pad_nil)) ped_int) (ped_mul ped_int (ped_var 1 (pv 1)))) ped_int) (pad_cons ped_int pad_nil)))))))⟩

abbrev s__law_take : Stmt := top 30
abbrev N__law_take : List Str := ["box", "size_so", "once", "far", "twice", "drawn"]
theorem sc__law_take : FnScope N__law_take ["box", "size_so"] (defScope s__law_take) := ⟨rfl, rfl, rfl, by decide +kernel, rfl, by decide +kernel, by decide +kernel⟩
theorem cal__law_take (T : Tx mg) {a : Addr} {fd : FuncData} (Fn : Fun K "_law_take" "_law_take" s__law_take a fd) (hm : mg "_law_take" = some (.ref a)) (hb : Binds K fd ["box", "size_so"] []) : Cal P w K mg base 1 "_law_take" ["box", "size_so"] F__law_take :=
  ⟨a, fd, hm, Fn.kp, hb, fn_ok Fn sc__law_take fun cdv A outer s H E hr => (pssd_cons (psd_if (ptd_gt (ped_ix (ped_var 0 (pv 0)) ped_int) ped_int) (pssd_cons (psd_set (i := 5) sc__law_take.nd rfl (.inl rfl) (ped_mod (ped_toInt T.n_int (by rfl) (pad_cons (ped_ix (ped_var 0 (pv 0)) ped_int) pad_nil)) (ped_var 1 (pv 1)))) (pssd_cons (psd_setIx (ped_div (ped_ix (ped_var 0 (pv 0)) ped_int) (ped_var 1 (pv 1))) (ped_var 0 (pv 0)) ped_int) (pssd_one (psd_ret (ped_var 5 (pv 5)))))) pssd_nil) (pssd_cons (psd_setIx (ped_add (ped_ix (ped_var 0 (pv 0)) ped_int) ped_int) (ped_var 0 (pv 0)) ped_int) (pssd_cons (psd_set (i := 2) sc__law_take.nd rfl (.inl rfl) (ped_mod (ped_toInt T.n_int (by rfl) (pad_cons (ped_mul (ped_add (ped_ix (ped_var 0 (pv 0)) ped_int) (ped_mul ped_int (ped_ix (ped_var 0 (pv 0)) ped_int))) (ped_add ped_int (ped_ix (ped_var 0 (pv 0)) ped_int))) pad_nil)) ped_int)) (pssd_cons (psd_set (i := 3) sc__law_take.nd rfl (.inl rfl) (ped_add (ped_mod (ped_toInt T.n_int (by rfl) (pad_cons (ped_var 2 (pv 2)) pad_nil)) ped_int) ped_int)) (pssd_cons (psd_set (i := 4) sc__law_take.nd rfl (.inl rfl) (ped_mod (ped_toInt T.n_int (by rfl) (pad_cons (ped_mul (ped_add (ped_add (ped_var 2 (pv 2)) (ped_ix (ped_var 0 (pv 0)) ped_int)) (ped_div (ped_ix (ped_var 0 (pv 0)) ped_int) ped_int)) (ped_var 3 (pv 3))) pad_nil)) ped_int)) (pssd_one (psd_ret (ped_mod (ped_toInt T.n_int (by rfl) (pad_cons (ped_div (ped_mod (ped_toInt T.n_int (by rfl) (pad_cons (ped_add (ped_mul (ped_var 4 (pv 4)) ped_int) (ped_var 2 (pv 2))) pad_nil)) ped_int) ped_int) pad_nil)) (ped_var 1 (pv 1))))))))))⟩

abbrev s__law_cells : Stmt := top 31
abbrev N__law_cells : List Str := ["script", "top_so", "cells_so", "k", "cell", "at_so"]
theorem sc__law_cells : FnScope N__law_cells ["script", "top_so"] (defScope s__law_cells) := ⟨rfl, rfl, rfl, by decide +kernel, rfl, by decide +kernel, by decide +kernel⟩
theorem cal__law_cells {a0 : Addr} {ns : List Int} (T : Tx mg) {a : Addr} {fd : FuncData} (Fn : Fun K "_law_cells" "_law_cells" s__law_cells a fd) (hm : mg "_law_cells" = some (.ref a)) (hb : Binds K fd ["script", "top_so"] []) : CalS P w K mg base 1 "_law_cells" ["script", "top_so"] a0 ns (F__law_cells a0 ns) :=
  ⟨a, fd, hm, Fn.kp, hb, fn_okS Fn sc__law_cells fun cdv A outer s H E hr hS => (pssd_cons (psd_setC (i := 2) sc__law_cells.nd rfl (.inl rfl) (ped_orT (ped_toList T.n_list (by rfl) (pad_cons (ped_scr hS 0 (pv 0) pod_none (pod_some (ped_var 1 (pv 1)))) pad_nil)) (ped_one (ped_lst (pad_cons ped_int pad_nil))))) (pssd_cons (psd_for PassesOwn.never rfl (pid_enum (by rfl) T.n_enumerate (pad_cons (ped_scr hS 0 (pv 0) (pod_some (ped_var 1 (pv 1))) (pod_some ped_int)) pad_nil)) (phd_tup rfl (pgsf_cons (pg_name (i := 3) sc__law_cells.nd rfl (.inl rfl)) (pgsf_cons (pg_name (i := 4) sc__law_cells.nd rfl (.inl rfl)) pgsf_nil))) (pssd_cons (psd_set (i := 5) sc__law_cells.nd rfl (.inl rfl) (ped_mod (ped_toInt T.n_int (by rfl) (pad_cons (ped_var 3 (pv 3)) pad_nil)) (ped_var 1 (pv 1)))) (pssd_one (psd_setIx (ped_add (ped_ix (ped_var 2 (pv 2)) (ped_var 5 (pv 5))) (ped_mul (ped_var 4 (pv 4)) (ped_add (ped_var 3 (pv 3)) ped_int))) (ped_var 2 (pv 2)) (ped_var 5 (pv 5)))))) (pssd_one (psd_ret (ped_var 2 (pv 2))))))⟩

abbrev s__law_same : Stmt := top 32
abbrev N__law_same : List Str := ["got", "due", "mine", "its"]
theorem sc__law_same : FnScope N__law_same ["got", "due"] (defScope s__law_same) := ⟨rfl, rfl, rfl, by decide +kernel, rfl, by decide +kernel, by decide +kernel⟩
theorem cal__law_same (T : Tx mg) {a : Addr} {fd : FuncData} (Fn : Fun K "_law_same" "_law_same" s__law_same a fd) (hm : mg "_law_same" = some (.ref a)) (hb : Binds K fd ["got", "due"] []) : ∀ k : Nat, Cal P w K mg base (1 + k) "_law_same" ["got", "due"] (F__law_same k)
  | 0 => ⟨a, fd, hm, Fn.kp, hb, fn_none Fn⟩
  | k + 1 => ⟨a, fd, hm, Fn.kp, hb, by
    have C__law_same := cal__law_same T Fn hm hb k
    exact fn_ok Fn sc__law_same fun cdv A outer s H E hr => (pssd_cons (psd_if (ptd_val (ped_isi2 (by rfl) T.n_isinstance (ped_var 1 (pv 1)) (by rfl) T.n_list bt_list (by decide) (by rfl) T.n_tuple bt_tuple (by decide))) (pssd_cons (psd_if (PW.pt (pwd_or (ptd_ne hr.units (ped_isi1 (by rfl) T.n_isinstance (ped_var 0 (pv 0)) (by rfl) T.n_list bt_list (by decide)) (ped_isi1 (by rfl) T.n_isinstance (ped_var 1 (pv 1)) (by rfl) T.n_list bt_list (by decide))) (pwd_or1 (ptd_ne hr.units (ped_isi1 (by rfl) T.n_isinstance (ped_var 0 (pv 0)) (by rfl) T.n_tuple bt_tuple (by decide)) (ped_isi1 (by rfl) T.n_isinstance (ped_var 1 (pv 1)) (by rfl) T.n_tuple bt_tuple (by decide)))))) (pssd_one (psd_ret ped_bl)) pssd_nil) (pssd_one (psd_ret (ped_andV (ped_eq hr.units (ped_len T.n_len (by rfl) (pad_cons (ped_var 0 (pv 0)) pad_nil)) (ped_len T.n_len (by rfl) (pad_cons (ped_var 1 (pv 1)) pad_nil))) (ped_one (ped_all rfl T.n_all (by rfl) (pad_cons (ped_lc (own := [("mine", 2), ("its", 3)]) rfl sc__law_same.nd (pid_zip (by rfl) T.n_zip (pad_cons (ped_var 0 (pv 0)) (pad_cons (ped_var 1 (pv 1)) pad_nil))) (blkOk_by (own := [("mine", 2), ("its", 3)]) (N := N__law_same) (sc := defScope s__law_same) (by decide +kernel)) (fun _ _ _ _ _ => (phd_tup rfl (pgsf_cons (pg_name (i := 2) sc__law_same.nd rfl (.inl rfl)) (pgsf_cons (pg_name (i := 3) sc__law_same.nd rfl (.inl rfl)) pgsf_nil)))) (fun _ _ _ _ _ => ptsd_nil) (fun _ _ _ _ _ => (ped_call C__law_same (hr.mono (Nat.le_refl _)) (by rfl) (pad_cons (ped_var 2 (pv 2)) (pad_cons (ped_var 3 (pv 3)) pad_nil))))) pad_nil))))))) pssd_nil) (pssd_cons (psd_if (PW.pt (pwd_or (ptd_isN (ped_var 1 (pv 1))) (pwd_or1 (ptd_val (ped_isi2 (by rfl) T.n_isinstance (ped_var 1 (pv 1)) (by rfl) T.n_bool bt_bool (by decide) (by rfl) T.n_str bt_str (by decide)))))) (pssd_one (psd_ret (ped_andV (ped_eq hr.units (ped_var 0 (pv 0)) (ped_var 1 (pv 1))) (ped_andV (ped_eq hr.units (ped_isi1 (by rfl) T.n_isinstance (ped_var 0 (pv 0)) (by rfl) T.n_bool bt_bool (by decide)) (ped_isi1 (by rfl) T.n_isinstance (ped_var 1 (pv 1)) (by rfl) T.n_bool bt_bool (by decide))) (ped_one (ped_eq hr.units (ped_isN (ped_var 0 (pv 0))) (ped_isN (ped_var 1 (pv 1))))))))) pssd_nil) (pssd_one (psd_ret (ped_andV (ped_isi1 (by rfl) T.n_isinstance (ped_var 0 (pv 0)) (by rfl) T.n_int bt_int (by decide)) (ped_andV (ped_notV (ped_isi1 (by rfl) T.n_isinstance (ped_var 0 (pv 0)) (by rfl) T.n_bool bt_bool (by decide))) (ped_one (ped_eq hr.units (ped_var 0 (pv 0)) (ped_var 1 (pv 1))))))))))⟩

abbrev s__law_pick : Stmt := top 33
abbrev N__law_pick : List Str := ["box", "goods_so", "count_so", "pool_so", "found", "turn"]
theorem sc__law_pick : FnScope N__law_pick ["box", "goods_so", "count_so"] (defScope s__law_pick) := ⟨rfl, rfl, rfl, by decide +kernel, rfl, by decide +kernel, by decide +kernel⟩
theorem cal__law_pick (T : Tx mg) {a : Addr} {fd : FuncData} (Fn : Fun K "_law_pick" "_law_pick" s__law_pick a fd) (hm : mg "_law_pick" = some (.ref a)) (hb : Binds K fd ["box", "goods_so", "count_so"] []) (C__law_take : Cal P w K mg base 1 "_law_take" ["box", "size_so"] F__law_take) : Cal P w K mg base 2 "_law_pick" ["box", "goods_so", "count_so"] F__law_pick :=
  ⟨a, fd, hm, Fn.kp, hb, fn_ok Fn sc__law_pick fun cdv A outer s H E hr => (pssd_cons (psd_parC (i := 3) (j := 4) rfl sc__law_pick.nd rfl rfl (by decide) rfl rfl (ped_toList T.n_list (by rfl) (pad_cons (ped_var 1 (pv 1)) pad_nil)) (ped_lst pad_nil) (by rfl)) (pssd_cons (psd_for PassesOwn.never rfl (pid_r1 (by rfl) T.n_range (pad_cons (ped_min hr.units rfl T.n_min (by rfl) (pad_cons (ped_toInt T.n_int (by rfl) (pad_cons (ped_var 2 (pv 2)) pad_nil)) (pad_cons (ped_len T.n_len (by rfl) (pad_cons (ped_var 3 (pv 3)) pad_nil)) pad_nil))) pad_nil)) (phd_name (pg_name (i := 5) sc__law_pick.nd rfl (.inl rfl))) (pssd_one (psd_expr (PE.of (pe_bm PySem.F.plainAttrs_list PySem.F.slot_list_append PySem.F.type_list_append mt_append (ped_var 4 (pv 4)) (pad_cons (PE.of (pe_bm PySem.F.plainAttrs_list PySem.F.slot_list_pop PySem.F.type_list_pop mt_popAt (ped_var 3 (pv 3)) (pad_cons (ped_call C__law_take (hr.mono (by decide)) (by rfl) (pad_cons (ped_var 0 (pv 0)) (pad_cons (ped_len T.n_len (by rfl) (pad_cons (ped_var 3 (pv 3)) pad_nil)) pad_nil))) pad_nil)) fun _ _ _ h => eM_of ok_popAt h) pad_nil)) fun _ _ _ h => eM_of ok_app h)))) (pssd_one (psd_ret (ped_var 4 (pv 4))))))⟩

abbrev s__law_divisor : Stmt := top 34
abbrev N__law_divisor : List Str := ["one", "other"]
theorem sc__law_divisor : FnScope N__law_divisor ["one", "other"] (defScope s__law_divisor) := ⟨rfl, rfl, rfl, by decide +kernel, rfl, by decide +kernel, by decide +kernel⟩
theorem cal__law_divisor (T : Tx mg) {a : Addr} {fd : FuncData} (Fn : Fun K "_law_divisor" "_law_divisor" s__law_divisor a fd) (hm : mg "_law_divisor" = some (.ref a)) (hb : Binds K fd ["one", "other"] []) : Cal P w K mg base 1 "_law_divisor" ["one", "other"] F__law_divisor :=
  ⟨a, fd, hm, Fn.kp, hb, fn_ok Fn sc__law_divisor fun cdv A outer s H E hr => (pssd_cons (psd_while PassesOwn.never (ptd_gt (ped_var 1 (pv 1)) ped_int) (pssd_one (psd_par (i := 0) (j := 1) rfl sc__law_divisor.nd rfl rfl (by decide) rfl rfl (pad_cons (ped_var 1 (pv 1)) (pad_cons (ped_mod (ped_toInt T.n_int (by rfl) (pad_cons (ped_var 0 (pv 0)) pad_nil)) (ped_var 1 (pv 1))) pad_nil)) (by rfl)))) (pssd_one (psd_ret (ped_var 0 (pv 0)))))⟩

abbrev s__law_part : Stmt := top 35
abbrev N__law_part : List Str := ["top", "bottom", "common"]
theorem sc__law_part : FnScope N__law_part ["top", "bottom"] (defScope s__law_part) := ⟨rfl, rfl, rfl, by decide +kernel, rfl, by decide +kernel, by decide +kernel⟩
theorem cal__law_part (T : Tx mg) {a : Addr} {fd : FuncData} (Fn : Fun K "_law_part" "_law_part" s__law_part a fd) (hm : mg "_law_part" = some (.ref a)) (hb : Binds K fd ["top", "bottom"] []) (C__law_divisor : Cal P w K mg base 1 "_law_divisor" ["one", "other"] F__law_divisor) : Cal P w K mg base 2 "_law_part" ["top", "bottom"] F__law_part :=
  ⟨a, fd, hm, Fn.kp, hb, fn_ok Fn sc__law_part fun cdv A outer s H E hr => (pssd_cons (psd_set (i := 2) sc__law_part.nd rfl (.inl rfl) (ped_call C__law_divisor (hr.mono (by decide)) (by rfl) (pad_cons (ped_var 0 (pv 0)) (pad_cons (ped_var 1 (pv 1)) pad_nil)))) (pssd_one (psd_ret (ped_tup (pad_cons (ped_div (ped_var 0 (pv 0)) (ped_var 2 (pv 2))) (pad_cons (ped_div (ped_var 1 (pv 1)) (ped_var 2 (pv 2))) pad_nil))))))⟩

abbrev s__law_added : Stmt := top 36
abbrev N__law_added : List Str := ["one", "other"]
theorem sc__law_added : FnScope N__law_added ["one", "other"] (defScope s__law_added) := ⟨rfl, rfl, rfl, by decide +kernel, rfl, by decide +kernel, by decide +kernel⟩
theorem cal__law_added (T : Tx mg) {a : Addr} {fd : FuncData} (Fn : Fun K "_law_added" "_law_added" s__law_added a fd) (hm : mg "_law_added" = some (.ref a)) (hb : Binds K fd ["one", "other"] []) (C__law_part : Cal P w K mg base 2 "_law_part" ["top", "bottom"] F__law_part) : Cal P w K mg base 3 "_law_added" ["one", "other"] F__law_added :=
  ⟨a, fd, hm, Fn.kp, hb, fn_ok Fn sc__law_added fun cdv A outer s H E hr => (pssd_one (psd_ret (ped_call C__law_part (hr.mono (by decide)) (by rfl) (pad_cons (ped_add (ped_mul (ped_ix (ped_var 0 (pv 0)) ped_int) (ped_ix (ped_var 1 (pv 1)) ped_int)) (ped_mul (ped_ix (ped_var 1 (pv 1)) ped_int) (ped_ix (ped_var 0 (pv 0)) ped_int))) (pad_cons (ped_mul (ped_ix (ped_var 0 (pv 0)) ped_int) (ped_ix (ped_var 1 (pv 1)) ped_int)) pad_nil)))))⟩

abbrev s__law_down : Stmt := top 37
abbrev N__law_down : List Str := ["many", "found", "own"]
theorem sc__law_down : FnScope N__law_down ["many"] (defScope s__law_down) := ⟨rfl, rfl, rfl, by decide +kernel, rfl, by decide +kernel, by decide +kernel⟩
theorem cal__law_down (T : Tx mg) {a : Addr} {fd : FuncData} (Fn : Fun K "_law_down" "_law_down" s__law_down a fd) (hm : mg "_law_down" = some (.ref a)) (hb : Binds K fd ["many"] []) : Cal P w K mg base 1 "_law_down" ["many"] F__law_down :=
  ⟨a, fd, hm, Fn.kp, hb, fn_ok Fn sc__law_down fun cdv A outer s H E hr => (pssd_cons (psd_set (i := 1) sc__law_down.nd rfl (.inl rfl) ped_int) (pssd_cons (psd_for PassesOwn.never rfl (pid_r2 (by rfl) T.n_range (pad_cons ped_int (pad_cons (ped_add (ped_var 0 (pv 0)) ped_int) pad_nil))) (phd_name (pg_name (i := 2) sc__law_down.nd rfl (.inl rfl))) (pssd_one (psd_set (i := 1) sc__law_down.nd rfl (.inl rfl) (ped_mul (ped_var 1 (pv 1)) (ped_var 2 (pv 2)))))) (pssd_one (psd_ret (ped_var 1 (pv 1))))))⟩

abbrev s__law_row : Stmt := top 38
abbrev N__law_row : List Str := ["box", "many", "found", "k"]
theorem sc__law_row : FnScope N__law_row ["box", "many"] (defScope s__law_row) := ⟨rfl, rfl, rfl, by decide +kernel, rfl, by decide +kernel, by decide +kernel⟩
theorem cal__law_row (T : Tx mg) {a : Addr} {fd : FuncData} (Fn : Fun K "_law_row" "_law_row" s__law_row a fd) (hm : mg "_law_row" = some (.ref a)) (hb : Binds K fd ["box", "many"] []) (C__law_take : Cal P w K mg base 1 "_law_take" ["box", "size_so"] F__law_take) (C__law_pick : Cal P w K mg base 2 "_law_pick" ["box", "goods_so", "count_so"] F__law_pick) : Cal P w K mg base 3 "_law_row" ["box", "many"] F__law_row :=
  ⟨a, fd, hm, Fn.kp, hb, fn_ok Fn sc__law_row fun cdv A outer s H E hr => (pssd_cons (psd_setC (i := 2) sc__law_row.nd rfl (.inl rfl) (ped_lst (pad_cons (ped_add ped_int (ped_call C__law_take (hr.mono (by decide)) (by rfl) (pad_cons (ped_var 0 (pv 0)) (pad_cons ped_int pad_nil)))) pad_nil))) (pssd_cons (psd_for PassesOwn.never rfl (pid_r2 (by rfl) T.n_range (pad_cons ped_int (pad_cons (ped_var 1 (pv 1)) pad_nil))) (phd_name (pg_name (i := 3) sc__law_row.nd rfl (.inl rfl))) (pssd_one (psd_expr (PE.of (pe_bm PySem.F.plainAttrs_list PySem.F.slot_list_append PySem.F.type_list_append mt_append (ped_var 2 (pv 2)) (pad_cons (ped_add (ped_add (ped_ix (ped_var 2 (pv 2)) (ped_neg ped_int)) ped_int) (ped_call C__law_take (hr.mono (by decide)) (by rfl) (pad_cons (ped_var 0 (pv 0)) (pad_cons ped_int pad_nil)))) pad_nil)) fun _ _ _ h => eM_of ok_app h)))) (pssd_one (psd_ret (ped_toTuple T.n_tuple (by rfl) (pad_cons (ped_call C__law_pick (hr.mono (by decide)) (by rfl) (pad_cons (ped_var 0 (pv 0)) (pad_cons (ped_var 2 (pv 2)) (pad_cons (ped_var 1 (pv 1)) pad_nil)))) pad_nil))))))⟩

abbrev s__law_rows : Stmt := top 39
abbrev N__law_rows : List Str := ["sizes", "found", "turn", "later", "own", "size"]
theorem sc__law_rows : FnScope N__law_rows ["sizes"] (defScope s__law_rows) := ⟨rfl, rfl, rfl, by decide +kernel, rfl, by decide +kernel, by decide +kernel⟩
theorem cal__law_rows (T : Tx mg) {a : Addr} {fd : FuncData} (Fn : Fun K "_law_rows" "_law_rows" s__law_rows a fd) (hm : mg "_law_rows" = some (.ref a)) (hb : Binds K fd ["sizes"] []) : Cal P w K mg base 1 "_law_rows" ["sizes"] F__law_rows :=
  ⟨a, fd, hm, Fn.kp, hb, fn_ok Fn sc__law_rows fun cdv A outer s H E hr => (pssd_cons (psd_set (i := 1) sc__law_rows.nd rfl (.inl rfl) (ped_lst (pad_cons (ped_tup pad_nil) pad_nil))) (pssd_cons (psd_for PassesOwn.never rfl (pid_r1 (by rfl) T.n_range (pad_cons (ped_len T.n_len (by rfl) (pad_cons (ped_var 0 (pv 0)) pad_nil)) pad_nil)) (phd_name (pg_name (i := 2) sc__law_rows.nd rfl (.inl rfl))) (pssd_cons (psd_set (i := 3) sc__law_rows.nd rfl (.inl rfl) (ped_lst pad_nil)) (pssd_cons (psd_for PassesOwn.never rfl (pid_sq (ped_var 1 (pv 1))) (phd_name (pg_name (i := 4) sc__law_rows.nd rfl (.inr rfl))) (pssd_one (psd_set (i := 3) sc__law_rows.nd rfl (.inl rfl) (ped_add (ped_var 3 (pv 3)) (ped_lc (own := [("size", 5)]) rfl sc__law_rows.nd (pid_sq (ped_var 0 (pv 0))) (blkOk_by (own := [("size", 5)]) (N := N__law_rows) (sc := defScope s__law_rows) (by decide +kernel)) (fun _ _ _ _ _ => (phd_name (pg_name (i := 5) sc__law_rows.nd rfl (.inl rfl)))) (fun _ _ _ _ _ => (ptsd_one (ptd_notIn (room_hu hr) (ped_var 5 (pv 5)) (ped_var 4 (pv 4)) rfl))) (fun _ _ _ _ _ => (ped_add (ped_var 4 (pv 4)) (ped_tup (pad_cons (ped_var 5 (pv 5)) pad_nil))))))))) (pssd_one (psd_set (i := 1) sc__law_rows.nd rfl (.inl rfl) (ped_var 3 (pv 3))))))) (pssd_one (psd_ret (ped_var 1 (pv 1))))))⟩

abbrev s__law_every : Stmt := top 40
abbrev N__law_every : List Str := ["many", "found", "k"]
theorem sc__law_every : FnScope N__law_every ["many"] (defScope s__law_every) := ⟨rfl, rfl, rfl, by decide +kernel, rfl, by decide +kernel, by decide +kernel⟩
theorem cal__law_every (T : Tx mg) {a : Addr} {fd : FuncData} (Fn : Fun K "_law_every" "_law_every" s__law_every a fd) (hm : mg "_law_every" = some (.ref a)) (hb : Binds K fd ["many"] []) : Cal P w K mg base 1 "_law_every" ["many"] F__law_every :=
  ⟨a, fd, hm, Fn.kp, hb, fn_ok Fn sc__law_every fun cdv A outer s H E hr => (pssd_cons (psd_set (i := 1) sc__law_every.nd rfl (.inl rfl) ped_int) (pssd_cons (psd_for PassesOwn.never rfl (pid_r2 (by rfl) T.n_range (pad_cons ped_int (pad_cons (ped_add (ped_var 0 (pv 0)) ped_int) pad_nil))) (phd_name (pg_name (i := 2) sc__law_every.nd rfl (.inl rfl))) (pssd_one (psd_set (i := 1) sc__law_every.nd rfl (.inl rfl) (ped_mul (ped_var 1 (pv 1)) (ped_sub (ped_mul ped_int (ped_var 2 (pv 2))) ped_int))))) (pssd_one (psd_ret (ped_var 1 (pv 1))))))⟩

abbrev s__law_lots : Stmt := top 41
abbrev N__law_lots : List Str := ["many", "some", "found", "k", "ways"]
theorem sc__law_lots : FnScope N__law_lots ["many", "some"] (defScope s__law_lots) := ⟨rfl, rfl, rfl, by decide +kernel, rfl, by decide +kernel, by decide +kernel⟩
theorem cal__law_lots (T : Tx mg) {a : Addr} {fd : FuncData} (Fn : Fun K "_law_lots" "_law_lots" s__law_lots a fd) (hm : mg "_law_lots" = some (.ref a)) (hb : Binds K fd ["many", "some"] []) (C__law_down : Cal P w K mg base 1 "_law_down" ["many"] F__law_down) (C__law_every : Cal P w K mg base 1 "_law_every" ["many"] F__law_every) : ∀ k : Nat, Cal P w K mg base (2 + k) "_law_lots" ["many", "some"] (F__law_lots k)
  | 0 => ⟨a, fd, hm, Fn.kp, hb, fn_none Fn⟩
  | k + 1 => ⟨a, fd, hm, Fn.kp, hb, by
    have C__law_lots := cal__law_lots T Fn hm hb C__law_down C__law_every k
    exact fn_ok Fn sc__law_lots fun cdv A outer s H E hr => (pssd_cons (psd_if (PW.pt (pwd_or (ptd_eq hr.units (ped_var 1 (pv 1)) ped_int) (pwd_or1 (ptd_eq hr.units (ped_var 0 (pv 0)) ped_int)))) (pssd_one (psd_ret (ped_toInt T.n_int (by rfl) (pad_cons (ped_andV (ped_eq hr.units (ped_var 1 (pv 1)) ped_int) (ped_one (ped_eq hr.units (ped_var 0 (pv 0)) ped_int))) pad_nil)))) pssd_nil) (pssd_cons (psd_set (i := 2) sc__law_lots.nd rfl (.inl rfl) ped_int) (pssd_cons (psd_for PassesOwn.never rfl (pid_r2 (by rfl) T.n_range (pad_cons ped_int (pad_cons (ped_add (ped_var 0 (pv 0)) ped_int) pad_nil))) (phd_name (pg_name (i := 3) sc__law_lots.nd rfl (.inl rfl))) (pssd_cons (psd_set (i := 4) sc__law_lots.nd rfl (.inl rfl) (ped_div (ped_call C__law_down (hr.mono (Nat.le_trans (by decide) (Nat.le_add_right _ _))) (by rfl) (pad_cons (ped_var 0 (pv 0)) pad_nil)) (ped_mul (ped_call C__law_down (hr.mono (Nat.le_trans (by decide) (Nat.le_add_right _ _))) (by rfl) (pad_cons (ped_var 3 (pv 3)) pad_nil)) (ped_call C__law_down (hr.mono (Nat.le_trans (by decide) (Nat.le_add_right _ _))) (by rfl) (pad_cons (ped_sub (ped_var 0 (pv 0)) (ped_var 3 (pv 3))) pad_nil))))) (pssd_one (psd_set (i := 2) sc__law_lots.nd rfl (.inl rfl) (ped_add (ped_var 2 (pv 2)) (ped_mul (ped_mul (ped_var 4 (pv 4)) (ped_call C__law_every (hr.mono (Nat.le_trans (by decide) (Nat.le_add_right _ _))) (by rfl) (pad_cons (ped_var 3 (pv 3)) pad_nil))) (ped_call C__law_lots (hr.mono (Nat.le_refl _)) (by rfl) (pad_cons (ped_sub (ped_var 0 (pv 0)) (ped_var 3 (pv 3))) (pad_cons (ped_sub (ped_var 1 (pv 1)) ped_int) pad_nil))))))))) (pssd_one (psd_ret (ped_var 2 (pv 2)))))))⟩

abbrev s__law_mean : Stmt := top 42
abbrev N__law_mean : List Str := ["found", "many", "total", "own"]
theorem sc__law_mean : FnScope N__law_mean ["found", "many"] (defScope s__law_mean) := ⟨rfl, rfl, rfl, by decide +kernel, rfl, by decide +kernel, by decide +kernel⟩
theorem cal__law_mean (T : Tx mg) {a : Addr} {fd : FuncData} (Fn : Fun K "_law_mean" "_law_mean" s__law_mean a fd) (hm : mg "_law_mean" = some (.ref a)) (hb : Binds K fd ["found", "many"] []) (C__law_added : Cal P w K mg base 3 "_law_added" ["one", "other"] F__law_added) (C__law_part : Cal P w K mg base 2 "_law_part" ["top", "bottom"] F__law_part) : Cal P w K mg base 4 "_law_mean" ["found", "many"] F__law_mean :=
  ⟨a, fd, hm, Fn.kp, hb, fn_ok Fn sc__law_mean fun cdv A outer s H E hr => (pssd_cons (psd_set (i := 2) sc__law_mean.nd rfl (.inl rfl) (ped_tup (pad_cons ped_int (pad_cons ped_int pad_nil)))) (pssd_cons (psd_for PassesOwn.never rfl (pid_sq (ped_var 0 (pv 0))) (phd_name (pg_name (i := 3) sc__law_mean.nd rfl (.inl rfl))) (pssd_one (psd_set (i := 2) sc__law_mean.nd rfl (.inl rfl) (ped_call C__law_added (hr.mono (by decide)) (by rfl) (pad_cons (ped_var 2 (pv 2)) (pad_cons (ped_var 3 (pv 3)) pad_nil)))))) (pssd_one (psd_ret (ped_call C__law_part (hr.mono (by decide)) (by rfl) (pad_cons (ped_ix (ped_var 2 (pv 2)) ped_int) (pad_cons (ped_mul (ped_ix (ped_var 2 (pv 2)) ped_int) (ped_var 1 (pv 1))) pad_nil)))))))⟩

abbrev s__law_chance : Stmt := top 43
abbrev N__law_chance : List Str := ["many", "one", "other", "direct", "found", "gap", "begin", "size", "side"]
theorem sc__law_chance : FnScope N__law_chance ["many", "one", "other", "direct"] (defScope s__law_chance) := ⟨rfl, rfl, rfl, by decide +kernel, rfl, by decide +kernel, by decide +kernel⟩
theorem cal__law_chance (T : Tx mg) {a : Addr} {fd : FuncData} (Fn : Fun K "_law_chance" "_law_chance" s__law_chance a fd) (hm : mg "_law_chance" = some (.ref a)) (hb : Binds K fd ["many", "one", "other", "direct"] []) (C__law_mean : Cal P w K mg base 4 "_law_mean" ["found", "many"] F__law_mean) : ∀ k : Nat, Cal P w K mg base (5 + k) "_law_chance" ["many", "one", "other", "direct"] (F__law_chance k)
  | 0 => ⟨a, fd, hm, Fn.kp, hb, fn_none Fn⟩
  | k + 1 => ⟨a, fd, hm, Fn.kp, hb, by
    have C__law_chance := cal__law_chance T Fn hm hb C__law_mean k
    exact fn_ok Fn sc__law_chance fun cdv A outer s H E hr => (pssd_cons (psd_if (PW.pt (pwd_or (ptd_eq hr.units (ped_var 1 (pv 1)) (ped_var 2 (pv 2))) (pwd_or1 (ptd_eq hr.units (ped_var 0 (pv 0)) ped_int)))) (pssd_one (psd_ret (ped_tup (pad_cons ped_int (pad_cons ped_int pad_nil))))) pssd_nil) (pssd_cons (psd_setC (i := 4) sc__law_chance.nd rfl (.inl rfl) (ped_lst pad_nil)) (pssd_cons (psd_for PassesOwn.never rfl (pid_r1 (by rfl) T.n_range (pad_cons (ped_sub (ped_var 0 (pv 0)) ped_int) pad_nil)) (phd_name (pg_name (i := 5) sc__law_chance.nd rfl (.inl rfl))) (pssd_one (psd_if (ptd_eq hr.units (ped_le (ped_var 1 (pv 1)) (ped_var 5 (pv 5))) (ped_le (ped_var 2 (pv 2)) (ped_var 5 (pv 5)))) (pssd_cons (psd_unp rfl (ped_if (ptd_le (ped_var 1 (pv 1)) (ped_var 5 (pv 5))) (ped_tup (pad_cons ped_int (pad_cons (ped_add (ped_var 5 (pv 5)) ped_int) pad_nil))) (ped_tup (pad_cons (ped_add (ped_var 5 (pv 5)) ped_int) (pad_cons (ped_sub (ped_sub (ped_var 0 (pv 0)) (ped_var 5 (pv 5))) ped_int) pad_nil)))) (pgsd_cons (pg_name (i := 6) sc__law_chance.nd rfl (.inl rfl)) (pgsd_cons (pg_name (i := 7) sc__law_chance.nd rfl (.inl rfl)) pgsd_nil))) (pssd_one (psd_expr (PE.of (pe_bm PySem.F.plainAttrs_list PySem.F.slot_list_append PySem.F.type_list_append mt_append (ped_var 4 (pv 4)) (pad_cons (ped_call C__law_chance (hr.mono (Nat.le_refl _)) (by rfl) (pad_cons (ped_var 7 (pv 7)) (pad_cons (ped_sub (ped_var 1 (pv 1)) (ped_var 6 (pv 6))) (pad_cons (ped_sub (ped_var 2 (pv 2)) (ped_var 6 (pv 6))) (pad_cons (ped_var 3 (pv 3)) pad_nil))))) pad_nil)) fun _ _ _ h => eM_of ok_app h)))) (pssd_cons (psd_set (i := 8) sc__law_chance.nd rfl (.inl rfl) (ped_if (ptd_le (ped_var 1 (pv 1)) (ped_var 5 (pv 5))) (ped_add (ped_var 5 (pv 5)) ped_int) (ped_sub (ped_sub (ped_var 0 (pv 0)) (ped_var 5 (pv 5))) ped_int))) (pssd_one (psd_expr (PE.of (pe_bm PySem.F.plainAttrs_list PySem.F.slot_list_append PySem.F.type_list_append mt_append (ped_var 4 (pv 4)) (pad_cons (ped_tup (pad_cons ped_int (pad_cons (ped_if (ptd_val (ped_var 3 (pv 3))) (ped_mul (ped_var 0 (pv 0)) (ped_var 8 (pv 8))) (ped_var 0 (pv 0))) pad_nil))) pad_nil)) fun _ _ _ h => eM_of ok_app h))))))) (pssd_one (psd_ret (ped_call C__law_mean (hr.mono (Nat.le_trans (by decide) (Nat.le_add_right _ _))) (by rfl) (pad_cons (ped_var 4 (pv 4)) (pad_cons (ped_sub (ped_var 0 (pv 0)) ped_int) pad_nil))))))))⟩

abbrev s__law_deep : Stmt := top 44
abbrev N__law_deep : List Str := ["many", "known", "k", "total", "own"]
theorem sc__law_deep : FnScope N__law_deep ["many"] (defScope s__law_deep) := ⟨rfl, rfl, rfl, by decide +kernel, rfl, by decide +kernel, by decide +kernel⟩
theorem cal__law_deep (T : Tx mg) {a : Addr} {fd : FuncData} (Fn : Fun K "_law_deep" "_law_deep" s__law_deep a fd) (hm : mg "_law_deep" = some (.ref a)) (hb : Binds K fd ["many"] []) (C__law_part : Cal P w K mg base 2 "_law_part" ["top", "bottom"] F__law_part) (C__law_added : Cal P w K mg base 3 "_law_added" ["one", "other"] F__law_added) : Cal P w K mg base 4 "_law_deep" ["many"] F__law_deep :=
  ⟨a, fd, hm, Fn.kp, hb, fn_ok Fn sc__law_deep fun cdv A outer s H E hr => (pssd_cons (psd_setC (i := 1) sc__law_deep.nd rfl (.inl rfl) (ped_lst (pad_cons (ped_tup (pad_cons ped_int (pad_cons ped_int pad_nil))) (pad_cons (ped_tup (pad_cons ped_int (pad_cons ped_int pad_nil))) pad_nil)))) (pssd_cons (psd_for PassesOwn.never rfl (pid_r2 (by rfl) T.n_range (pad_cons ped_int (pad_cons (ped_add (ped_var 0 (pv 0)) ped_int) pad_nil))) (phd_name (pg_name (i := 2) sc__law_deep.nd rfl (.inl rfl))) (pssd_cons (psd_set (i := 3) sc__law_deep.nd rfl (.inl rfl) (ped_call C__law_part (hr.mono (by decide)) (by rfl) (pad_cons (ped_add (ped_var 2 (pv 2)) ped_int) (pad_cons ped_int pad_nil)))) (pssd_cons (psd_for PassesOwn.never rfl (pid_sq (ped_slice (ped_var 1 (pv 1)) (pod_some ped_int) (pod_some (ped_var 2 (pv 2))))) (phd_name (pg_name (i := 4) sc__law_deep.nd rfl (.inl rfl))) (pssd_one (psd_set (i := 3) sc__law_deep.nd rfl (.inl rfl) (ped_call C__law_added (hr.mono (by decide)) (by rfl) (pad_cons (ped_var 3 (pv 3)) (pad_cons (ped_tup (pad_cons (ped_mul ped_int (ped_ix (ped_var 4 (pv 4)) ped_int)) (pad_cons (ped_mul (ped_ix (ped_var 4 (pv 4)) ped_int) (ped_sub (ped_var 2 (pv 2)) ped_int)) pad_nil))) pad_nil)))))) (pssd_one (psd_expr (PE.of (pe_bm PySem.F.plainAttrs_list PySem.F.slot_list_append PySem.F.type_list_append mt_append (ped_var 1 (pv 1)) (pad_cons (ped_var 3 (pv 3)) pad_nil)) fun _ _ _ h => eM_of ok_app h)))))) (pssd_one (psd_ret (ped_ix (ped_var 1 (pv 1)) (ped_var 0 (pv 0)))))))⟩

abbrev s__law_great : Stmt := top 45
abbrev N__law_great : List Str := ["many", "place", "total", "far"]
theorem sc__law_great : FnScope N__law_great ["many", "place"] (defScope s__law_great) := ⟨rfl, rfl, rfl, by decide +kernel, rfl, by decide +kernel, by decide +kernel⟩
theorem cal__law_great (T : Tx mg) {a : Addr} {fd : FuncData} (Fn : Fun K "_law_great" "_law_great" s__law_great a fd) (hm : mg "_law_great" = some (.ref a)) (hb : Binds K fd ["many", "place"] []) (C__law_added : Cal P w K mg base 3 "_law_added" ["one", "other"] F__law_added) : Cal P w K mg base 4 "_law_great" ["many", "place"] F__law_great :=
  ⟨a, fd, hm, Fn.kp, hb, fn_ok Fn sc__law_great fun cdv A outer s H E hr => (pssd_cons (psd_set (i := 2) sc__law_great.nd rfl (.inl rfl) (ped_tup (pad_cons ped_int (pad_cons ped_int pad_nil)))) (pssd_cons (psd_for PassesOwn.never rfl (pid_sq (ped_add (ped_listRg2 rfl (by rfl) T.n_list (by rfl) T.n_range ped_int (ped_add (ped_var 1 (pv 1)) ped_int)) (ped_listRg2 rfl (by rfl) T.n_list (by rfl) T.n_range ped_int (ped_sub (ped_var 0 (pv 0)) (ped_var 1 (pv 1)))))) (phd_name (pg_name (i := 3) sc__law_great.nd rfl (.inl rfl))) (pssd_one (psd_set (i := 2) sc__law_great.nd rfl (.inl rfl) (ped_call C__law_added (hr.mono (by decide)) (by rfl) (pad_cons (ped_var 2 (pv 2)) (pad_cons (ped_tup (pad_cons ped_int (pad_cons (ped_add (ped_var 3 (pv 3)) ped_int) pad_nil))) pad_nil)))))) (pssd_one (psd_ret (ped_var 2 (pv 2))))))⟩

abbrev s__law_right : Stmt := top 46
abbrev N__law_right : List Str := ["box", "n", "rows", "some", "place", "one", "other", "many", "got", "due", "deep", "wide", "row", "good", "far", "size", "k", "own"]
theorem sc__law_right : FnScope N__law_right ["box"] (defScope s__law_right) := ⟨rfl, rfl, rfl, by decide +kernel, rfl, by decide +kernel, by decide +kernel⟩
theorem cal__law_right (T : Tx mg) {a : Addr} {fd : FuncData} (Fn : Fun K "_law_right" "_law_right" s__law_right a fd) (hm : mg "_law_right" = some (.ref a)) (hb : Binds K fd ["box"] []) (C__law_take : Cal P w K mg base 1 "_law_take" ["box", "size_so"] F__law_take) (C__law_row : Cal P w K mg base 3 "_law_row" ["box", "many"] F__law_row) (C__law_rows : Cal P w K mg base 1 "_law_rows" ["sizes"] F__law_rows) (C_count_outer : Cal P w K mg base 40 "count_outer" ["row", "many"] F_count_outer) (C_count_nestings : Cal P w K mg base 41 "count_nestings" ["row"] F_count_nestings) (C__law_lots : Cal P w K mg base 10 "_law_lots" ["many", "some"] (F__law_lots 8)) (C__law_every : Cal P w K mg base 1 "_law_every" ["many"] F__law_every) (C__law_same : Cal P w K mg base 5 "_law_same" ["got", "due"] (F__law_same 4)) (C_greatest_depth : Cal P w K mg base 4 "greatest_depth" ["row", "place"] F_greatest_depth) (C__law_mean : Cal P w K mg base 4 "_law_mean" ["found", "many"] F__law_mean) (C_holder_chance : Cal P w K mg base 3 "holder_chance" ["row", "one", "other"] F_holder_chance) (C_around_chance : Cal P w K mg base 3 "around_chance" ["row", "one", "other"] F_around_chance) (C__law_chance : Cal P w K mg base 13 "_law_chance" ["many", "one", "other", "direct"] (F__law_chance 8)) (C__law_great : Cal P w K mg base 4 "_law_great" ["many", "place"] F__law_great) (C_mean_depth : Cal P w K mg base 4 "mean_depth" ["row", "place"] F_mean_depth) (C_mean_inside : Cal P w K mg base 4 "mean_inside" ["row", "place"] F_mean_inside) (C__law_deep : Cal P w K mg base 4 "_law_deep" ["many"] F__law_deep) (C_holders : Cal P w K mg base 3 "holders" ["row", "place"] F_holders) (C_fewest_moves : Cal P w K mg base 3 "fewest_moves" ["row", "one", "other"] F_fewest_moves) : Cal P w K mg base 42 "_law_right" ["box"] F__law_right :=
  ⟨a, fd, hm, Fn.kp, hb, fn_ok Fn sc__law_right fun cdv A outer s H E hr => (pssd_cons (psd_set (i := 1) sc__law_right.nd rfl (.inl rfl) (ped_add ped_int (ped_call C__law_take (hr.mono (by decide)) (by rfl) (pad_cons (ped_var 0 (pv 0)) (pad_cons ped_int pad_nil))))) (pssd_cons (psd_set (i := 2) sc__law_right.nd rfl (.inl rfl) (ped_call C__law_rows (hr.mono (by decide)) (by rfl) (pad_cons (ped_call C__law_row (hr.mono (by decide)) (by rfl) (pad_cons (ped_var 0 (pv 0)) (pad_cons (ped_var 1 (pv 1)) pad_nil))) pad_nil))) (pssd_cons (psd_unp rfl (ped_tup (pad_cons (ped_call C__law_take (hr.mono (by decide)) (by rfl) (pad_cons (ped_var 0 (pv 0)) (pad_cons (ped_add (ped_var 1 (pv 1)) ped_int) pad_nil))) (pad_cons (ped_call C__law_take (hr.mono (by decide)) (by rfl) (pad_cons (ped_var 0 (pv 0)) (pad_cons (ped_var 1 (pv 1)) pad_nil))) (pad_cons (ped_call C__law_take (hr.mono (by decide)) (by rfl) (pad_cons (ped_var 0 (pv 0)) (pad_cons (ped_var 1 (pv 1)) pad_nil))) (pad_cons (ped_call C__law_take (hr.mono (by decide)) (by rfl) (pad_cons (ped_var 0 (pv 0)) (pad_cons (ped_var 1 (pv 1)) pad_nil))) pad_nil))))) (pgsd_cons (pg_name (i := 3) sc__law_right.nd rfl (.inr rfl)) (pgsd_cons (pg_name (i := 4) sc__law_right.nd rfl (.inr rfl)) (pgsd_cons (pg_name (i := 5) sc__law_right.nd rfl (.inr rfl)) (pgsd_cons (pg_name (i := 6) sc__law_right.nd rfl (.inr rfl)) pgsd_nil))))) (pssd_cons (psd_set (i := 7) sc__law_right.nd rfl (.inl rfl) (ped_len T.n_len (by rfl) (pad_cons (ped_var 2 (pv 2)) pad_nil))) (pssd_cons (psd_set (i := 8) sc__law_right.nd rfl (.inl rfl) (ped_lst (pad_cons (ped_sum rfl T.n_sum (by rfl) (pad_cons (ped_lc (own := [("row", 12)]) rfl sc__law_right.nd (pid_sq (ped_var 2 (pv 2))) (blkOk_by (own := [("row", 12)]) (N := N__law_right) (sc := defScope s__law_right) (by decide +kernel)) (fun _ _ _ _ _ => (phd_name (pg_name (i := 12) sc__law_right.nd rfl (.inl rfl)))) (fun _ _ _ _ _ => ptsd_nil) (fun _ _ _ _ _ => (ped_call C_count_nestings (hr.mono (by decide)) (by rfl) (pad_cons (ped_var 12 (pv 12)) pad_nil)))) pad_nil)) (pad_cons (ped_sum rfl T.n_sum (by rfl) (pad_cons (ped_lc (own := [("row", 12)]) rfl sc__law_right.nd (pid_sq (ped_var 2 (pv 2))) (blkOk_by (own := [("row", 12)]) (N := N__law_right) (sc := defScope s__law_right) (by decide +kernel)) (fun _ _ _ _ _ => (phd_name (pg_name (i := 12) sc__law_right.nd rfl (.inl rfl)))) (fun _ _ _ _ _ => ptsd_nil) (fun _ _ _ _ _ => (ped_call C_count_outer (hr.mono (by decide)) (by rfl) (pad_cons (ped_var 12 (pv 12)) (pad_cons (ped_var 3 (pv 3)) pad_nil))))) pad_nil)) pad_nil)))) (pssd_cons (psd_if (ptd_not (ptd_val (ped_call C__law_same (hr.mono (by decide)) (by rfl) (pad_cons (ped_var 8 (pv 8)) (pad_cons (ped_lst (pad_cons (ped_call C__law_every (hr.mono (by decide)) (by rfl) (pad_cons (ped_var 1 (pv 1)) pad_nil)) (pad_cons (ped_call C__law_lots (hr.mono (by decide)) (by rfl) (pad_cons (ped_var 1 (pv 1)) (pad_cons (ped_var 3 (pv 3)) pad_nil))) pad_nil))) pad_nil))))) (pssd_one (psd_ret ped_bl)) pssd_nil) (pssd_cons (psd_setC (i := 8) sc__law_right.nd rfl (.inl rfl) (ped_lst (pad_cons (ped_call C__law_mean (hr.mono (by decide)) (by rfl) (pad_cons (ped_lc (own := [("row", 12)]) rfl sc__law_right.nd (pid_sq (ped_var 2 (pv 2))) (blkOk_by (own := [("row", 12)]) (N := N__law_right) (sc := defScope s__law_right) (by decide +kernel)) (fun _ _ _ _ _ => (phd_name (pg_name (i := 12) sc__law_right.nd rfl (.inl rfl)))) (fun _ _ _ _ _ => ptsd_nil) (fun _ _ _ _ _ => (ped_tup (pad_cons (ped_call C_greatest_depth (hr.mono (by decide)) (by rfl) (pad_cons (ped_var 12 (pv 12)) (pad_cons (ped_var 4 (pv 4)) pad_nil))) (pad_cons ped_int pad_nil))))) (pad_cons (ped_var 7 (pv 7)) pad_nil))) pad_nil))) (pssd_cons (psd_expr (PE.of (pe_bm PySem.F.plainAttrs_list PySem.F.slot_list_append PySem.F.type_list_append mt_append (ped_var 8 (pv 8)) (pad_cons (ped_call C__law_mean (hr.mono (by decide)) (by rfl) (pad_cons (ped_lc (own := [("row", 12)]) rfl sc__law_right.nd (pid_sq (ped_var 2 (pv 2))) (blkOk_by (own := [("row", 12)]) (N := N__law_right) (sc := defScope s__law_right) (by decide +kernel)) (fun _ _ _ _ _ => (phd_name (pg_name (i := 12) sc__law_right.nd rfl (.inl rfl)))) (fun _ _ _ _ _ => ptsd_nil) (fun _ _ _ _ _ => (ped_call C_holder_chance (hr.mono (by decide)) (by rfl) (pad_cons (ped_var 12 (pv 12)) (pad_cons (ped_var 5 (pv 5)) (pad_cons (ped_var 6 (pv 6)) pad_nil)))))) (pad_cons (ped_var 7 (pv 7)) pad_nil))) pad_nil)) fun _ _ _ h => eM_of ok_app h)) (pssd_cons (psd_expr (PE.of (pe_bm PySem.F.plainAttrs_list PySem.F.slot_list_append PySem.F.type_list_append mt_append (ped_var 8 (pv 8)) (pad_cons (ped_call C__law_mean (hr.mono (by decide)) (by rfl) (pad_cons (ped_lc (own := [("row", 12)]) rfl sc__law_right.nd (pid_sq (ped_var 2 (pv 2))) (blkOk_by (own := [("row", 12)]) (N := N__law_right) (sc := defScope s__law_right) (by decide +kernel)) (fun _ _ _ _ _ => (phd_name (pg_name (i := 12) sc__law_right.nd rfl (.inl rfl)))) (fun _ _ _ _ _ => ptsd_nil) (fun _ _ _ _ _ => (ped_call C_around_chance (hr.mono (by decide)) (by rfl) (pad_cons (ped_var 12 (pv 12)) (pad_cons (ped_var 5 (pv 5)) (pad_cons (ped_var 6 (pv 6)) pad_nil)))))) (pad_cons (ped_var 7 (pv 7)) pad_nil))) pad_nil)) fun _ _ _ h => eM_of ok_app h)) (pssd_cons (psd_set (i := 9) sc__law_right.nd rfl (.inl rfl) (ped_lst (pad_cons (ped_call C__law_great (hr.mono (by decide)) (by rfl) (pad_cons (ped_var 1 (pv 1)) (pad_cons (ped_var 4 (pv 4)) pad_nil))) (pad_cons (ped_call C__law_chance (hr.mono (by decide)) (by rfl) (pad_cons (ped_var 1 (pv 1)) (pad_cons (ped_var 5 (pv 5)) (pad_cons (ped_var 6 (pv 6)) (pad_cons ped_bl pad_nil))))) (pad_cons (ped_call C__law_chance (hr.mono (by decide)) (by rfl) (pad_cons (ped_var 1 (pv 1)) (pad_cons (ped_var 5 (pv 5)) (pad_cons (ped_var 6 (pv 6)) (pad_cons ped_bl pad_nil))))) pad_nil))))) (pssd_cons (psd_if (ptd_not (ptd_val (ped_call C__law_same (hr.mono (by decide)) (by rfl) (pad_cons (ped_var 8 (pv 8)) (pad_cons (ped_var 9 (pv 9)) pad_nil))))) (pssd_one (psd_ret ped_bl)) pssd_nil) (pssd_cons (psd_par (i := 10) (j := 11) rfl sc__law_right.nd rfl rfl (by decide) rfl rfl (pad_cons (ped_lst pad_nil) (pad_cons (ped_lst pad_nil) pad_nil)) (by rfl)) (pssd_cons (psd_for PassesOwn.never rfl (pid_sq (ped_var 2 (pv 2))) (phd_name (pg_name (i := 12) sc__law_right.nd rfl (.inr rfl))) (pssd_cons (psd_set (i := 10) sc__law_right.nd rfl (.inl rfl) (ped_add (ped_var 10 (pv 10)) (ped_lc (own := [("k", 16)]) rfl sc__law_right.nd (pid_r1 (by rfl) T.n_range (pad_cons (ped_var 1 (pv 1)) pad_nil)) (blkOk_by (own := [("k", 16)]) (N := N__law_right) (sc := defScope s__law_right) (by decide +kernel)) (fun _ _ _ _ _ => (phd_name (pg_name (i := 16) sc__law_right.nd rfl (.inl rfl)))) (fun _ _ _ _ _ => ptsd_nil) (fun _ _ _ _ _ => (ped_call C_mean_depth (hr.mono (by decide)) (by rfl) (pad_cons (ped_var 12 (pv 12)) (pad_cons (ped_var 16 (pv 16)) pad_nil))))))) (pssd_one (psd_set (i := 11) sc__law_right.nd rfl (.inl rfl) (ped_add (ped_var 11 (pv 11)) (ped_lc (own := [("k", 16)]) rfl sc__law_right.nd (pid_r1 (by rfl) T.n_range (pad_cons (ped_var 1 (pv 1)) pad_nil)) (blkOk_by (own := [("k", 16)]) (N := N__law_right) (sc := defScope s__law_right) (by decide +kernel)) (fun _ _ _ _ _ => (phd_name (pg_name (i := 16) sc__law_right.nd rfl (.inl rfl)))) (fun _ _ _ _ _ => ptsd_nil) (fun _ _ _ _ _ => (ped_call C_mean_inside (hr.mono (by decide)) (by rfl) (pad_cons (ped_var 12 (pv 12)) (pad_cons (ped_var 16 (pv 16)) pad_nil)))))))))) (pssd_cons (psd_if (ptd_not (ptd_val (ped_call C__law_same (hr.mono (by decide)) (by rfl) (pad_cons (ped_lst (pad_cons (ped_call C__law_mean (hr.mono (by decide)) (by rfl) (pad_cons (ped_var 10 (pv 10)) (pad_cons (ped_var 7 (pv 7)) pad_nil))) (pad_cons (ped_call C__law_mean (hr.mono (by decide)) (by rfl) (pad_cons (ped_var 11 (pv 11)) (pad_cons (ped_var 7 (pv 7)) pad_nil))) pad_nil))) (pad_cons (ped_mul (ped_lst (pad_cons (ped_call C__law_deep (hr.mono (by decide)) (by rfl) (pad_cons (ped_var 1 (pv 1)) pad_nil)) pad_nil)) ped_int) pad_nil))))) (pssd_one (psd_ret ped_bl)) pssd_nil) (pssd_cons (psd_setLc (i := 13) (own := [("row", 12)]) rfl sc__law_right.nd rfl rfl (sw_true rfl rfl rfl (by decide +kernel)) (pid_sq (ped_var 2 (pv 2))) (blkOk_by (own := [("row", 12)]) (N := N__law_right) (sc := defScope s__law_right) (by decide +kernel)) (fun _ _ _ _ _ => (phd_name (pg_name (i := 12) sc__law_right.nd rfl (.inl rfl)))) (fun _ _ _ _ _ => (ptsd_one (ptd_in (room_hu hr) (ped_var 6 (pv 6)) (ped_call C_holders (hr.mono (by decide)) (by rfl) (pad_cons (ped_var 12 (pv 12)) (pad_cons (ped_var 5 (pv 5)) pad_nil))) rfl))) (fun _ _ _ _ _ => (ped_var 12 (pv 12)))) (pssd_cons (psd_setLc (i := 14) (own := [("row", 12)]) rfl sc__law_right.nd rfl rfl (sw_true rfl rfl rfl (by decide +kernel)) (pid_sq (ped_var 2 (pv 2))) (blkOk_by (own := [("row", 12)]) (N := N__law_right) (sc := defScope s__law_right) (by decide +kernel)) (fun _ _ _ _ _ => (phd_name (pg_name (i := 12) sc__law_right.nd rfl (.inl rfl)))) (fun _ _ _ _ _ => ptsd_nil) (fun _ _ _ _ _ => (ped_call C_fewest_moves (hr.mono (by decide)) (by rfl) (pad_cons (ped_var 12 (pv 12)) (pad_cons (ped_var 5 (pv 5)) (pad_cons (ped_var 6 (pv 6)) pad_nil)))))) (pssd_cons (psd_if (ptd_eq hr.units (ped_var 5 (pv 5)) (ped_var 6 (pv 6))) (pssd_one (psd_ret (ped_call C__law_same (hr.mono (by decide)) (by rfl) (pad_cons (ped_lst (pad_cons (ped_var 13 (pv 13)) (pad_cons (ped_var 14 (pv 14)) pad_nil))) (pad_cons (ped_lst (pad_cons (ped_lst pad_nil) (pad_cons (ped_mul (ped_lst (pad_cons ped_non pad_nil)) (ped_var 7 (pv 7))) pad_nil))) pad_nil))))) pssd_nil) (pssd_cons (psd_set (i := 15) sc__law_right.nd rfl (.inl rfl) (ped_add (ped_abs T.n_abs (by rfl) (pad_cons (ped_sub (ped_var 5 (pv 5)) (ped_var 6 (pv 6))) pad_nil)) ped_int)) (pssd_one (psd_ret (ped_andV (ped_eq hr.units (ped_mul (ped_len T.n_len (by rfl) (pad_cons (ped_var 13 (pv 13)) pad_nil)) (ped_var 15 (pv 15))) (ped_var 7 (pv 7))) (ped_one (ped_call C__law_same (hr.mono (by decide)) (by rfl) (pad_cons (ped_lc (own := [("own", 17)]) rfl sc__law_right.nd (pid_sq (ped_var 14 (pv 14))) (blkOk_by (own := [("own", 17)]) (N := N__law_right) (sc := defScope s__law_right) (by decide +kernel)) (fun _ _ _ _ _ => (phd_name (pg_name (i := 17) sc__law_right.nd rfl (.inl rfl)))) (fun _ _ _ _ _ => (ptsd_one (ptd_notN (ped_var 17 (pv 17))))) (fun _ _ _ _ _ => (ped_var 17 (pv 17)))) (pad_cons (ped_mul (ped_lst (pad_cons (ped_sub (ped_var 15 (pv 15)) ped_int) pad_nil)) (ped_len T.n_len (by rfl) (pad_cons (ped_var 13 (pv 13)) pad_nil))) pad_nil)))))))))))))))))))))))))⟩

abbrev s_law : Stmt := top 47
abbrev N_law : List Str := ["script"]
theorem sc_law : FnScope N_law ["script"] (defScope s_law) := ⟨rfl, rfl, rfl, by decide +kernel, rfl, by decide +kernel, by decide +kernel⟩
theorem fn_law {a0 : Addr} {ns : List Int} (T : Tx mg) {a : Addr} {fd : FuncData} (Fn : Fun K "law" "law" s_law a fd) (C__law_cells : CalS P w K mg base 1 "_law_cells" ["script", "top_so"] a0 ns (F__law_cells a0 ns)) (C__law_box : Cal P w K mg base 1 "_law_box" ["script", "k"] F__law_box) (C__law_right : Cal P w K mg base 42 "_law_right" ["box"] F__law_right) : FnOk P w K mg base CX0 43 a fd ["script"] (spS K a0 ns (F_law a0 ns)) :=
  fn_okS Fn sc_law fun cdv A outer s H E hr hS => (pssd_one (psd_retNew C__law_right (hr.mono (by decide)) (by rfl) (ped_call C__law_box (hr.mono (by decide)) (by rfl) (pad_cons (ped_callS hS C__law_cells (hr.mono (by decide)) (by rfl) (pad_cons (ped_var 0 (pv 0)) (pad_cons ped_int pad_nil))) (pad_cons ped_int pad_nil)))))

end
end K87

set_option Elab.async false
set_option linter.all false
set_option maxRecDepth 100000
set_option maxHeartbeats 4000000
/-! The class that counts: each method walked once. -/
namespace K87
open PySem L2 DL Ct
abbrev sCls : Stmt := top 10
abbrev sInit : Stmt := inClass sCls 0
abbrev sFits : Stmt := inClass sCls 1
abbrev sHeld : Stmt := inClass sCls 2
abbrev sParts : Stmt := inClass sCls 3
abbrev sOuters : Stmt := inClass sCls 4
abbrev s_count_with : Stmt := top 11
abbrev s_count_outer : Stmt := top 13
def clV : Option Int → V
  | none => .non
  | some i => .int i
/-- one object and what it was made from -/
structure Z where
  C : Addr
  p : Addr
  dx : Addr
  ar : Addr
  ac : Addr
  dk : Addr
  dd : Addr
  H0 : Hp
  row : List Int
  cl : List (Option Int)
def Z.fs (z : Z) : List (Str × V) := putF "own_outers" (.ref z.dd) (putF "own_known" (.ref z.dk) (putF "own_claim" (.ref z.ac) (putF "own_row" (.ref z.ar) [])))
theorem len_putF (f : Str) (v : V) : ∀ fs : List (Str × V), (putF f v fs).length ≤ fs.length + 1
  | [] => Nat.le_refl _
  | (g, x) :: r => by
    unfold putF
    split
    · exact Nat.le_succ _
    · have := len_putF f v r
      rw [List.length_cons, List.length_cons]; omega
theorem k1 : ¬ (("own_outers" : Str) = "own_known") := by decide +kernel
theorem k2 : ¬ (("own_outers" : Str) = "own_claim") := by decide +kernel
theorem k3 : ¬ (("own_outers" : Str) = "own_row") := by decide +kernel
theorem k4 : ¬ (("own_known" : Str) = "own_claim") := by decide +kernel
theorem k5 : ¬ (("own_known" : Str) = "own_row") := by decide +kernel
theorem k6 : ¬ (("own_claim" : Str) = "own_row") := by decide +kernel
section
variable (z : Z)
theorem fs_out : z.fs.lookup ("own_outers" : Str) = some (.ref z.dd) := by unfold Z.fs; rw [lookup_putF, if_pos rfl]
theorem fs_known : z.fs.lookup ("own_known" : Str) = some (.ref z.dk) := by unfold Z.fs; rw [lookup_putF, if_neg (Ne.symm k1), lookup_putF, if_pos rfl]
theorem fs_claim : z.fs.lookup ("own_claim" : Str) = some (.ref z.ac) := by unfold Z.fs; rw [lookup_putF, if_neg (Ne.symm k2), lookup_putF, if_neg (Ne.symm k4), lookup_putF, if_pos rfl]
theorem fs_row : z.fs.lookup ("own_row" : Str) = some (.ref z.ar) := by unfold Z.fs; rw [lookup_putF, if_neg (Ne.symm k3), lookup_putF, if_neg (Ne.symm k5), lookup_putF, if_neg (Ne.symm k6), lookup_putF, if_pos rfl]
theorem fs_no {m : Str} (h1 : ¬ m = "own_outers") (h2 : ¬ m = "own_known") (h3 : ¬ m = "own_claim") (h4 : ¬ m = "own_row") : z.fs.lookup m = none := by
  unfold Z.fs
  rw [lookup_putF, if_neg h1, lookup_putF, if_neg h2, lookup_putF, if_neg h3, lookup_putF, if_neg h4]
  all_goals rfl
theorem fs_fits : z.fs.lookup ("fits" : Str) = none := fs_no z (by decide +kernel) (by decide +kernel) (by decide +kernel) (by decide +kernel)
theorem fs_held : z.fs.lookup ("held" : Str) = none := fs_no z (by decide +kernel) (by decide +kernel) (by decide +kernel) (by decide +kernel)
theorem fs_parts : z.fs.lookup ("parts" : Str) = none := fs_no z (by decide +kernel) (by decide +kernel) (by decide +kernel) (by decide +kernel)
theorem fs_outers : z.fs.lookup ("outers" : Str) = none := fs_no z (by decide +kernel) (by decide +kernel) (by decide +kernel) (by decide +kernel)
end
structure ZOk (z : Z) : Prop where
  ar : z.H0 z.ar = some (.tup (z.row.map V.int))
  ac : z.H0 z.ac = some (.lst (z.cl.map clV)) ∨ z.H0 z.ac = some (.tup (z.cl.map clV))
  pk : z.p ≠ z.dk
  pd : z.p ≠ z.dd
  kd : z.dk ≠ z.dd
  fk : z.H0 z.dk = none
  fo : z.H0 z.dd = none
  ne : z.row ≠ []
  nd : z.row.Nodup
  n12 : z.row.length ≤ 12
  ln : z.cl.length = z.row.length
def kP (a k h : Nat) : List Key := [.inl (a : Int), .inl ((a : Int) + k - 1), .inl (h : Int)]
def kO (a m : Nat) : List Key := [.inl (a : Int), .inl (m : Int)]
def kPs : List (List Key) := (List.range 13).flatMap fun a => (List.range 13).flatMap fun k => (List.range 13).map fun h => kP a k h
def kOs : List (List Key) := (List.range 13).flatMap fun a => (List.range 13).map fun m => kO a m
theorem mem_kPs {a k h : Nat} (ha : a < 13) (hk : k < 13) (hh : h < 13) : kP a k h ∈ kPs := by
  unfold kPs
  rw [List.mem_flatMap]
  refine ⟨a, List.mem_range.mpr ha, ?_⟩
  rw [List.mem_flatMap]
  exact ⟨k, List.mem_range.mpr hk, List.mem_map.mpr ⟨h, List.mem_range.mpr hh, rfl⟩⟩
theorem mem_kOs {a k : Nat} (ha : a < 13) (hk : k < 13) : kO a k ∈ kOs := by
  unfold kOs
  rw [List.mem_flatMap]
  exact ⟨a, List.mem_range.mpr ha, List.mem_map.mpr ⟨k, List.mem_range.mpr hk, rfl⟩⟩
theorem nd_len {α : Type} [DecidableEq α] : ∀ {l m : List α}, l.Nodup → (∀ x ∈ l, x ∈ m) → l.length ≤ m.length
  | [], _, _, _ => Nat.zero_le _
  | x :: l, m, hn, hs => by
    have hx : x ∈ m := hs x (by simp)
    obtain ⟨hxl, hn⟩ := List.nodup_cons.mp hn
    have := nd_len (l := l) (m := m.erase x) hn fun y hy => (List.mem_erase_of_ne (fun e => hxl (by rw [← e]; exact hy))).mpr (hs y (List.mem_cons_of_mem _ hy))
    rw [List.length_erase_of_mem hx] at this
    have := List.length_pos_of_mem hx
    rw [List.length_cons]; omega
/-- a table of what is known: each pair is right -/
structure Tb (good : List Key → V → Prop) (kvs : List (List Key × V)) : Prop where
  nd : (kvs.map (·.1)).Nodup
  ok : ∀ e ∈ kvs, good e.1 e.2
def goodP (z : Z) (x : List Key) (v : V) : Prop := ∃ a k h : Nat, 0 < k ∧ a + k ≤ z.row.length ∧ h < z.row.length ∧ x = kP a k h ∧ v = .int (pV z.row z.cl a k h)
def goodO (z : Z) (x : List Key) (v : V) : Prop := ∃ a m : Nat, a < z.row.length ∧ m ≤ z.row.length ∧ x = kO a m ∧ v = .int (oV z.row z.cl a m)
theorem Tb.get {good : List Key → V → Prop} {kvs : List (List Key × V)} (t : Tb good kvs) {k : List Key} {v : V} (h : valV kvs k = some v) : good k v := by
  unfold valV at h
  obtain ⟨e, he, hv⟩ := Option.map_eq_some_iff.mp h
  have h1 := List.find?_some he
  have h2 := t.ok e (List.mem_of_find?_eq_some he)
  rw [← of_decide_eq_true h1, ← hv]
  exact h2
theorem Tb.put {good : List Key → V → Prop} {kvs : List (List Key × V)} (t : Tb good kvs) {k : List Key} {v : V} (g : good k v) : Tb good (putK kvs k v) := by
  cases e : valV kvs k with
  | none =>
    refine ⟨nd_putK v t.nd e, fun x hx => ?_⟩
    rw [putK_new v e] at hx
    rcases List.mem_append.mp hx with hx | hx
    · exact t.ok x hx
    · rw [List.mem_singleton.mp hx]; exact g
  | some u =>
    unfold putK
    rw [valV_any, e]
    show Tb good (kvs.map fun kv => if kv.1 = k then (kv.1, v) else kv)
    refine ⟨?_, fun x hx => ?_⟩
    · rw [List.map_map]
      have : ((fun x : List Key × V => x.1) ∘ fun kv : List Key × V => if kv.1 = k then (kv.1, v) else kv) = fun x => x.1 := by
        funext x
        show (if x.1 = k then (x.1, v) else x).1 = x.1
        split <;> rfl
      rw [this]; exact t.nd
    · obtain ⟨y, hy, rfl⟩ := List.mem_map.mp hx
      by_cases hk : y.1 = k
      · rw [if_pos hk, hk]; exact g
      · rw [if_neg hk]; exact t.ok y hy
theorem lenP {z : Z} (zo : ZOk z) {kvs : List (List Key × V)} (t : Tb (goodP z) kvs) : kvs.length < sizeLine := by
  have h := nd_len (m := kPs) t.nd fun x hx => by
    obtain ⟨e, he, rfl⟩ := List.mem_map.mp hx
    obtain ⟨a, k, h, h0, h1, h2, h3, _⟩ := t.ok e he
    have := zo.n12
    rw [h3]
    exact mem_kPs (by omega) (by omega) (by omega)
  rw [List.length_map] at h
  exact Nat.lt_of_le_of_lt h (by decide +kernel)
theorem lenO {z : Z} (zo : ZOk z) {kvs : List (List Key × V)} (t : Tb (goodO z) kvs) : kvs.length < sizeLine := by
  have h := nd_len (m := kOs) t.nd fun x hx => by
    obtain ⟨e, he, rfl⟩ := List.mem_map.mp hx
    obtain ⟨a, k, h1, h2, h3, _⟩ := t.ok e he
    have := zo.n12
    rw [h3]
    exact mem_kOs (by omega) (by omega)
  rw [List.length_map] at h
  exact Nat.lt_of_le_of_lt h (by decide +kernel)
structure ZIn (z : Z) (H : Hp) : Prop where
  same : Same z.H0 H
  ob : H z.p = some (.ins z.C z.dx z.fs)
  kn : ∃ kvs, H z.dk = some (.dT kvs) ∧ Tb (goodP z) kvs
  ou : ∃ kvs, H z.dd = some (.dT kvs) ∧ Tb (goodO z) kvs
def ZKp (z : Z) (H H' : Hp) : Prop := ∀ b o, H b = some o → b ≠ z.dk → b ≠ z.dd → H' b = some o
theorem ZIn.on {z : Z} {H H' : Hp} (i : ZIn z H) (s : Same H H') : ZIn z H' := by
  obtain ⟨k, hk, tk⟩ := i.kn
  obtain ⟨o, ho, to⟩ := i.ou
  exact ⟨i.same.trans s, s _ _ i.ob, ⟨k, s _ _ hk, tk⟩, ⟨o, s _ _ ho, to⟩⟩
theorem Same.kp {z : Z} {H H' : Hp} (s : Same H H') : ZKp z H H' := fun b o h _ _ => s b o h
theorem ZKp.trans {z : Z} {H H1 H2 : Hp} (a : ZKp z H H1) (b : ZKp z H1 H2) : ZKp z H H2 := fun c o h h1 h2 => b c o (a c o h h1 h2) h1 h2
theorem same_upd {H : Hp} {b : Addr} (h : H b = none) (o : HO) : Same H (upd H b o) := fun c q e => by rw [upd_ne (ne_of_none e h)]; exact e
/-- what the class is, as the top made it -/
structure CT (K : PySem.W.Frag) (mg : Str → Option Value) (C : Addr) : Prop where
  cl : Cls K C
  nR : NoAttr K C "own_row"
  nC : NoAttr K C "own_claim"
  nK : NoAttr K C "own_known"
  nO : NoAttr K C "own_outers"
  mgC : mg "Counter" = some (.ref C)
theorem rps_ints (F : Hp) : ∀ ns : List Int, Rps F (ns.map V.int) (ns.map PyData.int)
  | [] => .nil
  | n :: ns => .cons (.int n) (rps_ints F ns)
theorem biggest_eq {row : List Int} {a b : Nat} (hab : a ≤ b) (hb : b < row.length) : F_biggest [.d (.tuple (row.map PyData.int)), .d (.int a), .d (.int b)] [] = some (.w (.d (.int (bigM row a b))), []) := by
  have h1 : ((b : Int) + 1) = ((b + 1 : Nat) : Int) := rfl
  have h2 : cutL (row.map PyData.int) (some (a : Int)) (some ((b : Int) + 1)) = ((row.drop a).take (b + 1 - a)).map PyData.int := by
    rw [h1, cutL_nat (by omega) (by rw [List.length_map]; omega), List.map_take, List.map_drop]
  have hp : 0 < ((row.drop a).take (b + 1 - a)).length := by rw [List.length_take, List.length_drop]; omega
  have hm : mxI ((row.drop a).take (b + 1 - a)) ∈ row := List.mem_of_mem_drop (List.mem_of_mem_take (mxI_mem (slice_ne hab hb)))
  have h3 := fstIx_ints _ hm
  have h4 : oMxT mxI (.tuple (((row.drop a).take (b + 1 - a)).map PyData.int)) = some (.int (mxI ((row.drop a).take (b + 1 - a)))) := by
    unfold oMxT
    simp only [intsD_ints, Option.bind_some]
    rw [if_pos hp]
  simp [-List.map_take, -List.map_drop, F_biggest, b_biggest, h2, h4, oMx, kMax, kIndex, shaped_ints, shaped_int, h3, bigM]
/-- the reading of a call of biggest -/
theorem sp_biggest0 {row : List Int} {H : Hp} {ar : Addr} (har : H ar = some (.tup (row.map V.int))) {a b : Nat} {x y : Int} (hx : x = a) (hy : y = b) (hab : a ≤ b) (hb : b < row.length) {Q : VK} {E : XK} (q : ∀ H', Same H H' → Q (.int (bigM row a b)) H') :
    spD F_biggest [.ref ar, .int x, .int y] H Q E := by
  subst hx hy
  refine ⟨[], H, [], [.d (.tuple (row.map PyData.int)), .d (.int a), .d (.int b)], _, _, .cons (.tup har (rps_ints H row)) (.cons (.int _) (.cons (.int _) .nil)), ⟨Ex.rfl', List.nodup_nil, rfl, fun i c d e => by simp at e⟩, biggest_eq hab hb, fun v F' H' t r => ?_⟩
  cases (show Rp F' v (.int (bigM row a b)) from r)
  exact q H' fun c o e => t.kp c o e (by simp)
theorem sp_biggest {z : Z} {H : Hp} (zo : ZOk z) (zi : ZIn z H) {a b : Nat} {x y : Int} (hx : x = a) (hy : y = b) (hab : a ≤ b) (hb : b < z.row.length) {Q : VK} {E : XK} (q : ∀ H', Same H H' → Q (.int (bigM z.row a b)) H') :
    spD F_biggest [.ref z.ar, .int x, .int y] H Q E := sp_biggest0 (zi.same _ _ zo.ar) hx hy hab hb q
theorem ix_any {K : PySem.W.Frag} {H0 H : Hp} {ac : Addr} {xs : List V} (s : Same H0 H) (h : H0 ac = some (.lst xs) ∨ H0 ac = some (.tup xs)) {t : Int} {v : V} (e : atI xs t = some v) {Q : VK} (q : Q v H) : rIx K (.ref ac) (.int t) H Q := by
  rcases h with h | h
  · exact .inl ⟨ac, xs, t, v, rfl, rfl, SqL.of (s _ _ h), e, q⟩
  · exact .inr (.inl ⟨ac, xs, t, v, rfl, rfl, SqT.of (s _ _ h), e, q⟩)
section
variable {P : Program} {w : World} {K : PySem.W.Frag} {mg : Str → Option Value} {base : Heap}
theorem scFits : FnScope ["self", "place", "holder"] ["self", "place", "holder"] (defScope sFits) := ⟨rfl, rfl, rfl, by decide +kernel, rfl, by decide +kernel, by decide +kernel⟩
def spFits (C : Addr) : Sp := fun vs H Q _ => ∃ (z : Z) (t h : Nat), ZOk z ∧ z.C = C ∧ t < z.row.length ∧ vs = [.ref z.p, .int t, .int h] ∧ ZIn z H ∧ Q (.bl (fitsM z.cl t h)) H
theorem atI_nat {α : Type} {xs : List α} {i : Nat} (h : i < xs.length) : atI xs (i : Int) = some xs[i] := by
  unfold atI ixN
  rw [if_pos (by omega), if_pos (by omega)]
  show xs[(i : Int).toNat]? = _
  rw [Int.toNat_natCast, List.getElem?_eq_getElem h]
theorem ok_fits {f C : Addr} {fd : FuncData} (F : Fun K "fits" "Counter.fits" sFits f fd) (T : CT K mg C) : FnOk P w K mg base CX0 1 f fd ["self", "place", "holder"] (spFits C) := by
  refine F.ok scFits (fun vs H Q E h => ?_) (fun cdv A outer s H vs Q E hr h => ?_)
  · obtain ⟨z, t, h, _, _, _, rfl, _⟩ := h
    rfl
  · obtain ⟨z, t, h, zo, rfl, ht, rfl, zi, q⟩ := h
    have hc : t < (z.cl.map clV).length := by rw [List.length_map, zo.ln]; exact ht
    have hat : atI (z.cl.map clV) (t : Int) = some (clV (z.cl.getD t none)) := by
      rw [atI_nat hc, List.getElem_map, List.getD_eq_getElem?_getD, List.getElem?_eq_getElem (by rw [zo.ln]; exact ht)]
      rfl
    refine ⟨_, pss_one (ps_ret (pe_or (pe_cmp (pc_isN (pe_ix ix_seq (pe_fld (pv 0) rfl) (pv 1) (by intro _ _; rfl))) rfl) (pe_one (pe_cmpR op_eq (pe_ix ix_seq (pe_fld (pv 0) rfl) (pv 1) (by intro _ _; rfl)) (pv 2) (nomark _))))), ?_⟩
    refine ⟨_, rfl, z.p, z.C, z.dx, _, _, rfl, zi.ob, T.cl, T.nC, fs_claim z, _, rfl, ix_any zi.same zo.ac hat ⟨_, rfl, ?_⟩⟩
    cases e : z.cl.getD t none with
    | none =>
      refine iteT ?_
      have : fitsM z.cl t h = true := by unfold fitsM; rw [e]
      rw [this] at q
      exact q
    | some i =>
      refine iteF ?_
      rw [e] at hat
      refine ⟨_, rfl, z.p, z.C, z.dx, _, _, rfl, zi.ob, T.cl, T.nC, fs_claim z, _, rfl, ix_any zi.same zo.ac hat ⟨_, rfl, rfl, ?_⟩⟩
      have : fitsM z.cl t h = decide (clV (some i) = V.int h) := by
        unfold fitsM; rw [e]
        show decide (i = (h : Int)) = decide (V.int i = V.int h)
        exact decide_eq_decide.mpr ⟨fun x => by rw [x], fun x => by injection x⟩
      rw [this] at q
      exact q

/-! ### held -/
theorem scHeld : FnScope ["self", "first", "last", "top"] ["self", "first", "last"] (defScope sHeld) := ⟨rfl, rfl, rfl, by decide +kernel, rfl, by decide +kernel, by decide +kernel⟩
/-- parts of fewer than n boxes -/
def spParts (C : Addr) (n : Nat) : Sp := fun vs H Q _ => ∃ (z : Z) (a k h : Nat) (x y u : Int), ZOk z ∧ z.C = C ∧ k < n ∧ a + k ≤ z.row.length ∧ h < z.row.length ∧ vs = [.ref z.p, .int x, .int y, .int u] ∧ x = a ∧ y = (a : Int) + k - 1 ∧ u = h ∧ ZIn z H ∧
  ∀ H', ZIn z H' → ZKp z H H' → Q (.int (pV z.row z.cl a k h)) H'
/-- held of at most n boxes -/
def spHeld (C : Addr) (n : Nat) : Sp := fun vs H Q _ => ∃ (z : Z) (a k : Nat) (x y : Int), ZOk z ∧ z.C = C ∧ 0 < k ∧ k ≤ n ∧ a + k ≤ z.row.length ∧ vs = [.ref z.p, .int x, .int y] ∧ x = a ∧ y = (a : Int) + k - 1 ∧ ZIn z H ∧
  ∀ H', ZIn z H' → ZKp z H H' → Q (.int (hV z.row z.cl a k)) H'
def spOuters (C : Addr) (n : Nat) : Sp := fun vs H Q _ => ∃ (z : Z) (a m : Nat) (x y : Int), ZOk z ∧ z.C = C ∧ z.row.length - a < n ∧ a ≤ z.row.length ∧ m ≤ z.row.length ∧ vs = [.ref z.p, .int x, .int y] ∧ x = a ∧ y = m ∧ ZIn z H ∧
  ∀ H', ZIn z H' → ZKp z H H' → Q (.int (oV z.row z.cl a m)) H'
theorem ok_held {f C fP : Addr} {fd fdP : FuncData} {n : Nat} (F : Fun K "held" "Counter.held" sHeld f fd) (T : CT K mg C) (B : Cal P w K mg base 1 "biggest" ["row", "first", "last"] F_biggest)
    (GP : FnOk P w K mg base CX0 (2 * n + 1) fP fdP ["self", "first", "last", "holder"] (spParts C n)) (bP : Binds K fdP ["self", "first", "last", "holder"] []) (mP : Meth K C "parts" fP) :
    FnOk P w K mg base CX0 (2 * n + 2) f fd ["self", "first", "last"] (spHeld C n) := by
  obtain ⟨fb, fdb, mgB, kpB, bB, GB⟩ := B.ex
  refine F.ok scHeld (fun vs H Q E h => ?_) (fun cdv A outer s H vs Q E hr h => ?_)
  · obtain ⟨z, a, k, x, y, _, _, _, _, _, rfl, _⟩ := h
    rfl
  · obtain ⟨z, a, k, x, y, zo, rfl, hk, hkn, hl, rfl, hx, hy, zi, q⟩ := h
    have n12 := zo.n12
    have hb := bigM_at (a := a) (b := a + k - 1) zo.nd (by omega) (by omega)
    refine ⟨_, pss_cons (ps_set (i := 3) scHeld.nd rfl (Or.inl rfl) (pe_call GB (hr.mono (by omega)) (by rfl) mgB kpB bB .nil pass0 (pa_cons (pe_fld (pv 0) rfl) (pa_cons (pv 1) (pa_cons (pv 2) pa_nil)))))
      (pss_one (ps_ret (pe_op op_mulX (pe_meth (pv 0) T.cl mP GP hr bP .nil pass0 (pa_cons (pv 1) (pa_cons (pe_op op_sub (pv 3) pe_int) (pa_cons (pv 3) pa_nil))))
        (pe_meth (pv 0) T.cl mP GP hr bP .nil pass0 (pa_cons (pe_op op_add (pv 3) pe_int) (pa_cons (pv 2) (pa_cons (pv 3) pa_nil))))))), ?_⟩
    refine ⟨_, rfl, z.p, z.C, z.dx, _, _, rfl, zi.ob, T.cl, T.nR, fs_row z, _, rfl, _, rfl, sp_biggest (E := E0) (b := a + k - 1) zo zi hx (by omega) (by omega) (by omega) fun H1 s1 => ?_⟩
    have i1 := zi.on s1
    unfold hV at q
    dsimp only at q
    generalize ht : bigM z.row a (a + k - 1) = t at hb q
    refine ⟨_, rfl, z.p, z.dx, _, rfl, i1.ob, fs_parts z, _, rfl, _, rfl, _, _, rfl, rfl, _, rfl, z, a, t - a, t, _, _, _, zo, rfl, by omega, by omega, by omega, rfl, hx, by omega, rfl, i1, fun H2 i2 k2 => ?_⟩
    refine ⟨_, rfl, z.p, z.dx, _, rfl, i2.ob, fs_parts z, _, rfl, _, _, rfl, rfl, _, rfl, _, rfl, z, t + 1, a + k - 1 - t, t, _, _, _, zo, rfl, by omega, by omega, by omega, rfl, by omega, by omega, rfl, i2, fun H3 i3 k3 => ?_⟩
    refine ⟨_, _, rfl, rfl, cMul_cap (pV_cap zo.nd (by omega) (by omega)) (pV_cap zo.nd (by omega) (by omega)) (by omega) (by omega), ?_⟩
    exact q H3 i3 ((Same.kp s1).trans (k2.trans k3))

/-! ### parts -/
theorem scParts : FnScope ["self", "first", "last", "holder", "key", "found", "end"] ["self", "first", "last", "holder"] (defScope sParts) := ⟨rfl, rfl, rfl, by decide +kernel, rfl, by decide +kernel, by decide +kernel⟩
theorem ok_parts {f C fF fH : Addr} {fd fdF fdH : FuncData} {n : Nat} (F : Fun K "parts" "Counter.parts" sParts f fd) (T : CT K mg C) (B : Cal P w K mg base 1 "biggest" ["row", "first", "last"] F_biggest) (nR : mg "range" = none)
    (GF : FnOk P w K mg base CX0 1 fF fdF ["self", "place", "holder"] (spFits C)) (bF : Binds K fdF ["self", "place", "holder"] []) (mF : Meth K C "fits" fF)
    (GH : FnOk P w K mg base CX0 (2 * n + 2) fH fdH ["self", "first", "last"] (spHeld C n)) (bH : Binds K fdH ["self", "first", "last"] []) (mH : Meth K C "held" fH)
    (GP : FnOk P w K mg base CX0 (2 * n + 1) f fd ["self", "first", "last", "holder"] (spParts C n)) (bP : Binds K fd ["self", "first", "last", "holder"] []) (mP : Meth K C "parts" f) :
    FnOk P w K mg base CX0 (2 * n + 3) f fd ["self", "first", "last", "holder"] (spParts C (n + 1)) := by
  obtain ⟨fb, fdb, mgB, kpB, bB, GB⟩ := B.ex
  refine F.ok scParts (fun vs H Q E h => ?_) (fun cdv A outer s H vs Q E hr h => ?_)
  · obtain ⟨z, a, k, h, x, y, u, _, _, _, _, _, rfl, _⟩ := h
    rfl
  · obtain ⟨z, a, k, h, x, y, u, zo, rfl, hkn, hl, hh, rfl, hx, hy, hu0, zi, q⟩ := h
    have n12 := zo.n12
    have hu := hu_of hr
    have hr1 : Room 1 _ := hr.mono (by omega)
    have hrP : Room (2 * n + 1) _ := hr.mono (by omega)
    refine ⟨_, pss_cons (ps_if (pt_cmpR op_gt (pv 1) (pv 2) (nomark _)) (pss_one (ps_ret pe_int)) pss_nil)
      (pss_cons (ps_set (i := 4) scParts.nd rfl (Or.inl rfl) (pe_tup (pa_cons (pv 1) (pa_cons (pv 2) (pa_cons (pv 3) pa_nil)))))
      (pss_cons (ps_if (pt_cmp (pc_dnotin hu (pv 4) (pe_fld (pv 0) rfl)))
        (pss_cons (ps_set (i := 5) scParts.nd rfl (Or.inl rfl) pe_int)
        (pss_cons (ps_for PassesOwn.never rfl (pi_range2 (by rfl) nR (pa_cons (pv 1) (pa_cons (pe_op op_add (pv 2) pe_int) pa_nil))) (pg_name (i := 6) scParts.nd rfl (Or.inl rfl))
          (pss_one (ps_if (pt_val (pe_meth (pv 0) T.cl mF GF hr1 bF .nil pass0 (pa_cons (pe_call GB hr1 (by rfl) mgB kpB bB .nil pass0 (pa_cons (pe_fld (pv 0) rfl) (pa_cons (pv 1) (pa_cons (pv 6) pa_nil)))) (pa_cons (pv 3) pa_nil))))
            (pss_one (ps_aug (i := 5) scParts.nd rfl (Or.inl rfl) (pe_op op_mulX (pe_meth (pv 0) T.cl mH GH hr bH .nil pass0 (pa_cons (pv 1) (pa_cons (pv 6) pa_nil)))
              (pe_meth (pv 0) T.cl mP GP hrP bP .nil pass0 (pa_cons (pe_op op_add (pv 6) pe_int) (pa_cons (pv 2) (pa_cons (pv 3) pa_nil))))) ip_add)) pss_nil)))
        (pss_one (ps_dput hu (pe_fld (pv 0) rfl) (pv 4) (pv 5) rfl)))) pss_nil)
      (pss_one (ps_ret (pe_dget hu (pe_fld (pv 0) rfl) (pv 4) (by intro _ _; rfl)))))), ?_⟩
    -- if first > last: return 1
    refine ⟨_, rfl, _, rfl, _, _, rfl, rfl, _, rfl, ?_⟩
    by_cases hk : k = 0
    · subst hk
      rw [decide_eq_true (show y < x by omega)]
      refine iteT ?_
      rw [pV_zero] at q
      exact q H zi (Same.kp (Same.refl H))
    rw [decide_eq_false (show ¬ y < x by omega)]
    refine iteF ?_
    -- key = (first, last, holder)
    refine ⟨_, rfl, _, rfl, _, rfl, by show 3 ≤ sizeLine; decide, fun b hb => ?_⟩
    obtain ⟨kvs, hdk, tk⟩ := zi.kn
    obtain ⟨kws, hdd, _⟩ := zi.ou
    have bk : z.dk ≠ b := ne_of_none hdk hb
    have bd : z.dd ≠ b := ne_of_none hdd hb
    have hkey : ([V.int x, V.int y, V.int u] : List V) = (kP a k h).map kV := by
      subst hx hy hu0
      rfl
    have zi1 : ZIn z (upd H b (.tup [V.int x, V.int y, V.int u])) := zi.on (same_upd hb _)
    have hb1 : upd H b (.tup [V.int x, V.int y, V.int u]) b = some (.tup ((kP a k h).map kV)) := by rw [upd_same, hkey]
    have k1 : ZKp z H (upd H b (.tup [V.int x, V.int y, V.int u])) := Same.kp (same_upd hb _)
    generalize upd H b (.tup [V.int x, V.int y, V.int u]) = H1 at zi1 hb1 k1
    obtain ⟨kvs1, hdk1, tk1⟩ := zi1.kn
    -- the end: return self.own_known[key]
    have fin : ∀ H2 kvs2 (e : Option V × Option V), ZIn z H2 → ZKp z H1 H2 → H2 z.dk = some (.dT kvs2) → Tb (goodP z) kvs2 → (valV kvs2 (kP a k h)).isSome = true →
        tRet (tDGet (tFld K (tVar 0) "own_known") (tVar 4)) { nx := fun _ H' => Q .non H', rt := Q } [some (.ref z.p), some (.int x), some (.int y), some (.int u), some (.ref b), e.1, e.2] H2 := by
      intro H2 kvs2 e zi2 k2 hd2 t2 hs
      obtain ⟨v, hv⟩ := Option.isSome_iff_exists.mp hs
      have hb2 := k2 _ _ hb1 (Ne.symm bk) (Ne.symm bd)
      refine ⟨_, rfl, z.p, z.C, z.dx, _, _, rfl, zi2.ob, T.cl, T.nK, fs_known z, _, rfl, z.dk, v, rfl, (by rw [← hv]; exact DGet.t hd2 hb2), ?_⟩
      obtain ⟨a', k', h', g0, g1, g2, g3, rfl⟩ := t2.get hv
      have ea : a = a' := by
        have := (List.cons.inj g3).1
        injection this with this
        omega
      have eh : h = h' := by
        have := (List.cons.inj (List.cons.inj (List.cons.inj g3).2).2).1
        injection this with this
        omega
      have ek : k = k' := by
        have := (List.cons.inj (List.cons.inj g3).2).1
        injection this with this
        omega
      subst ea eh ek
      exact q H2 zi2 (k1.trans k2)
    -- if key not in self.own_known
    refine ⟨_, rfl, _, rfl, z.p, z.C, z.dx, _, _, rfl, zi1.ob, T.cl, T.nK, fs_known z, z.dk, _, rfl, DGet.t hdk1 hb1, _, rfl, ?_⟩
    cases hv : valV kvs1 (kP a k h) with
    | some v =>
      refine iteF ?_
      exact fin H1 kvs1 (none, none) zi1 (Same.kp (Same.refl H1)) hdk1 tk1 (by rw [hv]; rfl)
    | none =>
      refine iteT ?_
      -- found = 0; for end in range(first, last + 1)
      refine ⟨_, rfl, _, rfl, _, _, rfl, rfl, x, y + 1, rfl, by omega, ?_⟩
      have hn : (y + 1 - x).toNat = k := by omega
      rw [hn]
      refine for_range (fun i σ H2 => ∃ e, σ = [some (.ref z.p), some (.int x), some (.int y), some (.int u), some (.ref b), some (.int (((List.range i).map fun j => tV z.row z.cl a k h j).sum)), e] ∧ ZIn z H2 ∧ ZKp z H1 H2)
        ⟨none, rfl, zi1, Same.kp (Same.refl H1)⟩ ?_ ?_
      · rintro i σ H2 hi ⟨e, rfl, zi2, k2⟩
        have hbg := bigM_at (a := a) (b := a + i) zo.nd (by omega) (by omega)
        -- if self.fits(biggest(self.own_row, first, end), holder)
        refine ⟨_, rfl, z.p, z.dx, _, rfl, zi2.ob, fs_fits z, _, rfl, z.p, z.C, z.dx, _, _, rfl, zi2.ob, T.cl, T.nR, fs_row z, _, rfl, _, rfl, sp_biggest (E := E0) (b := a + i) zo zi2 hx (by omega) (by omega) (by omega) fun H3 s3 => ?_⟩
        have zi3 := zi2.on s3
        have ht : tV z.row z.cl a k h i = if fitsM z.cl (bigM z.row a (a + i)) h then hV z.row z.cl a (i + 1) * pV z.row z.cl (a + i + 1) (k - 1 - i) h else 0 := rfl
        generalize bigM z.row a (a + i) = t at hbg ht
        refine ⟨_, rfl, z, t, h, zo, rfl, by omega, by rw [hu0]; rfl, zi3, _, rfl, ?_⟩
        have hsum : ((List.range (i + 1)).map fun j => tV z.row z.cl a k h j).sum = ((List.range i).map fun j => tV z.row z.cl a k h j).sum + tV z.row z.cl a k h i := by
          rw [List.range_succ, List.map_append, List.sum_append]
          simp
        cases hf : fitsM z.cl t h with
        | false =>
          refine iteF ?_
          rw [hf] at ht
          have ht : tV z.row z.cl a k h i = 0 := ht
          refine ⟨some (.int (x + (i : Int))), ?_, zi3, k2.trans (Same.kp s3)⟩
          rw [hsum, ht, Int.add_zero]
          rfl
        | true =>
          refine iteT ?_
          rw [hf] at ht
          have ht : tV z.row z.cl a k h i = hV z.row z.cl a (i + 1) * pV z.row z.cl (a + i + 1) (k - 1 - i) h := ht
          refine ⟨_, rfl, _, rfl, z.p, z.dx, _, rfl, zi3.ob, fs_held z, _, rfl, _, rfl, z, a, i + 1, _, _, zo, rfl, by omega, by omega, by omega, rfl, hx, by omega, zi3, fun H4 zi4 k4 => ?_⟩
          refine ⟨_, rfl, z.p, z.dx, _, rfl, zi4.ob, fs_parts z, _, rfl, _, _, rfl, rfl, _, rfl, _, rfl, z, a + i + 1, k - 1 - i, h, _, _, _, zo, rfl, by omega, by omega, by omega, rfl, by omega, by omega, hu0, zi4, fun H5 zi5 k5 => ?_⟩
          refine ⟨_, _, rfl, rfl, cMul_cap (hV_cap zo.nd (by omega) (by omega) (by omega)) (pV_cap zo.nd (by omega) (by omega)) (by omega) (by omega), _, _, rfl, rfl, some (.int (x + (i : Int))), ?_, zi5, ((k2.trans (Same.kp s3)).trans k4).trans k5⟩
          rw [hsum, ht]
          rfl
      · rintro σ H2 ⟨e, rfl, zi2, k2⟩
        -- self.own_known[key] = found
        obtain ⟨kvs2, hdk2, tk2⟩ := zi2.kn
        obtain ⟨kws2, hdd2, to2⟩ := zi2.ou
        have hb2 := k2 _ _ hb1 (Ne.symm bk) (Ne.symm bd)
        rw [← pV_pos zo.nd (by omega) hl]
        refine ⟨_, rfl, _, rfl, z.p, z.C, z.dx, _, _, rfl, zi2.ob, T.cl, T.nK, fs_known z, _, rfl, z.dk, _, rfl, DPut.t hdk2 hb2 (lenP zo tk2), ?_⟩
        have g : goodP z (kP a k h) (.int (pV z.row z.cl a k h)) := ⟨a, k, h, by omega, hl, hh, rfl, rfl⟩
        have hs : Same z.H0 (upd H2 z.dk (.dT (putK kvs2 (kP a k h) (.int (pV z.row z.cl a k h))))) := fun c o e => by
          rw [upd_ne (ne_of_none e zo.fk)]
          exact zi2.same _ _ e
        refine fin _ _ (_, e) ⟨hs, by rw [upd_ne zo.pk]; exact zi2.ob, ⟨_, upd_same, tk2.put g⟩, ⟨kws2, by rw [upd_ne (Ne.symm zo.kd)]; exact hdd2, to2⟩⟩ (fun c o e h1 h2 => by rw [upd_ne h1]; exact k2 c o e h1 h2) upd_same (tk2.put g) ?_
        rw [valV_put, if_pos rfl]
        rfl

/-! ### outers -/
theorem scOuters : FnScope ["self", "first", "many", "count", "key", "found", "end"] ["self", "first", "many"] (defScope sOuters) := ⟨rfl, rfl, rfl, by decide +kernel, rfl, by decide +kernel, by decide +kernel⟩
theorem ok_outers {f C fH : Addr} {fd fdH : FuncData} {n : Nat} (F : Fun K "outers" "Counter.outers" sOuters f fd) (T : CT K mg C) (nR : mg "range" = none) (nL : mg "len" = none)
    (GH : FnOk P w K mg base CX0 26 fH fdH ["self", "first", "last"] (spHeld C 12)) (bH : Binds K fdH ["self", "first", "last"] []) (mH : Meth K C "held" fH)
    (GO : FnOk P w K mg base CX0 (26 + n) f fd ["self", "first", "many"] (spOuters C n)) (bO : Binds K fd ["self", "first", "many"] []) (mO : Meth K C "outers" f) :
    FnOk P w K mg base CX0 (26 + n + 1) f fd ["self", "first", "many"] (spOuters C (n + 1)) := by
  refine F.ok scOuters (fun vs H Q E h => ?_) (fun cdv A outer s H vs Q E hr h => ?_)
  · obtain ⟨z, a, m, x, y, _, _, _, _, _, rfl, _⟩ := h
    rfl
  · obtain ⟨z, a, m, x, y, zo, rfl, hn, hl, hm, rfl, hx, hy, zi, q⟩ := h
    have n12 := zo.n12
    have hu := hu_of hr
    have hrH : Room 26 _ := hr.mono (by omega)
    refine ⟨_, pss_cons (ps_set (i := 3) scOuters.nd rfl (Or.inl rfl) (pe_callB call_len (by rfl) nL PySem.boot_len (pa_cons (pe_fld (pv 0) rfl) pa_nil)))
      (pss_cons (ps_if (PW.pt (pw_or (pt_cmpR op_eq (pv 1) (pv 3) (nomark _)) (pw_or1 (pt_cmpR op_eq (pv 2) pe_int (nomark _)))))
        (pss_one (ps_ret (pe_ifExp (PW.pt (pw_and (pt_cmpR op_eq (pv 1) (pv 3) (nomark _)) (pw_and1 (pt_cmpR op_eq (pv 2) pe_int (nomark _))))) pe_int pe_int))) pss_nil)
      (pss_cons (ps_set (i := 4) scOuters.nd rfl (Or.inl rfl) (pe_tup (pa_cons (pv 1) (pa_cons (pv 2) pa_nil))))
      (pss_cons (ps_if (pt_cmp (pc_dnotin hu (pv 4) (pe_fld (pv 0) rfl)))
        (pss_cons (ps_set (i := 5) scOuters.nd rfl (Or.inl rfl) pe_int)
        (pss_cons (ps_for PassesOwn.never rfl (pi_range2 (by rfl) nR (pa_cons (pv 1) (pa_cons (pv 3) pa_nil))) (pg_name (i := 6) scOuters.nd rfl (Or.inl rfl))
          (pss_one (ps_aug (i := 5) scOuters.nd rfl (Or.inl rfl) (pe_op op_mulX (pe_meth (pv 0) T.cl mH GH hrH bH .nil pass0 (pa_cons (pv 1) (pa_cons (pv 6) pa_nil)))
              (pe_meth (pv 0) T.cl mO GO hr bO .nil pass0 (pa_cons (pe_op op_add (pv 6) pe_int) (pa_cons (pe_op op_sub (pv 2) pe_int) pa_nil)))) ip_add)))
        (pss_one (ps_dput hu (pe_fld (pv 0) rfl) (pv 4) (pv 5) rfl)))) pss_nil)
      (pss_one (ps_ret (pe_dget hu (pe_fld (pv 0) rfl) (pv 4) (by intro _ _; rfl))))))), ?_⟩
    have d1 : decide (V.int x = V.int (z.row.length : Int)) = decide (a = z.row.length) := decide_eq_decide.mpr ⟨fun e => by injection e with e; omega, fun e => by rw [hx, e]⟩
    have d2 : decide (V.int y = V.int 0) = decide (m = 0) := decide_eq_decide.mpr ⟨fun e => by injection e with e; omega, fun e => by rw [hy, e]; rfl⟩
    -- count = len(self.own_row)
    refine ⟨_, rfl, z.p, z.C, z.dx, _, _, rfl, zi.ob, T.cl, T.nR, fs_row z, _, _, rfl, .inr ⟨_, SqT.of (zi.same _ _ zo.ar), by rw [List.length_map]⟩, ?_⟩
    -- if first == count or many == 0
    refine ⟨_, rfl, _, rfl, rfl, _, rfl, ?_⟩
    rw [d1]
    by_cases h1 : a = z.row.length
    · rw [decide_eq_true h1]
      refine iteT (iteT ⟨_, rfl, _, rfl, rfl, _, rfl, ?_⟩)
      rw [d1, decide_eq_true h1]
      refine iteT ⟨_, rfl, rfl, _, rfl, ?_⟩
      rw [d2]
      rw [oV_end (.inl h1)] at q
      by_cases h2 : m = 0
      · rw [decide_eq_true h2]
        rw [if_pos ⟨h1, h2⟩] at q
        exact iteT (q H zi (Same.kp (Same.refl H)))
      · rw [decide_eq_false h2]
        rw [if_neg (fun e => h2 e.2)] at q
        exact iteF (q H zi (Same.kp (Same.refl H)))
    rw [decide_eq_false h1]
    refine iteF ⟨_, rfl, rfl, _, rfl, ?_⟩
    rw [d2]
    by_cases h2 : m = 0
    · rw [decide_eq_true h2]
      refine iteT ⟨_, rfl, _, rfl, rfl, _, rfl, ?_⟩
      rw [d1, decide_eq_false h1]
      rw [oV_end (.inr h2), if_neg (fun e => h1 e.1)] at q
      exact iteF (iteF (q H zi (Same.kp (Same.refl H))))
    rw [decide_eq_false h2]
    refine iteF ?_
    -- key = (first, many)
    refine ⟨_, rfl, _, rfl, by show 2 ≤ sizeLine; decide, fun b hb => ?_⟩
    obtain ⟨kvs, hdk, _⟩ := zi.kn
    obtain ⟨kws, hdd, tk⟩ := zi.ou
    have bk : z.dk ≠ b := ne_of_none hdk hb
    have bd : z.dd ≠ b := ne_of_none hdd hb
    have hkey : ([V.int x, V.int y] : List V) = (kO a m).map kV := by
      subst hx hy
      rfl
    have zi1 : ZIn z (upd H b (.tup [V.int x, V.int y])) := zi.on (same_upd hb _)
    have hb1 : upd H b (.tup [V.int x, V.int y]) b = some (.tup ((kO a m).map kV)) := by rw [upd_same, hkey]
    have k1 : ZKp z H (upd H b (.tup [V.int x, V.int y])) := Same.kp (same_upd hb _)
    generalize upd H b (.tup [V.int x, V.int y]) = H1 at zi1 hb1 k1
    obtain ⟨kws1, hdd1, to1⟩ := zi1.ou
    -- the end: return self.own_outers[key]
    have fin : ∀ H2 kvs2 (e : Option V × Option V), ZIn z H2 → ZKp z H1 H2 → H2 z.dd = some (.dT kvs2) → Tb (goodO z) kvs2 → (valV kvs2 (kO a m)).isSome = true →
        tRet (tDGet (tFld K (tVar 0) "own_outers") (tVar 4)) { nx := fun _ H' => Q .non H', rt := Q } [some (.ref z.p), some (.int x), some (.int y), some (.int (z.row.length : Int)), some (.ref b), e.1, e.2] H2 := by
      intro H2 kvs2 e zi2 k2 hd2 t2 hs
      obtain ⟨v, hv⟩ := Option.isSome_iff_exists.mp hs
      have hb2 := k2 _ _ hb1 (Ne.symm bk) (Ne.symm bd)
      refine ⟨_, rfl, z.p, z.C, z.dx, _, _, rfl, zi2.ob, T.cl, T.nO, fs_out z, _, rfl, z.dd, v, rfl, (by rw [← hv]; exact DGet.t hd2 hb2), ?_⟩
      obtain ⟨a', m', g1, g2, g3, rfl⟩ := t2.get hv
      have ea : a = a' := by
        have := (List.cons.inj g3).1
        injection this with this
        omega
      have em : m = m' := by
        have := (List.cons.inj (List.cons.inj g3).2).1
        injection this with this
        omega
      subst ea em
      exact q H2 zi2 (k1.trans k2)
    -- if key not in self.own_outers
    refine ⟨_, rfl, _, rfl, z.p, z.C, z.dx, _, _, rfl, zi1.ob, T.cl, T.nO, fs_out z, z.dd, _, rfl, DGet.t hdd1 hb1, _, rfl, ?_⟩
    cases hv : valV kws1 (kO a m) with
    | some v =>
      refine iteF ?_
      exact fin H1 kws1 (none, none) zi1 (Same.kp (Same.refl H1)) hdd1 to1 (by rw [hv]; rfl)
    | none =>
      refine iteT ?_
      -- found = 0; for end in range(first, count)
      refine ⟨_, rfl, _, rfl, x, (z.row.length : Int), rfl, by omega, ?_⟩
      have hn : ((z.row.length : Int) - x).toNat = z.row.length - a := by omega
      rw [hn]
      refine for_range (fun i σ H2 => ∃ e, σ = [some (.ref z.p), some (.int x), some (.int y), some (.int (z.row.length : Int)), some (.ref b), some (.int (((List.range i).map fun j => hV z.row z.cl a (j + 1) * oV z.row z.cl (a + j + 1) (m - 1)).sum)), e] ∧ ZIn z H2 ∧ ZKp z H1 H2)
        ⟨none, rfl, zi1, Same.kp (Same.refl H1)⟩ ?_ ?_
      · rintro i σ H2 hi ⟨e, rfl, zi2, k2⟩
        have hsum : ((List.range (i + 1)).map fun j => hV z.row z.cl a (j + 1) * oV z.row z.cl (a + j + 1) (m - 1)).sum = ((List.range i).map fun j => hV z.row z.cl a (j + 1) * oV z.row z.cl (a + j + 1) (m - 1)).sum + hV z.row z.cl a (i + 1) * oV z.row z.cl (a + i + 1) (m - 1) := by
          rw [List.range_succ, List.map_append, List.sum_append]
          simp
        refine ⟨_, rfl, _, rfl, z.p, z.dx, _, rfl, zi2.ob, fs_held z, _, rfl, _, rfl, z, a, i + 1, _, _, zo, rfl, by omega, by omega, by omega, rfl, hx, by omega, zi2, fun H4 zi4 k4 => ?_⟩
        refine ⟨_, rfl, z.p, z.dx, _, rfl, zi4.ob, fs_outers z, _, rfl, _, _, rfl, rfl, _, rfl, _, _, rfl, rfl, z, a + i + 1, m - 1, _, _, zo, rfl, by omega, by omega, by omega, rfl, by omega, by omega, zi4, fun H5 zi5 k5 => ?_⟩
        refine ⟨_, _, rfl, rfl, cMul_cap (hV_cap zo.nd (by omega) (by omega) (by omega)) (oV_cap zo.nd n12 (by omega)) (by omega) (by omega), _, _, rfl, rfl, some (.int (x + (i : Int))), ?_, zi5, (k2.trans k4).trans k5⟩
        rw [hsum]
        rfl
      · rintro σ H2 ⟨e, rfl, zi2, k2⟩
        obtain ⟨kvs2, hdk2, tk2⟩ := zi2.kn
        obtain ⟨kws2, hdd2, to2⟩ := zi2.ou
        have hb2 := k2 _ _ hb1 (Ne.symm bk) (Ne.symm bd)
        rw [← oV_pos (by omega) hl]
        refine ⟨_, rfl, _, rfl, z.p, z.C, z.dx, _, _, rfl, zi2.ob, T.cl, T.nO, fs_out z, _, rfl, z.dd, _, rfl, DPut.t hdd2 hb2 (lenO zo to2), ?_⟩
        have g : goodO z (kO a m) (.int (oV z.row z.cl a m)) := ⟨a, m, by omega, hm, rfl, rfl⟩
        have hs : Same z.H0 (upd H2 z.dd (.dT (putK kws2 (kO a m) (.int (oV z.row z.cl a m))))) := fun c o e => by
          rw [upd_ne (ne_of_none e zo.fo)]
          exact zi2.same _ _ e
        refine fin _ _ (_, e) ⟨hs, by rw [upd_ne zo.pd]; exact zi2.ob, ⟨kvs2, by rw [upd_ne zo.kd]; exact hdk2, tk2⟩, ⟨_, upd_same, to2.put g⟩⟩ (fun c o e h1 h2 => by rw [upd_ne h2]; exact k2 c o e h1 h2) upd_same (to2.put g) ?_
        rw [valV_put, if_pos rfl]
        rfl
/-! ### __init__ -/
theorem scInit : FnScope ["self", "row", "claim"] ["self", "row", "claim"] (defScope sInit) := ⟨rfl, rfl, rfl, by decide +kernel, rfl, by decide +kernel, by decide +kernel⟩
def spInit (C : Addr) : Sp := fun vs H Q _ => ∃ (p dx ar ac : Addr) (H0 : Hp) (row : List Int) (cl : List (Option Int)), vs = [.ref p, .ref ar, .ref ac] ∧ Same H0 H ∧ H0 p = none ∧ H p = some (.ins C dx []) ∧
  H0 ar = some (.tup (row.map V.int)) ∧ (H0 ac = some (.lst (cl.map clV)) ∨ H0 ac = some (.tup (cl.map clV))) ∧ okRow row = true ∧ cl.length = row.length ∧
  ∀ dk dd H', ZOk ⟨C, p, dx, ar, ac, dk, dd, H0, row, cl⟩ → ZIn ⟨C, p, dx, ar, ac, dk, dd, H0, row, cl⟩ H' → Same H0 H' → Q .non H'
theorem ok_init {f C : Addr} {fd : FuncData} (F : Fun K "__init__" "Counter.__init__" sInit f fd) (T : CT K mg C) : FnOk P w K mg base CX0 1 f fd ["self", "row", "claim"] (spInit C) := by
  refine F.ok scInit (fun vs H Q E h => ?_) (fun cdv A outer s H vs Q E hr h => ?_)
  · obtain ⟨p, dx, ar, ac, H0, row, cl, rfl, _⟩ := h
    rfl
  · obtain ⟨p, dx, ar, ac, H0, row, cl, rfl, sm, hp0, hp, har, hac, hok, hln, q⟩ := h
    refine ⟨_, pss_cons (ps_fld (pv 0) (pv 1) rfl) (pss_cons (ps_fld (pv 0) (pv 2) rfl) (pss_cons (ps_fld (pv 0) pe_dnewT rfl) (pss_one (ps_fld (pv 0) pe_dnewT rfl)))), ?_⟩
    have l1 := len_putF "own_row" (.ref ar) []
    have l2 := len_putF "own_claim" (.ref ac) (putF "own_row" (.ref ar) [])
    refine ⟨_, rfl, _, rfl, p, C, dx, _, rfl, hp, T.cl, T.nR, by decide, _, rfl, _, rfl, p, C, dx, _, rfl, upd_same, T.cl, T.nC, by simp at l1 ⊢; omega, ?_⟩
    intro dk hdk
    have npk : p ≠ dk := ne_of_none upd_same hdk
    refine ⟨_, rfl, p, C, dx, _, rfl, (by rw [upd_ne npk]; exact upd_same), T.cl, T.nK, by simp at l1 l2 ⊢; omega, ?_⟩
    intro dd hdd
    have npd : p ≠ dd := ne_of_none upd_same hdd
    have nkd : dk ≠ dd := by
      refine ne_of_none (o := .dT []) ?_ hdd
      rw [upd_ne (Ne.symm npk), upd_same]
    have l3 := len_putF "own_known" (.ref dk) (putF "own_claim" (.ref ac) (putF "own_row" (.ref ar) []))
    refine ⟨_, rfl, p, C, dx, _, rfl, (by rw [upd_ne npd]; exact upd_same), T.cl, T.nO, by simp at l1 l2 l3 ⊢; omega, ?_⟩
    have hH0 : ∀ {b : Addr}, b ≠ p → H b = none → H0 b = none := fun _ h => by
      cases e : H0 _ with
      | none => rfl
      | some o => rw [sm _ _ e] at h; cases h
    have fk : H0 dk = none := hH0 (Ne.symm npk) (by rw [upd_ne (Ne.symm npk), upd_ne (Ne.symm npk)] at hdk; exact hdk)
    have fo : H0 dd = none := hH0 (Ne.symm npd) (by rw [upd_ne (Ne.symm npd), upd_ne (Ne.symm nkd), upd_ne (Ne.symm npd), upd_ne (Ne.symm npd)] at hdd; exact hdd)
    unfold okRow at hok
    simp only [Bool.and_eq_true, decide_eq_true_eq] at hok
    refine (fun (sm' : Same H0 _) => q dk dd _ ⟨har, hac, npk, npd, nkd, fk, fo, hok.1.1, hok.1.2, hok.2, hln⟩ ⟨sm', upd_same, ⟨[], ?_, ⟨List.nodup_nil, fun e h => by cases h⟩⟩, ⟨[], ?_, ⟨List.nodup_nil, fun e h => by cases h⟩⟩⟩ sm') ?_
    rotate_left 2
    · intro b o e
      rw [upd_ne (ne_of_none e hp0), upd_ne (ne_of_none e fo), upd_ne (ne_of_none e hp0), upd_ne (ne_of_none e fk), upd_ne (ne_of_none e hp0), upd_ne (ne_of_none e hp0)]
      exact sm b o e
    · show upd _ _ _ _ = _
      rw [upd_ne (Ne.symm npk), upd_ne nkd, upd_ne (Ne.symm npk), upd_same]
    · show upd _ _ _ _ = _
      rw [upd_ne (Ne.symm npd), upd_same]

/-! ### the recursion closed -/
theorem ok_never {f : Addr} {fd : FuncData} {ps : List Str} {k : Nat} {sp : Sp} (h : ∀ vs H Q E, ¬ sp vs H Q E) : FnOk P w K mg base CX0 k f fd ps sp :=
  ⟨fun vs H Q E q => absurd q (h vs H Q E), fun A outer s H args us vs Q E hr e0 hb hv q => absurd q (h vs H Q E)⟩
structure Cnt (P : Program) (w : World) (K : PySem.W.Frag) (mg : Str → Option Value) (base : Heap) (C fI fF fH fP fO : Addr) (fdI fdF fdH fdP fdO : FuncData) : Prop where
  T : CT K mg C
  B : Cal P w K mg base 1 "biggest" ["row", "first", "last"] F_biggest
  nR : mg "range" = none
  nL : mg "len" = none
  I : Fun K "__init__" "Counter.__init__" sInit fI fdI
  bI : Binds K fdI ["self", "row", "claim"] []
  M : Mk K C fI
  F : Fun K "fits" "Counter.fits" sFits fF fdF
  bF : Binds K fdF ["self", "place", "holder"] []
  mF : Meth K C "fits" fF
  H : Fun K "held" "Counter.held" sHeld fH fdH
  bH : Binds K fdH ["self", "first", "last"] []
  mH : Meth K C "held" fH
  P : Fun K "parts" "Counter.parts" sParts fP fdP
  bP : Binds K fdP ["self", "first", "last", "holder"] []
  mP : Meth K C "parts" fP
  O : Fun K "outers" "Counter.outers" sOuters fO fdO
  bO : Binds K fdO ["self", "first", "many"] []
  mO : Meth K C "outers" fO
section
variable {C fI fF fH fP fO : Addr} {fdI fdF fdH fdP fdO : FuncData}
theorem all_parts (c : Cnt P w K mg base C fI fF fH fP fO fdI fdF fdH fdP fdO) : ∀ n, FnOk P w K mg base CX0 (2 * n + 1) fP fdP ["self", "first", "last", "holder"] (spParts C n)
  | 0 => ok_never fun vs H Q E ⟨z, a, k, h, x, y, u, _, _, hk, _⟩ => absurd hk (Nat.not_lt_zero _)
  | n + 1 => ok_parts c.P c.T c.B c.nR (ok_fits c.F c.T) c.bF c.mF (ok_held c.H c.T c.B (all_parts c n) c.bP c.mP) c.bH c.mH (all_parts c n) c.bP c.mP
theorem all_held (c : Cnt P w K mg base C fI fF fH fP fO fdI fdF fdH fdP fdO) (n : Nat) : FnOk P w K mg base CX0 (2 * n + 2) fH fdH ["self", "first", "last"] (spHeld C n) := ok_held c.H c.T c.B (all_parts c n) c.bP c.mP
theorem all_outers (c : Cnt P w K mg base C fI fF fH fP fO fdI fdF fdH fdP fdO) : ∀ n, FnOk P w K mg base CX0 (26 + n) fO fdO ["self", "first", "many"] (spOuters C n)
  | 0 => ok_never fun vs H Q E ⟨z, a, m, x, y, _, _, hk, _⟩ => absurd hk (Nat.not_lt_zero _)
  | n + 1 => ok_outers c.O c.T c.nR c.nL (all_held c 12) c.bH c.mH (all_outers c n) c.bO c.mO
theorem sr_same {m : List Addr} {F H H' : Hp} {S : Sto} (s : SR m F H S) (h : Same H H') : Stp m F H m F H' S := by
  refine ⟨⟨Ex.rfl', fun b o e => .inl e⟩, fun b o e _ => h b o e, ⟨s.ex.tr h, s.nd, s.len, fun i a c h1 h2 => ?_⟩, ⟨[], by simp, fun a ha => by cases ha⟩⟩
  have := s.cel i a c h1 h2
  cases c with
  | on xs =>
    obtain ⟨g1, vs, g2, g3⟩ := this
    exact ⟨g1, vs, h _ _ g2, g3⟩
  | off xs => exact this
theorem clV_of {H : Hp} : ∀ {cs : List D} {cl : List (Option Int)} {vs : List V}, Rps H vs cs → claimD cs = some cl → vs = cl.map clV
  | [], _, _, h, e => by cases h; cases e; rfl
  | d :: cs, cl, vs, h, e => by
    cases h with
    | cons h1 h2 =>
      cases h1 <;> simp only [claimD, reduceCtorEq] at e
      · obtain ⟨r, e1, rfl⟩ := Option.map_eq_some_iff.mp e
        rw [clV_of h2 e1]
        rfl
      · obtain ⟨r, e1, rfl⟩ := Option.map_eq_some_iff.mp e
        rw [clV_of h2 e1]
        rfl
theorem scCount : FnScope ["row", "claim", "top"] ["row", "claim"] (defScope s_count_with) := ⟨rfl, rfl, rfl, by decide +kernel, rfl, by decide +kernel, by decide +kernel⟩
theorem cal_count_with {f : Addr} {fd : FuncData} (Fn : Fun K "count_with" "count_with" s_count_with f fd) (hm : mg "count_with" = some (.ref f)) (hb : Binds K fd ["row", "claim"] []) (c : Cnt P w K mg base C fI fF fH fP fO fdI fdF fdH fdP fdO) :
    Cal P w K mg base 40 "count_with" ["row", "claim"] F_count_with := by
  obtain ⟨fb, fdb, mgB, kpB, bB, GB⟩ := c.B.ex
  have T := c.T
  refine ⟨f, fd, hm, Fn.kp, hb, Fn.ok scCount (fun vs H Q E h => ?_) (fun cdv A outer s H vs Q E hr h => ?_)⟩
  · obtain ⟨m, F, S, ws, r, S', h1, h2, h3, h4⟩ := h
    unfold F_count_with at h3
    split at h3
    · rw [h1.length]; rfl
    · cases h3
  · obtain ⟨m, F, S, ws, r, S', h1, h2, h3, h4⟩ := h
    unfold F_count_with at h3
    split at h3
    case h_2 => cases h3
    rename_i rs u
    obtain ⟨row, e1, h3⟩ := Option.bind_eq_some_iff.mp h3
    obtain ⟨d, e2, h3⟩ := Option.bind_eq_some_iff.mp h3
    obtain ⟨cs, e3, h3⟩ := Option.bind_eq_some_iff.mp h3
    obtain ⟨cl, e4, h3⟩ := Option.bind_eq_some_iff.mp h3
    split at h3
    case isFalse => cases h3
    rename_i hok
    cases h3
    rw [Bool.and_eq_true, decide_eq_true_eq] at hok
    obtain ⟨hok, hln⟩ := hok
    obtain ⟨v1, v2, rfl, r1, r2⟩ := h1.two
    cases (show Rp F v1 (.tuple rs) from r1)
    rename_i ar xs har hxs
    have hxs := intsD_of hxs e1
    subst hxs
    have har := h2.ex _ _ har
    have hac : ∃ ac, v2 = .ref ac ∧ (H ac = some (.lst (cl.map clV)) ∨ H ac = some (.tup (cl.map clV))) := by
      have rr := rd_rp h2 r2 e2
      cases d <;> simp only [itemsD, reduceCtorEq, Option.some.injEq] at e3
      · subst e3
        cases rr with
        | lst ha hs => exact ⟨_, rfl, .inl (by rw [← clV_of hs e4]; exact ha)⟩
      · subst e3
        cases rr with
        | tup ha hs => exact ⟨_, rfl, .inr (by rw [← clV_of hs e4]; exact ha)⟩
    obtain ⟨ac, rfl, hac⟩ := hac
    have hokr := hok
    unfold okRow at hokr
    simp only [Bool.and_eq_true, decide_eq_true_eq] at hokr
    have h0 : 0 < row.length := List.length_pos_iff.mpr hokr.1.1
    have hbg := bigM_at (a := 0) (b := row.length - 1) hokr.1.2 (by omega) (by omega)
    refine ⟨_, pss_cons (ps_set (i := 2) scCount.nd rfl (Or.inl rfl) (pe_call GB (hr.mono (by omega)) (by rfl) mgB kpB bB .nil pass0 (pa_cons (pv 0) (pa_cons pe_int (pa_cons (pe_op op_sub (pe_callB call_len (by rfl) c.nL PySem.boot_len (pa_cons (pv 0) pa_nil)) pe_int) pa_nil)))))
      (pss_one (ps_ret (pe_ifExp (pt_cmp (pc_isN (pe_ix ix_seq (pv 1) (pv 2) (by intro _ _; rfl))) rfl)
        (pe_meth (pe_make c.M (ok_init c.I T) (hr.mono (by omega)) (by rfl) T.mgC c.bI .nil pass0 (pa_cons (pv 0) (pa_cons (pv 1) pa_nil))) T.cl c.mH (all_held c 12) (hr.mono (by omega)) c.bH .nil pass0
          (pa_cons pe_int (pa_cons (pe_op op_sub (pe_callB call_len (by rfl) c.nL PySem.boot_len (pa_cons (pv 0) pa_nil)) pe_int) pa_nil))) pe_int))), ?_⟩
    refine ⟨_, rfl, _, rfl, _, _, rfl, .inr ⟨_, SqT.of har, by rw [List.length_map]⟩, _, _, rfl, rfl, sp_biggest0 (E := E0) (a := 0) (b := row.length - 1) har rfl (by omega) (by omega) (by omega) fun H1 s1 => ?_⟩
    have hat : atI (cl.map clV) (bigM row 0 (row.length - 1) : Int) = some (clV (cl.getD (bigM row 0 (row.length - 1)) none)) := by
      have hc : bigM row 0 (row.length - 1) < cl.length := by omega
      rw [atI_nat (by rw [List.length_map]; exact hc), List.getElem_map, List.getD_eq_getElem?_getD, List.getElem?_eq_getElem hc]
      rfl
    refine ⟨_, rfl, _, rfl, ix_any s1 hac hat ⟨_, rfl, ?_⟩⟩
    have done : ∀ H' x, Same H H' → x = countWithM row cl → Q (.int x) H' := fun H' x sm e => by
      subst e
      exact h4 _ F H' (sr_same h2 sm) (.int _)
    have hdef : countWithM row cl = if cl.getD (bigM row 0 (row.length - 1)) none = none then hV row cl 0 row.length else 0 := rfl
    cases e : cl.getD (bigM row 0 (row.length - 1)) none with
    | some i =>
      refine iteF (done H1 0 s1 ?_)
      rw [hdef, e]
      rfl
    | none =>
      refine iteT ?_
      rw [e, if_pos rfl] at hdef
      refine ⟨_, rfl, _, rfl, fun p dx hp hdx hne => ⟨p, dx, ar, ac, H1, row, cl, rfl, ?_, hp, upd_same, s1 _ _ har, ?_, hok, hln, fun dk dd H2 zo zi sm => ⟨rfl, p, dx, _, rfl, zi.ob, fs_held _, ?_⟩⟩⟩
      · intro b o e
        rw [upd_ne (ne_of_none e hp), upd_ne (ne_of_none e hdx)]
        exact e
      · rcases hac with h | h
        · exact .inl (s1 _ _ h)
        · exact .inr (s1 _ _ h)
      · refine ⟨_, rfl, _, _, rfl, .inr ⟨_, SqT.of (sm _ _ (s1 _ _ har)), by rw [List.length_map]⟩, _, _, rfl, rfl, _, 0, row.length, _, _, zo, rfl, h0, hokr.2, by show 0 + row.length ≤ row.length; omega, rfl, rfl, by omega, zi, fun H3 zi3 k3 => ?_⟩
        exact done H3 _ (s1.trans zi3.same) hdef.symm
theorem scCountO : FnScope ["row", "many"] ["row", "many"] (defScope s_count_outer) := ⟨rfl, rfl, rfl, by decide +kernel, rfl, by decide +kernel, by decide +kernel⟩
theorem rep_none (n : Nat) : (List.replicate n ([V.non] : List V)).flatten = (List.replicate n (none : Option Int)).map clV := by
  induction n with
  | zero => rfl
  | succ n ih =>
    rw [List.replicate_succ, List.flatten_cons, ih, List.replicate_succ, List.map_cons]
    rfl
theorem cal_count_outer {f : Addr} {fd : FuncData} (Fn : Fun K "count_outer" "count_outer" s_count_outer f fd) (hm : mg "count_outer" = some (.ref f)) (hb : Binds K fd ["row", "many"] []) (c : Cnt P w K mg base C fI fF fH fP fO fdI fdF fdH fdP fdO) :
    Cal P w K mg base 40 "count_outer" ["row", "many"] F_count_outer := by
  have T := c.T
  refine ⟨f, fd, hm, Fn.kp, hb, Fn.ok scCountO (fun vs H Q E h => ?_) (fun cdv A outer s H vs Q E hr h => ?_)⟩
  · obtain ⟨m, F, S, ws, r, S', h1, h2, h3, h4⟩ := h
    unfold F_count_outer at h3
    split at h3
    · rw [h1.length]; rfl
    · cases h3
  · obtain ⟨m, F, S, ws, r, S', h1, h2, h3, h4⟩ := h
    unfold F_count_outer at h3
    split at h3
    case h_2 => cases h3
    rename_i rs many
    obtain ⟨row, e1, h3⟩ := Option.bind_eq_some_iff.mp h3
    split at h3
    case isFalse => cases h3
    rename_i hok
    cases h3
    obtain ⟨v1, v2, rfl, r1, r2⟩ := h1.two
    cases (show Rp F v1 (.tuple rs) from r1)
    rename_i ar xs har hxs
    have hxs := intsD_of hxs e1
    subst hxs
    have har := h2.ex _ _ har
    cases (show Rp F v2 (.int many) from r2)
    have hokr := hok
    unfold okRow at hokr
    simp only [Bool.and_eq_true, decide_eq_true_eq] at hokr
    have h0 : 0 < row.length := List.length_pos_iff.mpr hokr.1.1
    have done : ∀ H' x, Same H H' → x = countOuterM row many → Q (.int x) H' := fun H' x sm e => by
      subst e
      exact h4 _ F H' (sr_same h2 sm) (.int _)
    refine ⟨_, pss_one (ps_ret (pe_ifExp (pt_chain op_lt op_le pe_int (pv 1) (pe_callB call_len (by rfl) c.nL PySem.boot_len (pa_cons (pv 0) pa_nil)))
        (pe_meth (pe_make c.M (ok_init c.I T) (hr.mono (by omega)) (by rfl) T.mgC c.bI .nil pass0 (pa_cons (pv 0) (pa_cons (pe_op op_rep (pe_lst (pa_cons pe_non pa_nil)) (pe_callB call_len (by rfl) c.nL PySem.boot_len (pa_cons (pv 0) pa_nil))) pa_nil))) T.cl c.mO (all_outers c 13) (hr.mono (by omega)) c.bO .nil pass0
          (pa_cons pe_int (pa_cons (pv 1) pa_nil))) pe_int)), ?_⟩
    refine ⟨_, rfl, _, _, rfl, rfl, _, rfl, ?_⟩
    have hdef : countOuterM row many = if 0 < many ∧ many ≤ row.length then oV row (List.replicate row.length none) 0 many.toNat else 0 := rfl
    by_cases hp : (0 : Int) < many
    case neg =>
      rw [decide_eq_false hp]
      rw [if_neg (fun e => hp e.1)] at hdef
      exact iteF ⟨_, rfl, iteF (done H _ (Same.refl H) hdef.symm)⟩
    rw [decide_eq_true hp]
    refine iteT ⟨_, rfl, _, _, rfl, .inr ⟨_, SqT.of har, by rw [List.length_map]⟩, _, _, rfl, rfl, _, rfl, ?_⟩
    by_cases hq : many ≤ (row.length : Int)
    case neg =>
      rw [decide_eq_false hq]
      rw [if_neg (fun e => hq e.2)] at hdef
      exact iteF (done H _ (Same.refl H) hdef.symm)
    rw [decide_eq_true hq]
    rw [if_pos ⟨hp, hq⟩] at hdef
    refine iteT ⟨_, rfl, by show 1 ≤ sizeLine; decide, fun l hl => ?_⟩
    have s1 : Same H (upd H l (.lst [.non])) := same_upd hl _
    refine ⟨_, rfl, _, _, rfl, .inr ⟨_, SqT.of (s1 _ _ har), by rw [List.length_map]⟩, l, _, _, rfl, rfl, upd_same, by omega, by omega, ?_, fun l2 hl2 => ?_⟩
    · show 1 * _ ≤ sizeLine
      have : (12 : Nat) ≤ sizeLine := by decide
      omega
    have s2 := s1.trans (same_upd hl2 (.lst (List.replicate (row.length : Int).toNat [V.non]).flatten))
    have hac : upd (upd H l (.lst [.non])) l2 (.lst (List.replicate (row.length : Int).toNat [V.non]).flatten) l2 = some (.lst ((List.replicate row.length (none : Option Int)).map clV)) := by
      rw [upd_same, rep_none, Int.toNat_natCast]
    generalize upd (upd H l (.lst [.non])) l2 (.lst (List.replicate (row.length : Int).toNat [V.non]).flatten) = H1 at s2 hac
    refine fun p dx hp0 hdx hne => ⟨p, dx, ar, l2, H1, row, _, rfl, ?_, hp0, upd_same, s2 _ _ har, .inl hac, hok, List.length_replicate .., fun dk dd H2 zo zi sm => ⟨rfl, p, dx, _, rfl, zi.ob, fs_outers _, ?_⟩⟩
    · intro b o e
      rw [upd_ne (ne_of_none e hp0), upd_ne (ne_of_none e hdx)]
      exact e
    · refine ⟨_, rfl, _, 0, many.toNat, _, _, zo, rfl, by show row.length - 0 < 13; omega, Nat.zero_le _, by show many.toNat ≤ row.length; omega, rfl, rfl, by omega, zi, fun H3 zi3 k3 => ?_⟩
      exact done H3 _ (s2.trans zi3.same) hdef.symm
end
end
end K87

set_option Elab.async false
set_option linter.all false
set_option maxRecDepth 100000
set_option maxHeartbeats 4000000
/-! What the law draws. -/
namespace K87
open PySem L2 DL Ct
def bx (a b c : Int) : List D := [.int a, .int b, .int c]
structure Bx (k : Nat) (a b c : Int) : Prop where
  a0 : 0 ≤ a
  b0 : 0 ≤ b
  b1 : b < 2 ^ 62
  c0 : 0 ≤ c
  c1 : c ≤ k
theorem cMul_lt {x y : Int} (hx : x.natAbs < 2 ^ 1000) (hy : y.natAbs < 2 ^ 1000) : cMul x y = true := by
  have h1 : ∀ {z : Int}, z.natAbs < 2 ^ 1000 → z.natAbs.log2 < 1000 := fun {z} h => by
    by_cases h0 : z.natAbs = 0
    · rw [h0]; decide
    · exact (Nat.log2_lt h0).mpr h
  unfold cMul
  refine decide_eq_true ?_
  have := h1 hx
  have := h1 hy
  omega
theorem cDiv_ok {x y : Int} (h0 : 0 < y) (hy : y.natAbs < 2 ^ 1000) : cDiv x y = true := by
  unfold cDiv
  rw [decide_eq_true h0, Bool.true_and]
  refine decide_eq_true ?_
  have := (Nat.log2_lt (show y.natAbs ≠ 0 by omega)).mpr hy
  omega
theorem big1000 : (2 : Nat) ^ 100 < 2 ^ 1000 := Nat.pow_lt_pow_right (by decide) (by decide)
theorem cMul_sm {x y : Int} (hx : x.natAbs < 2 ^ 100) (hy : y.natAbs < 2 ^ 100) : cMul x y = true := cMul_lt (Nat.lt_trans hx big1000) (Nat.lt_trans hy big1000)
theorem cDiv_sm {x y : Int} (h0 : 0 < y) (hy : y.natAbs < 2 ^ 100) : cDiv x y = true := cDiv_ok h0 (Nat.lt_trans hy big1000)
theorem take_eq {S : Sto} {i k : Nat} {a b c s : Int} (h : S[i]? = some (.on (bx a b c))) (hb : Bx k a b c) (hk : k < 1000000) (hs : 0 < s) (hs2 : s < 2 ^ 30) :
    ∃ d a' b' c', F__law_take [.c i, .d (.int s)] S = some (.w (.d (.int d)), S.set i (.on (bx a' b' c'))) ∧ 0 ≤ d ∧ d < s ∧ Bx (k + 1) a' b' c' := by
  obtain ⟨a0, b0, b1, c0, c1⟩ := hb
  have g : ∀ c : Cel, (S.set i c)[i]? = some c := fun c => List.getElem?_set_self (List.getElem?_eq_some_iff.mp h).1
  have gl : ∀ c : Cel, (S.set i c).take S.length = S.set i c := fun c => List.take_of_length_le (by simp)
  have x0 : ixN 3 0 = some 0 := rfl
  have x2 : ixN 3 2 = some 2 := rfl
  by_cases ha : 0 < a
  · refine ⟨a % s, a / s, b, c, ?_, Int.emod_nonneg _ (by omega), Int.emod_lt_of_pos _ hs, ⟨Int.ediv_nonneg a0 (by omega), b0, b1, c0, by omega⟩⟩
    simp [F__law_take, b__law_take, h, bx, ha, hs, cDiv_sm hs (show s.natAbs < 2 ^ 100 by omega), x0, g, gl]
  · have m1 : cMul 48271 (c + 1) = true := cMul_sm (by omega) (by omega)
    have m2 : cMul (b + 48271 * (c + 1)) (39373 + (c + 1)) = true := cMul_sm (by omega) (by omega)
    have o0 := Int.emod_nonneg ((b + 48271 * (c + 1)) * (39373 + (c + 1))) (show (2147483647 : Int) ≠ 0 by decide)
    have o1 := Int.emod_lt_of_pos ((b + 48271 * (c + 1)) * (39373 + (c + 1))) (show (0 : Int) < 2147483647 by decide)
    generalize ho : ((b + 48271 * (c + 1)) * (39373 + (c + 1))) % 2147483647 = o at o0 o1
    have m3 : cMul (o + (c + 1) + b / 1000003) (o % 40009 + 7) = true := cMul_sm (by omega) (by omega)
    have t0 := Int.emod_nonneg ((o + (c + 1) + b / 1000003) * (o % 40009 + 7)) (show (2147483629 : Int) ≠ 0 by decide)
    have t1 := Int.emod_lt_of_pos ((o + (c + 1) + b / 1000003) * (o % 40009 + 7)) (show (0 : Int) < 2147483629 by decide)
    generalize ht : ((o + (c + 1) + b / 1000003) * (o % 40009 + 7)) % 2147483629 = t at t0 t1
    have m4 : cMul t 48271 = true := cMul_sm (by omega) (by omega)
    have d1 : cDiv b 1000003 = true := cDiv_sm (by decide) (by decide)
    have d2 : cDiv ((t * 48271 + o) % 2147483587) 64 = true := cDiv_sm (by decide) (by decide)
    refine ⟨(t * 48271 + o) % 2147483587 / 64 % s, a, b, c + 1, ?_, Int.emod_nonneg _ (by omega), Int.emod_lt_of_pos _ hs, ⟨a0, b0, b1, by omega, by omega⟩⟩
    simp [F__law_take, b__law_take, h, bx, ha, hs, x2, g, gl, m1, m2, ho, m3, ht, m4, d1, d2]

/-! the cells -/
def EB : Nat := 1048576
def M1 : Nat := 2 ^ EB
theorem M1_pos : 0 < M1 := Nat.two_pow_pos _
theorem bits_M1 {z : Int} (h : Builtin.Int.intBits z ≤ 1048576) : z.natAbs < M1 := by
  unfold Builtin.Int.intBits at h
  by_cases hz : z = 0
  · subst hz; exact M1_pos
  · rw [if_neg (by simpa using hz)] at h
    exact (Nat.log2_lt (by omega)).mp (show z.natAbs.log2 < EB by unfold EB; omega)
theorem log_M1 {z : Int} {e : Nat} (h : z.natAbs ≤ M1 * 2 ^ e) (he : e < 1000) : z.natAbs.log2 < 2000000 := by
  by_cases h0 : z.natAbs = 0
  · rw [h0]; decide
  · refine (Nat.log2_lt h0).mpr (Nat.lt_of_le_of_lt h ?_)
    unfold M1
    rw [← Nat.pow_add]
    exact Nat.pow_lt_pow_right (by decide) (by unfold EB; omega)
theorem cMul_M1 {z y : Int} {e : Nat} (h : z.natAbs ≤ M1 * 2 ^ e) (he : e < 1000) (hy : y.natAbs < 2 ^ 100) : cMul z y = true := by
  unfold cMul
  refine decide_eq_true ?_
  have h1 := log_M1 h he
  have h2 : y.natAbs.log2 < 100 := by
    by_cases h0 : y.natAbs = 0
    · rw [h0]; decide
    · exact (Nat.log2_lt h0).mpr hy
  omega
theorem isX_self (a : Addr) : isX a (some (.x a)) = true := by simp [isX]
@[simp] theorem eScr_ {a : Addr} {ns : List Int} {i : Nat} {lo hi : OD} {ρ : En} {S : Sto} : eScr a ns i lo hi ρ S = if isX a (ρ.getD i none) then (lo ρ S).bind fun y => (hi ρ y.2).bind fun z => some (.fr ((cutL ns y.1 z.1).map .int), z.2) else none := rfl
theorem trD_l (xs : List D) : trD (.list xs) = some (!xs.isEmpty) := by
  cases xs <;> rfl
@[simp] theorem bFor_iEn {g : AD} {gd : GD} {b : SD} {ρ : En} {S : Sto} : iEn g ρ S = (g ρ S).bind fun x => (offs x.2 x.1).bind fun y => match y.1 with
  | [d] => (itemsD d).bind fun xs => some (enumD xs, y.2)
  | _ => none := rfl
theorem enumFrom_map (ns : List Int) : ∀ n, (ns.map PyData.int).zipIdx n = (ns.zipIdx n).map fun x => (.int x.1, x.2) := by
  induction ns with
  | nil => intro n; rfl
  | cons x xs ih => intro n; simp [ih]
/-- the items: a number below 64, a value -/
def enI (x : Int × Nat) : D := .tuple [.int (x.2 : Nat), .int x.1]
theorem enumD_ints (ns : List Int) : enumD (ns.map PyData.int) = ns.zipIdx.map enI := by
  unfold enumD
  rw [enumFrom_map, List.map_map]
  rfl
theorem cut_le {xs : List Int} {t : Nat} : cutL xs none (some (t : Int)) = xs.take t := by
  unfold cutL
  rw [HT.sIx_nat, HT.sIx_none]
  simp [List.take_eq_take_iff]
theorem cut_mid {xs : List Int} {t u : Nat} (h : t ≤ u) : cutL xs (some (t : Int)) (some (u : Int)) = (xs.drop t).take (u - t) := by
  unfold cutL
  rw [HT.sIx_nat, HT.sIx_nat]
  by_cases h1 : t ≤ xs.length
  · rw [Nat.min_eq_left h1]
    by_cases h2 : u ≤ xs.length
    · rw [Nat.min_eq_left h2]
    · rw [Nat.min_eq_right (by omega)]
      rw [List.take_of_length_le (by simp), List.take_of_length_le (by simp; omega)]
  · rw [Nat.min_eq_right (by omega), Nat.min_eq_right (by omega)]
    rw [List.drop_of_length_le (Nat.le_refl _), List.drop_of_length_le (by omega)]
    simp
theorem natAbs_bound {x y : Int} {j k : Nat} (hx : x.natAbs ≤ M1 * (1 + 100 * j)) (hy : y.natAbs < M1) (hk : k ≤ 65) : (x + y * (k : Int)).natAbs ≤ M1 * (1 + 100 * (j + 1)) := by
  have h1 := Int.natAbs_add_le x (y * (k : Int))
  have h2 : (y * (k : Int)).natAbs ≤ M1 * 65 := by
    rw [Int.natAbs_mul, Int.natAbs_natCast]
    exact Nat.mul_le_mul (Nat.le_of_lt hy) hk
  have e1 : M1 * (1 + 100 * (j + 1)) = M1 * (1 + 100 * j) + M1 * 100 := by rw [← Nat.mul_add]; exact congrArg _ (by omega)
  have e2 : M1 * 65 ≤ M1 * 100 := Nat.mul_le_mul_left _ (by decide)
  omega
def cellB : SD := (bSeq (bSet 5 (eMod (eN kInt (aCons (eVar 3) aNil)) (eVar 1))) (bSetIx (eVar 2) (eVar 5) (eAdd (eIx (eVar 2) (eVar 5)) (eMul (eVar 4) (eAdd (eVar 3) (eC (.int 2)))))))
structure CellP (a : Addr) (t : Nat) (ds : List D) (ρ : En) (S : Sto) : Prop where
  ex : ∃ (j : Nat) (xs cs : List Int) (x3 x4 x5 : Option Sl), ds = (xs.zipIdx j).map enI ∧ j + xs.length ≤ 63 ∧ (∀ z ∈ xs, z.natAbs < M1) ∧ ρ = [some (.x a), some (.d (.int (t : Int))), some (.c 0), x3, x4, x5] ∧ S = [.on (cs.map .int)] ∧
    (cs.length = t ∨ xs = []) ∧ cs ≠ [] ∧ ∀ c ∈ cs, c.natAbs ≤ M1 * (1 + 100 * j)
theorem cell_step {a : Addr} {t : Nat} (ht : 0 < t) (ht2 : t ≤ 63) (d : D) (ds : List D) (ρ : En) (S : Sto) (h : CellP a t (d :: ds) ρ S) : ∃ ρ1 ρ2 S2, gT [3, 4] d ρ = some ρ1 ∧ cellB ρ1 S = some (.nx ρ2 S2) ∧ CellP a t ds ρ2 S2 := by
  obtain ⟨j, xs, cs, x3, x4, x5, e, hj, hx, rfl, rfl, hc, hne, hcs⟩ := h.ex
  cases xs with
  | nil => simp at e
  | cons x xs =>
    rw [List.zipIdx_cons, List.map_cons] at e
    obtain ⟨rfl, rfl⟩ := List.cons.inj e
    have hct : cs.length = t := by
      rcases hc with h | h
      · exact h
      · cases h
    rw [List.length_cons] at hj
    have hjt : j % t < cs.length := by rw [hct]; exact Nat.mod_lt _ ht
    have hmod : ((j : Int) % (t : Int)) = ((j % t : Nat) : Int) := by simp
    have hat : atI (cs.map PyData.int) ((j % t : Nat) : Int) = some (.int cs[j % t]) := by
      rw [atI_nat' (by rw [List.length_map]; exact hjt), List.getElem_map]
    have hix : ixN cs.length ((j % t : Nat) : Int) = some (j % t) := ixN_nat hjt
    rw [← hmod] at hat hix
    have hm : cMul x ((j : Int) + 2) = true := cMul_M1 (e := 0) (by have := hx x (by simp); omega) (by decide) (by omega)
    have ht' : (0 : Int) < (t : Int) := by omega
    refine ⟨[some (.x a), some (.d (.int (t : Int))), some (.c 0), some (.d (.int (j : Nat))), some (.d (.int x)), x5], [some (.x a), some (.d (.int (t : Int))), some (.c 0), some (.d (.int (j : Nat))), some (.d (.int x)), some (.d (.int ((j % t : Nat) : Int)))],
      [.on ((cs.set (j % t) (cs[j % t] + x * ((j : Int) + 2))).map .int)], by simp [gT, enI, setAll], ?_, ⟨j + 1, xs, _, _, _, _, rfl, by omega, fun z hz => hx z (List.mem_cons_of_mem _ hz), rfl, rfl, .inl (by rw [List.length_set]; exact hct), ?_, fun c hc => ?_⟩⟩
    · simp only [cellB, bSeq_, bSet_, eMod_, eN_, aCons_, eVar_, aNil_]
      simp [ht, hm, hat, hix]
    · intro z
      have := congrArg List.length z
      rw [List.length_set] at this
      exact hne (List.length_eq_zero_iff.mp this)
    · rcases List.mem_or_eq_of_mem_set hc with h | h
      · have := hcs c h
        have e1 : M1 * (1 + 100 * (j + 1)) = M1 * (1 + 100 * j) + M1 * 100 := by rw [← Nat.mul_add]; exact congrArg _ (by omega)
        omega
      · rw [h]
        have := natAbs_bound (x := cs[j % t]) (y := x) (j := j) (k := j + 2) (hcs _ (List.getElem_mem hjt)) (hx x (by simp)) (by omega)
        simpa using this
theorem cells_eq {a : Addr} {ns : List Int} {t : Nat} (ht : 0 < t) (ht2 : t ≤ 63) (hl : ns.length ≤ 63) (hb : ∀ z ∈ ns, z.natAbs < M1) :
    ∃ cs : List Int, F__law_cells a ns [.x a, .d (.int (t : Int))] [] = some (.fr (cs.map .int), []) ∧ cs ≠ [] ∧ ∀ c ∈ cs, c.natAbs ≤ M1 * 2 ^ 20 := by
  have h0 : ∃ cs0 : List Int, (if (ns.take t).isEmpty then [0] else ns.take t) = cs0 ∧ (cs0.length = t ∨ ((ns.drop t).take (63 - t)) = []) ∧ cs0 ≠ [] ∧ ∀ c ∈ cs0, c.natAbs ≤ M1 * (1 + 100 * 0) := by
    refine ⟨_, rfl, ?_⟩
    by_cases he : (ns.take t).isEmpty = true
    · rw [if_pos he]
      have : ns = [] := by
        cases ns with
        | nil => rfl
        | cons x xs =>
          obtain ⟨k, rfl⟩ : ∃ k, t = k + 1 := ⟨t - 1, by omega⟩
          simp at he
      subst this
      exact ⟨.inr (by simp), by simp, fun c hc => by simp at hc; subst hc; exact Nat.zero_le _⟩
    · rw [if_neg he]
      refine ⟨?_, by simpa using he, fun c hc => ?_⟩
      · by_cases h : t ≤ ns.length
        · exact .inl (by rw [List.length_take]; omega)
        · exact .inr (by rw [List.drop_of_length_le (by omega)]; simp)
      · have := hb c (List.mem_of_mem_take hc)
        omega
  obtain ⟨cs0, e0, h1, h2, h3⟩ := h0
  have hst : CellP a t (((ns.drop t).take (63 - t)).zipIdx.map enI) [some (.x a), some (.d (.int (t : Int))), some (.c 0), none, none, none] [.on (cs0.map .int)] :=
    ⟨0, _, cs0, none, none, none, rfl, by rw [List.length_take, List.length_drop]; omega, fun z hz => hb z (List.mem_of_mem_drop (List.mem_of_mem_take hz)), rfl, rfl, h1, h2, h3⟩
  obtain ⟨ρ', S', e1, hP⟩ := forL_all (CellP a t) (fun d ds ρ S h => cell_step ht ht2 d ds ρ S h) hst
  obtain ⟨j, xs, cs, x3, x4, x5, e, hj, _, rfl, rfl, _, hne, hcs⟩ := hP.ex
  refine ⟨cs, ?_, hne, fun c hc => Nat.le_trans (hcs c hc) (Nat.mul_le_mul_left _ (by omega))⟩
  have hm63 := cut_mid (xs := ns) (t := t) (u := 63) ht2
  have e63 : ((63 : Nat) : Int) = 63 := rfl
  rw [e63] at hm63
  unfold cellB at e1
  unfold F__law_cells b__law_cells
  simp only [den_2, bSeq_, bSetC_, eOrT_, eN_, aCons_, aNil_, eScr_, oNon_, oSom_, eVar_]
  by_cases hz : ¬t = 0 ∧ ¬ns = []
  · have hz' : (ns.take t).isEmpty = false := by
      cases ns with
      | nil => exact absurd rfl hz.2
      | cons x xs =>
        obtain ⟨k, rfl⟩ : ∃ k, t = k + 1 := ⟨t - 1, by omega⟩
        rfl
    rw [hz'] at e0
    have e0 : ns.take t = cs0 := e0
    subst e0
    simp [isX_self, cut_le, hm63, trD_l, enumD_ints, hz, e1, retC_c, -List.map_take, -List.map_drop]
  · have hz' : ns = [] := by
      by_cases h : ns = []
      · exact h
      · exact absurd ⟨by omega, h⟩ hz
    subst hz'
    have e0 : [(0 : Int)] = cs0 := by simpa using e0
    subst e0
    have hs1 : 1 ≤ sizeLine := by decide
    simp at e1
    simp [isX_self, cut_le, hm63, trD_l, enumD_ints, hs1, e1, retC_c]
    have : cutL ([] : List Int) (some (t : Int)) (some 63) = [] := by simpa using hm63
    simp [this, e1, enumD, retC_c]
/-! the box -/
@[simp] theorem oInt_b (b : Bool) : oInt (.bool b) = some (.int (if b then 1 else 0)) := by cases b <;> rfl
theorem box_eq {c : Int} {cs : List Int} (hc : c.natAbs ≤ M1 * 2 ^ 20) : ∃ x y z, F__law_box [.d (.list ((c :: cs).map .int)), .d (.int 0)] [] = some (.fr (bx x y z), []) ∧ Bx 0 x y z := by
  have p1 : cPow 10 18 = true := by decide
  have m0 : cMul 39373 0 = true := by decide
  have h3 : 3 ≤ sizeLine := by decide
  have y0 := Int.emod_nonneg c (show (2305843009213693951 : Int) ≠ 0 by decide)
  have y1 := Int.emod_lt_of_pos c (show (0 : Int) < 2305843009213693951 by decide)
  have m1 : ∀ b : Int, b = 0 ∨ b = 1 → cMul (c.natAbs : Int) b = true := fun b hb => cMul_M1 (e := 20) (by simpa using hc) (by decide) (by rcases hb with h | h <;> rw [h] <;> decide)
  refine ⟨(c.natAbs : Int) * (if (10 : Int) ^ 18 ≤ (c.natAbs : Int) then 1 else 0), c % 2305843009213693951 + 39373 * 0 + 366787, 0, ?_, ?_, by omega, by omega, by omega, by omega⟩
  · have m2 : cMul (c.natAbs : Int) (if 1000000000000000000 ≤ (c.natAbs : Int) then 1 else 0) = true := m1 _ (by split <;> simp)
    simp [F__law_box, b__law_box, p1, m0, h3, m2, bx]
  · refine Int.mul_nonneg (by omega) ?_
    split <;> decide

/-! picking -/
theorem seqIx_nat {n i : Nat} (h : i < n) : seqIndex? (i : Int) n = some i := (L2.ixN_seq (ixN_nat h)).1
theorem perm_erase {α : Type} : ∀ {l : List α} {j : Nat} (h : j < l.length), l.Perm (l[j] :: l.eraseIdx j)
  | x :: xs, 0, _ => .refl _
  | x :: xs, j + 1, h => by
    have ih := perm_erase (l := xs) (j := j) (by simpa using h)
    exact (List.Perm.cons x ih).trans (List.Perm.swap _ _ _)
def pickB : SD := (bX (eM kApp (eVar 4) (aCons (eM kPopAt (eVar 3) (aCons (eN F__law_take (aCons (eVar 0) (aCons (eN kLen (aCons (eVar 3) aNil)) aNil))) aNil)) aNil)))
structure PickP (S : Sto) (i k m : Nat) (w : Sl) (gs : List D) (ds : List D) (ρ : En) (S' : Sto) : Prop where
  ex : ∃ (pool found : List D) (a b c : Int) (x5 : Option Sl), ρ = [some (.c i), some w, some (.d (.int (m : Int))), some (.c S.length), some (.c (S.length + 1)), x5] ∧ S' = S.set i (Cel.on (bx a b c)) ++ [Cel.on pool, Cel.on found] ∧
    ds.length ≤ pool.length ∧ gs.Perm (found ++ pool) ∧ found.length + ds.length = m ∧ Bx (k + found.length) a b c
theorem pick_step {S : Sto} {i k m : Nat} {w : Sl} {gs : List D} (hi : i < S.length) (hk : k + m < 1000000) (hgs : gs.length < 1000000) (d : D) (ds : List D) (ρ : En) (S' : Sto) (h : PickP S i k m w gs (d :: ds) ρ S') :
    ∃ ρ1 ρ2 S2, gN 5 d ρ = some ρ1 ∧ pickB ρ1 S' = some (.nx ρ2 S2) ∧ PickP S i k m w gs ds ρ2 S2 := by
  obtain ⟨pool, found, a, b, c, x5, rfl, rfl, hp, hperm, hm, hb⟩ := h.ex
  rw [List.length_cons] at hp hm
  have hpl : pool.length ≤ gs.length := by rw [hperm.length_eq, List.length_append]; omega
  have hsz : ∀ n : Nat, n < 1000000 → n < sizeLine := fun n h => Nat.lt_trans h (by decide)
  have h0 : (S.set i (Cel.on (bx a b c)) ++ [Cel.on pool, Cel.on found])[i]? = some (Cel.on (bx a b c)) := by
    rw [List.getElem?_append_left (by rw [List.length_set]; exact hi)]
    exact List.getElem?_set_self hi
  have h1 : (S.set i (Cel.on (bx a b c)) ++ [Cel.on pool, Cel.on found])[S.length]? = some (Cel.on pool) := by
    rw [List.getElem?_append_right (by simp)]
    simp
  obtain ⟨n, a', b', c', e, n0, n1, hb'⟩ := take_eq (s := (pool.length : Int)) h0 hb (by omega) (by omega) (by omega)
  have es : (S.set i (Cel.on (bx a b c)) ++ [Cel.on pool, Cel.on found]).set i (Cel.on (bx a' b' c')) = S.set i (Cel.on (bx a' b' c')) ++ [Cel.on pool, Cel.on found] := by
    rw [List.set_append_left _ _ (by rw [List.length_set]; exact hi), List.set_set]
  rw [es] at e
  obtain ⟨j, rfl⟩ : ∃ j : Nat, n = (j : Int) := ⟨n.toNat, by omega⟩
  have hj : j < pool.length := by omega
  have g1 : (S.set i (Cel.on (bx a' b' c')) ++ [Cel.on pool, Cel.on found])[S.length]? = some (Cel.on pool) := by
    rw [List.getElem?_append_right (by simp)]
    simp
  have g2 : (S.set i (Cel.on (bx a' b' c')) ++ [Cel.on (pool.eraseIdx j), Cel.on found])[S.length + 1]? = some (Cel.on found) := by
    rw [List.getElem?_append_right (by simp)]
    simp
  have u1 : (S.set i (Cel.on (bx a' b' c')) ++ [Cel.on pool, Cel.on found]).set S.length (Cel.on (pool.eraseIdx j)) = S.set i (Cel.on (bx a' b' c')) ++ [Cel.on (pool.eraseIdx j), Cel.on found] := by
    rw [List.set_append_right _ _ (by simp)]
    simp
  have u2 : (S.set i (Cel.on (bx a' b' c')) ++ [Cel.on (pool.eraseIdx j), Cel.on found]).set (S.length + 1) (Cel.on (found ++ [pool[j]])) = S.set i (Cel.on (bx a' b' c')) ++ [Cel.on (pool.eraseIdx j), Cel.on (found ++ [pool[j]])] := by
    rw [List.set_append_right _ _ (by simp)]
    simp
  have hfl : found.length < sizeLine := hsz _ (by omega)
  refine ⟨[some (.c i), some w, some (.d (.int (m : Int))), some (.c S.length), some (.c (S.length + 1)), some (.d d)], _, S.set i (Cel.on (bx a' b' c')) ++ [Cel.on (pool.eraseIdx j), Cel.on (found ++ [pool[j]])], rfl, ?_, ⟨pool.eraseIdx j, found ++ [pool[j]], a', b', c', some (.d d), rfl, rfl, ?_, ?_, ?_, ?_⟩⟩
  · have hj1 : (-9223372036854775808 : Int) ≤ (j : Int) := by omega
    have hj2 : (j : Int) < 9223372036854775808 := by omega
    simp only [pickB, bX_, eM_, eN_, aCons_, aNil_, eVar_]
    simp [h1, e, kPopAt, kApp, g1, u1, g2, u2, seqIx_nat hj, hfl, hj, hj1, hj2]
  · rw [List.length_eraseIdx_of_lt hj]; omega
  · refine hperm.trans ?_
    rw [List.append_assoc]
    exact List.Perm.append_left _ (perm_erase hj)
  · rw [List.length_append]; simp; omega
  · rw [List.length_append]; exact hb'
theorem pick_eq {S : Sto} {i k m : Nat} {a b c : Int} {w : Sl} {gs : List D} (h : S[i]? = some (.on (bx a b c))) (hb : Bx k a b c) (hw : kList [w] S = some (.fr gs, S)) (hm : m ≤ gs.length) (hg : gs.length < 100000) (hk : k < 100000) :
    ∃ fs rest a' b' c', F__law_pick [.c i, w, .d (.int (m : Int))] S = some (.fr fs, S.set i (.on (bx a' b' c'))) ∧ fs.length = m ∧ gs.Perm (fs ++ rest) ∧ Bx (k + m) a' b' c' := by
  have hi : i < S.length := (List.getElem?_eq_some_iff.mp h).1
  have hS : S.set i (.on (bx a b c)) = S := by
    obtain ⟨h1, h2⟩ := List.getElem?_eq_some_iff.mp h
    rw [← h2]
    exact List.set_getElem_self h1
  have hst : PickP S i k m w gs ((List.range m).map fun i => .int (i : Nat)) [some (.c i), some w, some (.d (.int (m : Int))), some (.c S.length), some (.c (S.length + 1)), none] (S ++ [Cel.on gs, Cel.on []]) :=
    ⟨gs, [], a, b, c, none, rfl, by rw [hS], by simpa using hm, by simp, by simp, by simpa using hb⟩
  obtain ⟨ρ', S', e1, hP⟩ := forL_all (PickP S i k m w gs) (fun d ds ρ S' h => pick_step hi (by omega) (by omega) d ds ρ S' h) hst
  obtain ⟨pool, found, a', b', c', x5, rfl, rfl, _, hperm, hlen, hb'⟩ := hP.ex
  have hlen : found.length = m := by simpa using hlen
  refine ⟨found, pool, a', b', c', ?_, hlen, hperm, by rw [← hlen]; exact hb'⟩
  unfold pickB at e1
  have hmin : (if ((gs.length : Nat) : Int) < (m : Int) then ((gs.length : Nat) : Int) else (m : Int)) = (m : Int) := if_neg (by omega)
  have hnm : ¬ gs.length < m := by omega
  have hin := inB_nat (n := m) (by omega)
  have g1 : (S.set i (.on (bx a' b' c')) ++ [Cel.on pool, Cel.on found])[S.length + 1]? = some (Cel.on found) := by
    rw [List.getElem?_append_right (by simp)]
    simp
  have g2 : (S.set i (.on (bx a' b' c')) ++ [Cel.on pool, Cel.on found]).take S.length = S.set i (.on (bx a' b' c')) := by
    rw [List.take_append_of_le_length (by simp), List.take_of_length_le (by simp)]
  have g0 : (S ++ [Cel.on gs, Cel.on []])[S.length]? = some (Cel.on gs) := by
    rw [List.getElem?_append_right (by simp)]
    simp
  have hr : F__law_pick [.c i, w, .d (.int (m : Int))] S = retC S.length (.w (.c (S.length + 1))) (S.set i (.on (bx a' b' c')) ++ [Cel.on pool, Cel.on found]) := by
    refine den_rt rfl ?_
    unfold b__law_pick
    refine (seq_nx (ρ1 := [some (.c i), some w, some (.d (.int (m : Int))), some (.c S.length), some (.c (S.length + 1)), none]) (S1 := S ++ [Cel.on gs, Cel.on []]) ?_).trans ?_
    · simp [hw]
    · refine (seq_nx (ρ1 := [some (.c i), some w, some (.d (.int (m : Int))), some (.c S.length), some (.c (S.length + 1)), x5]) (S1 := S.set i (.on (bx a' b' c')) ++ [Cel.on pool, Cel.on found]) (for_of (S1 := S ++ [Cel.on gs, Cel.on []]) (r1_of (j := (m : Int)) ?_ hin) ?_)).trans ?_
      · simp [g0, hnm]
      · rw [Int.toNat_natCast, upTo_nat]; exact e1
      · simp
  rw [hr, retC_c, if_neg (by omega), g1, g2]
  rfl

/-! a row -/
theorem atI_last {α : Type} (l : List α) (y : α) : atI (l ++ [y]) (-1) = some y := by
  unfold atI ixN
  rw [if_neg (by decide), if_pos (by simp; omega)]
  have : ((-1 : Int) + ((l ++ [y]).length : Nat)).toNat = l.length := by simp; omega
  rw [Option.bind_some, this]
  simp
def unI : D → Int
  | .int i => i
  | _ => 0
theorem unI_map : ∀ zs : List Int, (zs.map PyData.int).map unI = zs
  | [] => rfl
  | z :: zs => by rw [List.map_cons, List.map_cons, unI_map zs]; rfl
theorem perm_ints {zs : List Int} {fs : List D} (h : (zs.map PyData.int).Perm fs) : ∃ xs : List Int, fs = xs.map .int ∧ zs.Perm xs := by
  refine ⟨fs.map unI, ?_, ?_⟩
  · have h1 : ∀ d ∈ fs, PyData.int (unI d) = d := fun d hd => by
      obtain ⟨z, _, rfl⟩ := List.mem_map.mp (h.mem_iff.mpr hd)
      rfl
    rw [List.map_map]
    conv => lhs; rw [← List.map_id fs]
    exact List.map_congr_left fun d hd => (h1 d hd).symm
  · have := h.map unI
    rwa [unI_map] at this
def rowB : SD := (bX (eM kApp (eVar 2) (aCons (eAdd (eAdd (eIx (eVar 2) (eNeg (eC (.int 1)))) (eC (.int 1))) (eN F__law_take (aCons (eVar 0) (aCons (eC (.int 4)) aNil)))) aNil)))
structure RowP (S : Sto) (i k n : Nat) (ds : List D) (ρ : En) (S' : Sto) : Prop where
  ex : ∃ (ys : List Int) (y a b c : Int) (x3 : Option Sl), ρ = [some (.c i), some (.d (.int (n : Int))), some (.c S.length), x3] ∧ S' = S.set i (.on (bx a b c)) ++ [Cel.on ((ys ++ [y]).map .int)] ∧
    ys.length + 1 + ds.length = n ∧ (ys ++ [y]).Pairwise (· < ·) ∧ (∀ z ∈ ys ++ [y], 1 ≤ z) ∧ Bx (k + ys.length + 1) a b c
theorem row_step {S : Sto} {i k n : Nat} (hi : i < S.length) (hk : k + n < 100000) (d : D) (ds : List D) (ρ : En) (S' : Sto) (h : RowP S i k n (d :: ds) ρ S') :
    ∃ ρ1 ρ2 S2, gN 3 d ρ = some ρ1 ∧ rowB ρ1 S' = some (.nx ρ2 S2) ∧ RowP S i k n ds ρ2 S2 := by
  obtain ⟨ys, y, a, b, c, x3, rfl, rfl, hn, hpw, h1, hb⟩ := h.ex
  rw [List.length_cons] at hn
  have h0 : (S.set i (.on (bx a b c)) ++ [Cel.on ((ys ++ [y]).map .int)])[i]? = some (.on (bx a b c)) := by
    rw [List.getElem?_append_left (by rw [List.length_set]; exact hi)]
    exact List.getElem?_set_self hi
  have hl : (S.set i (.on (bx a b c)) ++ [Cel.on ((ys ++ [y]).map .int)])[S.length]? = some (Cel.on ((ys ++ [y]).map .int)) := by
    rw [List.getElem?_append_right (by simp)]
    simp
  obtain ⟨t, a', b', c', e, t0, t1, hb'⟩ := take_eq (s := 4) h0 hb (by omega) (by decide) (by decide)
  have es : (S.set i (.on (bx a b c)) ++ [Cel.on ((ys ++ [y]).map .int)]).set i (.on (bx a' b' c')) = S.set i (.on (bx a' b' c')) ++ [Cel.on ((ys ++ [y]).map .int)] := by
    rw [List.set_append_left _ _ (by rw [List.length_set]; exact hi), List.set_set]
  rw [es] at e
  have hl' : (S.set i (.on (bx a' b' c')) ++ [Cel.on ((ys ++ [y]).map .int)])[S.length]? = some (Cel.on ((ys ++ [y]).map .int)) := by
    rw [List.getElem?_append_right (by simp)]
    simp
  have u1 : (S.set i (.on (bx a' b' c')) ++ [Cel.on ((ys ++ [y]).map .int)]).set S.length (Cel.on (((ys ++ [y]) ++ [y + 1 + t]).map .int)) = S.set i (.on (bx a' b' c')) ++ [Cel.on (((ys ++ [y]) ++ [y + 1 + t]).map .int)] := by
    rw [List.set_append_right _ _ (by simp)]
    simp
  have hat : atI ((ys ++ [y]).map PyData.int) (-1) = some (.int y) := by rw [List.map_append]; exact atI_last _ _
  have hfl : ((ys ++ [y]).map PyData.int).length < sizeLine := by
    refine Nat.lt_trans (m := 100000) ?_ (by decide)
    simp; omega
  refine ⟨[some (.c i), some (.d (.int (n : Int))), some (.c S.length), some (.d d)], [some (.c i), some (.d (.int (n : Int))), some (.c S.length), some (.d d)], S.set i (.on (bx a' b' c')) ++ [Cel.on (((ys ++ [y]) ++ [y + 1 + t]).map .int)], rfl, ?_, ⟨ys ++ [y], y + 1 + t, a', b', c', _, rfl, rfl, ?_, ?_, ?_, ?_⟩⟩
  · rw [← u1]
    generalize hL : (ys ++ [y]).map PyData.int = L at *
    have e2 : (((ys ++ [y]) ++ [y + 1 + t]).map PyData.int) = L ++ [.int (y + 1 + t)] := by rw [← hL, List.map_append]; rfl
    rw [e2]
    simp only [rowB, bX_, eM_, eN_, aCons_, aNil_, eVar_]
    simp [hl, e, kApp, hl', hat, hfl]
  · simp; omega
  · rw [List.pairwise_append]
    refine ⟨hpw, by simp, fun z hz w hw => ?_⟩
    rw [List.mem_singleton.mp hw]
    have : z ≤ y := by
      rcases List.mem_append.mp hz with h | h
      · have := (List.pairwise_append.mp hpw).2.2 z h y (by simp)
        omega
      · rw [List.mem_singleton.mp h]; exact Int.le_refl _
    omega
  · intro z hz
    rcases List.mem_append.mp hz with h | h
    · exact h1 z h
    · rw [List.mem_singleton.mp h]
      have := h1 y (by simp)
      omega
  · rw [List.length_append]
    exact hb'
theorem row_eq {S : Sto} {i k n : Nat} {a b c : Int} (h : S[i]? = some (.on (bx a b c))) (hb : Bx k a b c) (hn : 0 < n) (hn2 : n < 1000) (hk : k < 1000) :
    ∃ (xs : List Int) (a' b' c' : Int), F__law_row [.c i, .d (.int (n : Int))] S = some (.w (.d (.tuple (xs.map .int))), S.set i (.on (bx a' b' c'))) ∧ xs.length = n ∧ (∃ zs : List Int, zs.Pairwise (· < ·) ∧ zs.Perm xs ∧ ∀ z ∈ zs, 1 ≤ z) ∧ Bx (k + n + n) a' b' c' := by
  have hi : i < S.length := (List.getElem?_eq_some_iff.mp h).1
  obtain ⟨t, a1, b1, c1, e, t0, t1, hb1⟩ := take_eq (s := 5) h hb (by omega) (by decide) (by decide)
  have hst : RowP S i k n ((List.range (n - 1)).map fun j => .int (1 + (j : Nat))) [some (.c i), some (.d (.int (n : Int))), some (.c S.length), none] (S.set i (.on (bx a1 b1 c1)) ++ [Cel.on (([] ++ [1 + t]).map .int)]) :=
    ⟨[], 1 + t, a1, b1, c1, none, rfl, rfl, by simp; omega, by simp, by simp; omega, by simpa using hb1⟩
  obtain ⟨ρ', S', e1, hP⟩ := forL_all (RowP S i k n) (fun d ds ρ S' h => row_step hi (by omega) d ds ρ S' h) hst
  obtain ⟨ys, y, a2, b2, c2, x3, rfl, rfl, hlen, hpw, h1, hb2⟩ := hP.ex
  have hlen : (ys ++ [y]).length = n := by simp at hlen ⊢; omega
  have h2 : (S.set i (.on (bx a2 b2 c2)) ++ [Cel.on ((ys ++ [y]).map .int)])[i]? = some (.on (bx a2 b2 c2)) := by
    rw [List.getElem?_append_left (by rw [List.length_set]; exact hi)]
    exact List.getElem?_set_self hi
  have hl2 : (S.set i (.on (bx a2 b2 c2)) ++ [Cel.on ((ys ++ [y]).map .int)])[S.length]? = some (Cel.on ((ys ++ [y]).map .int)) := by
    rw [List.getElem?_append_right (by simp)]
    simp
  obtain ⟨fs, rest, a', b', c', e3, hf, hperm, hb3⟩ := pick_eq (w := .c S.length) (gs := (ys ++ [y]).map .int) (m := n) h2 hb2 (by rw [kList_c, hl2]; rfl) (by rw [List.length_map, hlen]; exact Nat.le_refl _) (by rw [List.length_map, hlen]; omega) (by simp at hlen; omega)
  have hr : rest = [] := by
    have := hperm.length_eq
    rw [List.length_map, hlen, List.length_append, hf] at this
    exact List.length_eq_zero_iff.mp (by omega)
  subst hr
  rw [List.append_nil] at hperm
  obtain ⟨xs, rfl, hp⟩ := perm_ints hperm
  have es : (S.set i (.on (bx a2 b2 c2)) ++ [Cel.on ((ys ++ [y]).map .int)]).set i (.on (bx a' b' c')) = S.set i (.on (bx a' b' c')) ++ [Cel.on ((ys ++ [y]).map .int)] := by
    rw [List.set_append_left _ _ (by rw [List.length_set]; exact hi), List.set_set]
  rw [es] at e3
  refine ⟨xs, a', b', c', ?_, by rw [← hp.length_eq]; exact hlen, ⟨ys ++ [y], hpw, hp, h1⟩, ?_⟩
  · have hr : F__law_row [.c i, .d (.int (n : Int))] S = retC S.length (.w (.d (.tuple (xs.map .int)))) (S.set i (.on (bx a' b' c')) ++ [Cel.on ((ys ++ [y]).map .int)]) := by
      refine den_rt rfl ?_
      unfold b__law_row
      refine (seq_nx (ρ1 := [some (.c i), some (.d (.int (n : Int))), some (.c S.length), none]) (S1 := S.set i (.on (bx a1 b1 c1)) ++ [Cel.on (([] ++ [1 + t]).map .int)]) ?_).trans ?_
      · have : 1 ≤ sizeLine := by decide
        simp [e, this]
      · refine (seq_nx (ρ1 := [some (.c i), some (.d (.int (n : Int))), some (.c S.length), x3]) (S1 := S.set i (.on (bx a2 b2 c2)) ++ [Cel.on ((ys ++ [y]).map .int)]) (for_of (S1 := S.set i (.on (bx a1 b1 c1)) ++ [Cel.on (([] ++ [1 + t]).map .int)]) (r2_of (i := 1) (j := (n : Int)) ?_ (by decide) (inB_nat (by omega))) ?_)).trans ?_
        · simp
        · have hu : DL.upTo 1 ((n : Int) - 1).toNat = (List.range (n - 1)).map fun j => .int (1 + (j : Nat)) := by
            unfold DL.upTo
            rw [show ((n : Int) - 1).toNat = n - 1 by omega]
          rw [hu]
          exact e1
        · simp only [bRet_, eN_, aCons_, aNil_, eVar_]
          simp [e3, -List.map_append]
    rw [hr, retC_d]
    rw [List.take_append_of_le_length (by simp), List.take_of_length_le (by simp)]
  · have : k + ys.length + 1 + n = k + n + n := by simp at hlen; omega
    rw [← this]
    exact hb3
end K87

set_option Elab.async false
set_option linter.all false
set_option maxRecDepth 100000
set_option maxHeartbeats 4000000
/-! All orders of the sizes. -/
namespace K87
open PySem L2 DL Ct
def rowD (xs : List Int) : D := .tuple (xs.map .int)
def rowsD (rs : List (List Int)) : D := .list (rs.map rowD)
def nxt (l own : List Int) : List (List Int) := (l.filter fun s => decide (s ∉ own)).map fun s => own ++ [s]
def rwsM (l : List Int) : Nat → List (List Int)
  | 0 => [[]]
  | k + 1 => (rwsM l k).flatMap (nxt l)
theorem flat_ints : ∀ ns : List Int, (ns.map PyData.int).all flatD = true
  | [] => rfl
  | n :: ns => by rw [List.map_cons, List.all_cons, flat_ints ns]; rfl
theorem any_ints (x : Int) : ∀ ns : List Int, ((ns.map PyData.int).any fun z => PyData.eqv z (.int x)) = decide (x ∈ ns)
  | [] => by simp
  | n :: ns => by
    rw [List.map_cons, List.any_cons, any_ints x ns, eqv_int]
    by_cases h1 : n = x
    · simp [h1]
    · by_cases h2 : x ∈ ns
      · simp [h2]
      · have : ¬ x = n := fun z => h1 z.symm
        simp [h1, h2, this]
theorem kIn_ints (neg : Bool) (x : Int) (own : List Int) (S : Sto) : kIn neg (.d (.int x)) (.d (rowD own)) S = some (.w (.d (.bool (neg ^^ decide (x ∈ own)))), S) := by
  have : k2D (oIn neg) (.d (.int x)) (.d (rowD own)) S = some (.w (.d (.bool (neg ^^ decide (x ∈ own)))), S) := by
    rw [k2D_]
    unfold oIn rowD
    rw [itemsD_t, Option.bind_some, flat_ints, any_ints]
    rfl
  show (k2D (oIn neg) (.d (.int x)) (.d (rowD own)) S).or _ = _
  rw [this]
  rfl
@[simp] theorem eNotIn_ {f g : ED} {ρ : En} {S : Sto} : eNotIn f g ρ S = (f ρ S).bind fun x => (g ρ x.2).bind fun y => kIn true (frz x.1) (frz y.1) y.2 := rfl
@[simp] theorem eIn_ {f g : ED} {ρ : En} {S : Sto} : eIn f g ρ S = (f ρ S).bind fun x => (g ρ x.2).bind fun y => kIn false (frz x.1) (frz y.1) y.2 := rfl
theorem sz {n : Nat} (h : n ≤ 1000000) : n ≤ sizeLine := Nat.le_trans h (by decide)
def nxtD (own : List Int) : D → Option D
  | .int x => if x ∈ own then none else some (rowD (own ++ [x]))
  | _ => none
theorem filterMap_nxt (own : List Int) : ∀ l : List Int, (l.map PyData.int).filterMap (nxtD own) = (nxt l own).map rowD
  | [] => rfl
  | x :: l => by
    unfold nxt
    rw [List.map_cons, List.filterMap_cons]
    by_cases h : x ∈ own
    · have e : nxtD own (.int x) = none := if_pos h
      rw [e, filterMap_nxt own l, List.filter_cons_of_neg (by simpa using h)]
      rfl
    · have e : nxtD own (.int x) = some (rowD (own ++ [x])) := if_neg h
      rw [e, filterMap_nxt own l, List.filter_cons_of_pos (by simpa using h)]
      rfl
def lcRows : ED := (eLc (iSq (eVar 0)) (gN 5) (bE (eNotIn (eVar 5) (eVar 4))) (eAdd (eVar 4) (eTup (aCons (eVar 5) aNil))) [5])
theorem lcRows_eq {l own : List Int} {x1 x2 x3 x5 : Option Sl} {S : Sto} (hl : l.length ≤ 1000) (ho : own.length ≤ 1000) :
    lcRows [some (.d (rowD l)), x1, x2, x3, some (.d (rowD own)), x5] S = some (.fr ((nxt l own).map rowD), S) := by
  have h := lcL_map (gd := gN 5) (t := bE (eNotIn (eVar 5) (eVar 4))) (el := eAdd (eVar 4) (eTup (aCons (eVar 5) aNil))) (ρ := [some (.d (rowD l)), x1, x2, x3, some (.d (rowD own)), none]) (S := S) (nxtD own) (xs := l.map PyData.int) [] (fun d hd => by
    obtain ⟨x, _, rfl⟩ := List.mem_map.mp hd
    refine ⟨[some (.d (rowD l)), x1, x2, x3, some (.d (rowD own)), some (.d (.int x))], rfl, ?_⟩
    have hk := kIn_ints true x own S
    have h1 : 1 ≤ sizeLine := by decide
    by_cases hm : x ∈ own
    · refine .inr ⟨?_, if_pos hm⟩
      simp [hk, hm]
    · refine .inl ⟨rowD (own ++ [x]), .w (.d (rowD (own ++ [x]))), ?_, ?_, rfl, if_neg hm⟩
      · simp [hk, hm]
      · have h3 : own.length + 1 ≤ sizeLine := sz (by omega)
        simp [h1, rowD, h3]) (sz (by simp; omega))
  unfold lcRows
  rw [eLc_]
  have e : iSq (eVar 0) [some (.d (rowD l)), x1, x2, x3, some (.d (rowD own)), x5] S = some (l.map .int, S) := by simp [rowD]
  rw [e, Option.bind_some]
  show (lcL _ _ _ [some (.d (rowD l)), x1, x2, x3, some (.d (rowD own)), none] _ _ _).bind _ = _
  rw [h, filterMap_nxt]
  simp
def inB1 : SD := bSet 3 (eAdd (eVar 3) lcRows)
theorem inner_eq {l : List Int} {rs : List (List Int)} {x1 x2 x4 x5 : Option Sl} {S : Sto} (hl : l.length ≤ 1000) (hrs : ∀ r ∈ rs, r.length ≤ 1000) (hB : (rs.flatMap (nxt l)).length ≤ 1000000) :
    ∃ y4 y5, forL (gN 4) inB1 (rs.map rowD) [some (.d (rowD l)), x1, x2, some (.d (.list [])), x4, x5] S = some (.nx [some (.d (rowD l)), x1, x2, some (.d (rowsD (rs.flatMap (nxt l)))), y4, y5] S) := by
  obtain ⟨ρ', S', e, h⟩ := forL_all (gd := gN 4) (b := inB1) (fun ds ρ S' => ∃ done todo y4 y5, ds = todo.map rowD ∧ ρ = [some (.d (rowD l)), x1, x2, some (.d (rowsD done)), y4, y5] ∧ S' = S ∧ done ++ todo.flatMap (nxt l) = rs.flatMap (nxt l) ∧ ∀ r ∈ todo, r.length ≤ 1000)
    (fun d ds ρ S' h => by
      obtain ⟨done, todo, y4, y5, e, rfl, rfl, hd, ht⟩ := h
      cases todo with
      | nil => cases e
      | cons r todo =>
        obtain ⟨rfl, rfl⟩ := List.cons.inj e
        rw [List.flatMap_cons, ← List.append_assoc] at hd
        refine ⟨_, [some (.d (rowD l)), x1, x2, some (.d (rowsD (done ++ nxt l r))), some (.d (rowD r)), y5], S', rfl, ?_, done ++ nxt l r, todo, _, _, rfl, rfl, rfl, hd, fun q hq => ht q (List.mem_cons_of_mem _ hq)⟩
        have h1 := lcRows_eq (l := l) (own := r) (x1 := x1) (x2 := x2) (x3 := some (.d (rowsD done))) (x5 := y5) (S := S') hl (ht r (by simp))
        have h2 : done.length + (nxt l r).length ≤ sizeLine := sz (by
          have := congrArg List.length hd
          rw [List.length_append, List.length_append] at this
          omega)
        unfold inB1
        unfold rowsD at h1 ⊢
        simp [h1, h2]) (xs := rs.map rowD) (ρ := [some (.d (rowD l)), x1, x2, some (.d (.list [])), x4, x5]) (S := S) ⟨[], rs, x4, x5, rfl, rfl, rfl, by simp, hrs⟩
  obtain ⟨done, todo, y4, y5, e0, rfl, rfl, hd, _⟩ := h
  have : todo = [] := List.map_eq_nil_iff.mp e0.symm
  subst this
  rw [List.flatMap_nil, List.append_nil] at hd
  subst hd
  exact ⟨y4, y5, e⟩
theorem nxt_len {l own : List Int} {r : List Int} (h : r ∈ nxt l own) : r.length = own.length + 1 := by
  obtain ⟨s, _, rfl⟩ := List.mem_map.mp h
  simp
theorem rwsM_len {l : List Int} : ∀ {k : Nat} {r : List Int}, r ∈ rwsM l k → r.length = k
  | 0, r, h => by
    rw [List.mem_singleton.mp h]; rfl
  | k + 1, r, h => by
    obtain ⟨own, ho, hr⟩ := List.mem_flatMap.mp h
    rw [nxt_len hr, rwsM_len ho]
theorem flat_len {α β : Type} (f : α → List β) (n : Nat) : ∀ (xs : List α), (∀ x ∈ xs, (f x).length ≤ n) → (xs.flatMap f).length ≤ xs.length * n
  | [], _ => by simp
  | x :: xs, h => by
    have h1 := flat_len f n xs fun y hy => h y (List.mem_cons_of_mem _ hy)
    have h2 := h x (by simp)
    rw [List.flatMap_cons, List.length_append, List.length_cons, Nat.succ_mul]
    omega
theorem rwsM_many {l : List Int} : ∀ k : Nat, (rwsM l k).length ≤ l.length ^ k
  | 0 => Nat.le_refl _
  | k + 1 => by
    rw [Nat.pow_succ]
    refine Nat.le_trans (flat_len (nxt l) l.length _ fun own _ => ?_) (Nat.mul_le_mul_right _ (rwsM_many k))
    unfold nxt
    rw [List.length_map]
    exact List.length_filter_le _ _
theorem pow_small {n k : Nat} (hn : n ≤ 5) (hk : k ≤ 6) : n ^ k ≤ 1000000 := Nat.le_trans (Nat.pow_le_pow_left hn k) (Nat.le_trans (Nat.pow_le_pow_right (by decide) hk) (by decide))
theorem rows_eq {l : List Int} {S : Sto} (hl : l.length ≤ 5) : F__law_rows [.d (rowD l)] S = some (.w (.d (rowsD (rwsM l l.length))), S) := by
  have houter : ∃ y2 y3 y4 y5, forL (gN 2) (bSeq (bSet 3 (eLst aNil)) (bSeq (bFor (iSq (eVar 1)) (gN 4) inB1) (bSet 1 (eVar 3)))) ((List.range l.length).map fun i => .int (i : Nat)) [some (.d (rowD l)), some (.d (rowsD [[]])), none, none, none, none] S =
      some (.nx [some (.d (rowD l)), some (.d (rowsD (rwsM l l.length))), y2, y3, y4, y5] S) := by
    obtain ⟨ρ', S', e, h⟩ := forL_all (gd := gN 2) (b := bSeq (bSet 3 (eLst aNil)) (bSeq (bFor (iSq (eVar 1)) (gN 4) inB1) (bSet 1 (eVar 3)))) (fun ds ρ S' => ∃ k y2 y3 y4 y5, k + ds.length = l.length ∧ ρ = [some (.d (rowD l)), some (.d (rowsD (rwsM l k))), y2, y3, y4, y5] ∧ S' = S)
      (fun d ds ρ S' h => by
        obtain ⟨k, y2, y3, y4, y5, hk, rfl, rfl⟩ := h
        rw [List.length_cons] at hk
        obtain ⟨z4, z5, e⟩ := inner_eq (l := l) (rs := rwsM l k) (x1 := some (.d (rowsD (rwsM l k)))) (x2 := some (.d d)) (x4 := y4) (x5 := y5) (S := S') (by omega) (fun r hr => by rw [rwsM_len hr]; omega) (Nat.le_trans (rwsM_many (k + 1)) (pow_small hl (by omega)))
        refine ⟨[some (.d (rowD l)), some (.d (rowsD (rwsM l k))), some (.d d), y3, y4, y5], [some (.d (rowD l)), some (.d (rowsD (rwsM l (k + 1)))), some (.d d), some (.d (rowsD (rwsM l (k + 1)))), z4, z5], S', rfl, ?_, k + 1, _, _, _, _, by omega, rfl, rfl⟩
        refine (seq_nx (ρ1 := [some (.d (rowD l)), some (.d (rowsD (rwsM l k))), some (.d d), some (.d (.list [])), y4, y5]) (S1 := S') (by simp [sz])).trans ?_
        refine (seq_nx (for_of (xs := (rwsM l k).map rowD) (S1 := S') (by simp [rowsD]) e)).trans ?_
        simp
        rfl) (xs := (List.range l.length).map fun i => .int (i : Nat)) (ρ := [some (.d (rowD l)), some (.d (rowsD [[]])), none, none, none, none]) (S := S) ⟨0, none, none, none, none, by simp, rfl, rfl⟩
    obtain ⟨k, y2, y3, y4, y5, hk, rfl, rfl⟩ := h
    have hk : k = l.length := by simpa using hk
    subst hk
    exact ⟨y2, y3, y4, y5, e⟩
  obtain ⟨y2, y3, y4, y5, e⟩ := houter
  have hr : F__law_rows [.d (rowD l)] S = retC S.length (.w (.d (rowsD (rwsM l l.length)))) S := by
    refine den_rt rfl ?_
    unfold b__law_rows
    refine (seq_nx (ρ1 := [some (.d (rowD l)), some (.d (rowsD [[]])), none, none, none, none]) (S1 := S) ?_).trans ?_
    · simp [sz, rowsD, rowD]
    · refine (seq_nx (for_of (S1 := S) (r1_of (j := (l.length : Int)) (S1 := S) ?_ (inB_nat (by omega))) (by rw [Int.toNat_natCast, upTo_nat]; exact e))).trans ?_
      · simp [rowD]
      · simp
  rw [hr, retC_d, List.take_of_length_le (Nat.le_refl _)]
end K87

set_option Elab.async false
set_option linter.all false
set_option maxRecDepth 100000
set_option maxHeartbeats 4000000
/-! What the program's functions give, by the order of the sizes alone. -/
namespace K87
open PySem L2 DL Ct
/-- the order in a row -/
def lx (xs : List Int) (i j : Nat) : Bool := match xs[i]?, xs[j]? with
  | some a, some b => decide (a < b)
  | _, _ => false
theorem lx_at {xs : List Int} {i j : Nat} (hi : i < xs.length) (hj : j < xs.length) : lx xs i j = decide (xs[i] < xs[j]) := by
  unfold lx
  rw [List.getElem?_eq_getElem hi, List.getElem?_eq_getElem hj]
theorem at_row {xs : List Int} {i : Nat} (h : i < xs.length) : atI (xs.map PyData.int) (i : Int) = some (.int xs[i]) := by
  rw [atI_nat' (by rw [List.length_map]; exact h), List.getElem_map]
def ntD (l : List Nat) : List D := l.map fun i : Nat => .int (i : Int)
theorem look_eq {xs : List Int} {p : Nat} {S : Sto} (h : p < xs.length) : F_look_place [.d (rowD xs), .d (.int (p : Int))] S = some (.w (.d .none), S) := by
  have h1 : (p : Int) < (xs.length : Int) := by omega
  simp [F_look_place, b_look_place, rowD, h1, h, bNev]
def btw (a b : Nat) : List Nat := List.range' (min a b + 1) (max a b - (min a b + 1))
theorem upTo_range (a n : Nat) : DL.upTo (a : Int) n = ntD (List.range' a n) := by
  unfold DL.upTo ntD
  rw [List.range'_eq_map_range, List.map_map]
  refine List.map_congr_left fun i _ => ?_
  show PyData.int _ = PyData.int _
  congr 1
theorem between_eq {a b : Nat} {S : Sto} (ha : a < 1000) (hb : b < 1000) : F_between [.d (.int (a : Int)), .d (.int (b : Int))] S = some (.fr (ntD (btw a b)), S) := by
  have e1 : (if (b : Int) < (a : Int) then (b : Int) else (a : Int)) = ((min a b : Nat) : Int) := by split <;> omega
  have e2 : (if (b : Int) > (a : Int) then (b : Int) else (a : Int)) = ((max a b : Nat) : Int) := by split <;> omega
  have e3 : (((max a b : Nat) : Int) - (((min a b : Nat) : Int) + 1)).toNat = max a b - (min a b + 1) := by omega
  have h1 : inB (((min a b : Nat) : Int) + 1) = true := inB_nat (n := min a b + 1) (by omega)
  have h2 : inB ((max a b : Nat) : Int) = true := inB_nat (by omega)
  have h3 : max a b - (min a b + 1) ≤ 2 ^ 24 := by omega
  have hu := upTo_range (min a b + 1) (max a b - (min a b + 1))
  have hm1 : kMin [.d (.int (a : Int)), .d (.int (b : Int))] S = some (.w (.d (.int ((min a b : Nat) : Int))), S) := by rw [kMin2, e1]
  have hm2 : kMax [.d (.int (a : Int)), .d (.int (b : Int))] S = some (.w (.d (.int ((max a b : Nat) : Int))), S) := by rw [kMax2, e2]
  unfold F_between b_between
  refine (den_rt (r := .fr (ntD (btw a b))) (S1 := S) rfl ?_).trans (by rw [retC_fr, List.take_of_length_le (Nat.le_refl _)])
  have : eRg2 (eAdd (eN kMin (aCons (eVar 0) (aCons (eVar 1) aNil))) (eC (.int 1))) (eN kMax (aCons (eVar 0) (aCons (eVar 1) aNil))) [some (.d (.int (a : Int))), some (.d (.int (b : Int)))] S = some (.fr (ntD (btw a b)), S) := by
    have g1 : (eN kMin (aCons (eVar 0) (aCons (eVar 1) aNil))) [some (.d (.int (a : Int))), some (.d (.int (b : Int)))] S = some (.w (.d (.int ((min a b : Nat) : Int))), S) := hm1
    have g2 : (eN kMax (aCons (eVar 0) (aCons (eVar 1) aNil))) [some (.d (.int (a : Int))), some (.d (.int (b : Int)))] S = some (.w (.d (.int ((max a b : Nat) : Int))), S) := hm2
    have g3 : (eAdd (eN kMin (aCons (eVar 0) (aCons (eVar 1) aNil))) (eC (.int 1))) [some (.d (.int (a : Int))), some (.d (.int (b : Int)))] S = some (.w (.d (.int (((min a b : Nat) : Int) + 1))), S) := by
      rw [eAdd_, g1]
      rfl
    rw [rg2_of g3 g2 h1 h2 (by rw [e3]; exact h3), e3]
    have e4 : (((min a b : Nat) : Int) + 1) = ((min a b + 1 : Nat) : Int) := rfl
    rw [e4, hu]
    rfl
  show bRet _ [some (.d (.int (a : Int))), some (.d (.int (b : Int)))] S = _
  rw [bRet_, this]
  rfl
def abv (lt : Nat → Nat → Bool) (a b : Nat) : Bool := (btw a b ++ [b]).all fun p => lt p a
theorem btw_mem {a b p : Nat} (h : p ∈ btw a b ++ [b]) : p ≤ max a b := by
  rcases List.mem_append.mp h with h | h
  · unfold btw at h
    have := List.mem_range'.mp h
    obtain ⟨i, h1, h2⟩ := this
    omega
  · rw [List.mem_singleton.mp h]; omega
theorem filterMap_all {α β : Type} (f : α → β) (l : List α) : l.filterMap (fun x => some (f x)) = l.map f := by
  induction l with
  | nil => rfl
  | cons x xs ih => simp
theorem blsD_map {α : Type} (f : α → Bool) : ∀ l : List α, blsD (l.map fun x => .bool (f x)) = some (l.map f)
  | [] => rfl
  | x :: l => by
    rw [List.map_cons]
    show (blsD (l.map fun x => .bool (f x))).map (f x :: ·) = _
    rw [blsD_map f l]
    rfl
def unN : D → Nat
  | .int i => i.toNat
  | _ => 0
theorem above_eq {xs : List Int} {a b : Nat} {S : Sto} (ha : a < xs.length) (hb : b < xs.length) (hn : xs.length < 1000) : F_is_above [.d (rowD xs), .d (.int (a : Int)), .d (.int (b : Int))] S = some (.w (.d (.bool (abv (lx xs) a b))), S) := by
  have hbt := between_eq (a := a) (b := b) (S := S) (by omega) (by omega)
  have hlen : (btw a b).length + 1 ≤ 1000000 := by unfold btw; rw [List.length_range']; omega
  have hlc := lcL_map (gd := gN 3) (t := bYes) (el := eLt (eIx (eVar 0) (eVar 3)) (eIx (eVar 0) (eVar 1))) (ρ := [some (.d (rowD xs)), some (.d (.int (a : Int))), some (.d (.int (b : Int))), none]) (S := S)
    (fun d => some (.bool (lx xs (unN d) a))) (xs := ntD (btw a b ++ [b])) [] (fun d hd => by
      obtain ⟨p, hp, rfl⟩ := List.mem_map.mp hd
      have hpl : p < xs.length := by have := btw_mem hp; omega
      refine ⟨[some (.d (rowD xs)), some (.d (.int (a : Int))), some (.d (.int (b : Int))), some (.d (.int (p : Int)))], rfl, .inl ⟨_, .w (.d (.bool (lx xs p a))), rfl, ?_, rfl, ?_⟩⟩
      · rw [lx_at hpl ha]
        simp [rowD, at_row hpl, at_row ha]
      · simp [unN]) (sz (by unfold ntD; rw [List.length_map, List.length_append]; simpa using hlen))
  have e1 : (ntD (btw a b ++ [b])).filterMap (fun d => some (PyData.bool (lx xs (unN d) a))) = (btw a b ++ [b]).map fun p => PyData.bool (lx xs p a) := by
    rw [filterMap_all]
    unfold ntD
    rw [List.map_map]
    refine List.map_congr_left fun p _ => ?_
    show PyData.bool (lx xs (unN (.int (p : Int))) a) = _
    simp [unN]
  rw [e1] at hlc
  have hall : oAll (.list ((btw a b ++ [b]).map fun p => PyData.bool (lx xs p a))) = some (.bool (abv (lx xs) a b)) := by
    unfold oAll
    simp only [blsD_map, Option.bind_some]
    unfold abv
    show some (PyData.bool _) = _
    rw [List.all_map]
    rfl
  have hcat : (ntD (btw a b)) ++ [PyData.int (b : Int)] = ntD (btw a b ++ [b]) := by unfold ntD; rw [List.map_append]; rfl
  have hsz : (ntD (btw a b)).length + 1 ≤ sizeLine := sz (by unfold ntD; rw [List.length_map]; exact hlen)
  have h1 : 1 ≤ sizeLine := by decide
  unfold F_is_above b_is_above
  simp only [den_3, bRet_, eN_, aCons_, aNil_, eLc_, iSq_, eAdd_, eLst_]
  simp [hbt, h1, hsz, hcat]
  have hw : wipeE [some (.d (rowD xs)), some (.d (.int (a : Int))), some (.d (.int (b : Int))), none] [3] = [some (.d (rowD xs)), some (.d (.int (a : Int))), some (.d (.int (b : Int))), none] := rfl
  rw [hw, hlc, List.nil_append]
  generalize (btw a b ++ [b]).map (fun p => PyData.bool (lx xs p a)) = L at hall
  simp [hall]
/-! holders -/
def hld (n : Nat) (lt : Nat → Nat → Bool) (p : Nat) : List Nat := (List.range n).filter fun o => o != p && abv lt o p
theorem filterMap_if {α β : Type} (c : α → Bool) (f : α → β) (l : List α) : l.filterMap (fun x => if c x then some (f x) else none) = (l.filter c).map f := by
  induction l with
  | nil => rfl
  | cons x xs ih =>
    rw [List.filterMap_cons]
    by_cases h : c x = true
    · rw [if_pos h, List.filter_cons_of_pos h, ih]; rfl
    · rw [if_neg h, List.filter_cons_of_neg h, ih]
theorem rng_nat {n : Nat} (l : List Nat) : l.map (fun i : Nat => PyData.int (i : Int)) = ntD l := rfl
theorem holders_eq {xs : List Int} {p : Nat} {S : Sto} (hp : p < xs.length) (hn : xs.length < 1000) : F_holders [.d (rowD xs), .d (.int (p : Int))] S = some (.fr (ntD (hld xs.length (lx xs) p)), S) := by
  have hlc := lcL_map (gd := gN 2) (t := bAnd (bE (eNe (eVar 2) (eVar 1))) (bE (eN F_is_above (aCons (eVar 0) (aCons (eVar 2) (aCons (eVar 1) aNil)))))) (el := eVar 2) (ρ := [some (.d (rowD xs)), some (.d (.int (p : Int))), none]) (S := S)
    (fun d => if (unN d != p && abv (lx xs) (unN d) p) then some (.int ((unN d : Nat) : Int)) else none) (xs := ntD (List.range xs.length)) [] (fun d hd => by
      obtain ⟨o, ho, rfl⟩ := List.mem_map.mp hd
      have ho : o < xs.length := List.mem_range.mp ho
      have hab := above_eq (S := S) ho hp hn
      refine ⟨[some (.d (rowD xs)), some (.d (.int (p : Int))), some (.d (.int (o : Int)))], rfl, ?_⟩
      have hu : unN (.int (o : Int)) = o := by simp [unN]
      rw [hu]
      by_cases e1 : o = p
      · refine .inr ⟨?_, if_neg (by simp [e1])⟩
        simp [e1]
      · have e2 : ¬ ((o : Int) = (p : Int)) := by omega
        cases e3 : abv (lx xs) o p with
        | true => refine .inl ⟨_, .w (.d (.int (o : Int))), by simp [e2, hab, e3], rfl, rfl, by simp [e1]⟩
        | false => refine .inr ⟨by simp [e2, hab, e3], by simp⟩) (sz (by unfold ntD; rw [List.length_map, List.length_range]; simp; omega))
  have e1 : (ntD (List.range xs.length)).filterMap (fun d => if (unN d != p && abv (lx xs) (unN d) p) then some (PyData.int ((unN d : Nat) : Int)) else none) = ntD (hld xs.length (lx xs) p) := by
    unfold ntD hld
    rw [List.filterMap_map, ← filterMap_if]
    congr 1
  rw [e1, List.nil_append] at hlc
  refine (den_rt (r := .fr (ntD (hld xs.length (lx xs) p))) (S1 := S) rfl ?_).trans (by rw [retC_fr, List.take_of_length_le (Nat.le_refl _)])
  unfold b_holders
  refine (seq_nx (ρ1 := [some (.d (rowD xs)), some (.d (.int (p : Int))), none]) (S1 := S) ?_).trans ?_
  · simp [look_eq (S := S) hp]
  · have e2 : iR1 (aCons (eN kLen (aCons (eVar 0) aNil)) aNil) [some (.d (rowD xs)), some (.d (.int (p : Int))), none] S = some (ntD (List.range xs.length), S) := by
      rw [r1_of (j := (xs.length : Int)) (S1 := S) (by simp [rowD]) (inB_nat (by omega)), Int.toNat_natCast, upTo_nat]
      rfl
    rw [bRet_, eLc_, e2, Option.bind_some]
    have hw : wipeE [some (.d (rowD xs)), some (.d (.int (p : Int))), none] [2] = [some (.d (rowD xs)), some (.d (.int (p : Int))), none] := rfl
    rw [hw, hlc]
    rfl
theorem greatest_eq {xs : List Int} {p : Nat} {S : Sto} (hp : p < xs.length) (hn : xs.length < 1000) : F_greatest_depth [.d (rowD xs), .d (.int (p : Int))] S = some (.w (.d (.int ((hld xs.length (lx xs) p).length : Nat))), S) := by
  have h := holders_eq (S := S) hp hn
  unfold F_greatest_depth b_greatest_depth
  simp [h, ntD]
theorem both_eq {xs : List Int} {a b : Nat} {S : Sto} (ha : a < xs.length) (hb : b < xs.length) : F_look_both [.d (rowD xs), .d (.int (a : Int)), .d (.int (b : Int))] S = some (.w (.d .none), S) := by
  unfold F_look_both b_look_both
  simp [look_eq (S := S) ha, look_eq (S := S) hb]
def fewM (lt : Nat → Nat → Bool) (a b : Nat) : D := if a != b && abv lt b a then .int ((((b : Int) - (a : Int)).natAbs : Nat) : Int) else .none
theorem fewest_eq {xs : List Int} {a b : Nat} {S : Sto} (ha : a < xs.length) (hb : b < xs.length) (hn : xs.length < 1000) : F_fewest_moves [.d (rowD xs), .d (.int (a : Int)), .d (.int (b : Int))] S = some (.w (.d (fewM (lx xs) a b)), S) := by
  have h1 := both_eq (S := S) ha hb
  have h2 := above_eq (S := S) hb ha hn
  unfold F_fewest_moves b_fewest_moves
  by_cases e : a = b
  · subst e
    simp [h1, fewM]
  · have e2 : ¬ ((a : Int) = (b : Int)) := by omega
    cases e3 : abv (lx xs) b a <;> simp [h1, h2, e2, e, e3, fewM]
/-! distances -/
def dUp (n : Nat) (lt : Nat → Nat → Bool) (b k : Nat) : Option Nat := ((List.range (n - 1 - b)).find? fun j => lt k (b + 1 + j)).map (· + 1)
def dDn (lt : Nat → Nat → Bool) (b k : Nat) : Option Nat := ((List.range b).find? fun j => lt k (b - 1 - j)).map (· + 1)
def opD : Option Nat → D
  | none => .none
  | some d => .int (d : Int)
def wB : SD := (bSeq (bIf (bE (eGt (eIx (eVar 0) (eVar 4)) (eVar 3))) (bRet (eN kAbs (aCons (eSub (eVar 4) (eVar 1)) aNil))) bNil) (bAug 4 (k2D (oI fun i j => i + j)) (eVar 2)))
def wT : BD := (bE (eCh kLe kLt (eC (.int 0)) (eVar 4) (eN kLen (aCons (eVar 0) aNil))))
@[reducible] def wEn (xs : List Int) (b : Nat) (st sz pl : Int) : En := [some (.d (rowD xs)), some (.d (.int (b : Int))), some (.d (.int st)), some (.d (.int sz)), some (.d (.int pl))]
theorem wT_eq {xs : List Int} {b : Nat} {st sz pl : Int} {S : Sto} : wT (wEn xs b st sz pl) S = some (decide (0 ≤ pl) && decide (pl < (xs.length : Int)), S) := by
  unfold wT
  by_cases h : 0 ≤ pl
  · simp [rowD, h]
  · simp [rowD, h]
theorem wB_rt {xs : List Int} {b p : Nat} {st sz : Int} {S : Sto} (hp : p < xs.length) (h : sz < xs[p]) : wB (wEn xs b st sz (p : Int)) S = some (.rt (.w (.d (.int ((((p : Int) - (b : Int)).natAbs : Nat) : Int)))) S) := by
  have hat := at_row hp
  unfold wB
  simp [rowD, hat, h]
theorem wB_nx {xs : List Int} {b p : Nat} {st sz : Int} {S : Sto} (hp : p < xs.length) (h : ¬ sz < xs[p]) : wB (wEn xs b st sz (p : Int)) S = some (.nx (wEn xs b st sz ((p : Int) + st)) S) := by
  have hat := at_row hp
  unfold wB
  simp [rowD, hat, h]
theorem wh_up {xs : List Int} {b k : Nat} {S : Sto} (hk : k < xs.length) : ∀ (n fl j : Nat), n < fl → b + 1 + j + n = xs.length → 
    whL wT wB fl (wEn xs b 1 xs[k] ((b + 1 + j : Nat) : Int)) S =
      match (List.range' j n).find? fun j => lx xs k (b + 1 + j) with
      | some j => some (.rt (.w (.d (.int ((j + 1 : Nat) : Int)))) S)
      | none => some (.nx (wEn xs b 1 xs[k] (xs.length : Int)) S)
  | 0, fl + 1, j, _, hj => by
    have e : b + 1 + j = xs.length := by omega
    rw [e]
    refine whL_end ?_
    rw [wT_eq, decide_eq_false (p := (xs.length : Int) < (xs.length : Int)) (by omega), Bool.and_false]
  | n + 1, fl + 1, j, hf, hj => by
    have ih := wh_up (b := b) (k := k) (S := S) hk n fl (j + 1) (by omega) (by omega)
    have hl : b + 1 + j < xs.length := by omega
    have hlx := lx_at hk hl
    have ht : wT (wEn xs b 1 xs[k] ((b + 1 + j : Nat) : Int)) S = some (true, S) := by
      rw [wT_eq, decide_eq_true (by omega), decide_eq_true (by omega)]; rfl
    rw [List.range'_succ, List.find?_cons, hlx]
    by_cases hc : xs[k] < xs[b + 1 + j]
    · rw [decide_eq_true hc, whL_rt ht (wB_rt hl hc)]
      have : (((b + 1 + j : Nat) : Int) - (b : Int)).natAbs = j + 1 := by omega
      rw [this]
    · rw [decide_eq_false hc, whL_nx ht (wB_nx hl hc)]
      exact ih
theorem wh_dn {xs : List Int} {b k : Nat} {S : Sto} (hk : k < xs.length) (hb : b ≤ xs.length) : ∀ (n fl j : Nat), n < fl → j + n = b → 
    whL wT wB fl (wEn xs b (-1) xs[k] ((b : Int) - 1 - (j : Int))) S =
      match (List.range' j n).find? fun j => lx xs k (b - 1 - j) with
      | some j => some (.rt (.w (.d (.int ((j + 1 : Nat) : Int)))) S)
      | none => some (.nx (wEn xs b (-1) xs[k] (-1)) S)
  | 0, fl + 1, j, _, hj => by
    have e : (b : Int) - 1 - (j : Int) = -1 := by omega
    rw [e]
    refine whL_end ?_
    rw [wT_eq]
    rfl
  | n + 1, fl + 1, j, hf, hj => by
    have ih := wh_dn (b := b) (k := k) (S := S) hk hb n fl (j + 1) (by omega) (by omega)
    have hl : b - 1 - j < xs.length := by omega
    have hlx := lx_at hk hl
    have ep : (b : Int) - 1 - (j : Int) = ((b - 1 - j : Nat) : Int) := by omega
    rw [ep]
    have ht : wT (wEn xs b (-1) xs[k] ((b - 1 - j : Nat) : Int)) S = some (true, S) := by
      rw [wT_eq, decide_eq_true (by omega), decide_eq_true (by omega)]; rfl
    rw [List.range'_succ, List.find?_cons, hlx]
    by_cases hc : xs[k] < xs[b - 1 - j]
    · rw [decide_eq_true hc, whL_rt ht (wB_rt hl hc)]
      have : (((b - 1 - j : Nat) : Int) - (b : Int)).natAbs = j + 1 := by omega
      rw [this]
    · rw [decide_eq_false hc, whL_nx ht (wB_nx hl hc)]
      have e2 : ((b - 1 - j : Nat) : Int) + -1 = (b : Int) - 1 - ((j + 1 : Nat) : Int) := by omega
      rw [e2]
      exact ih
theorem far_up {xs : List Int} {b k : Nat} {S : Sto} (hb : b < xs.length) (hk : k < xs.length) (hn : xs.length < 1000) : F_distance_to_bigger [.d (rowD xs), .d (.int (b : Int)), .d (.int 1), .d (.int xs[k])] S = some (.w (.d (opD (dUp xs.length (lx xs) b k))), S) := by
  obtain ⟨fl, ef, hfl⟩ : ∃ fl, fuel = fl ∧ 1000 ≤ fl := ⟨_, rfl, by decide⟩
  have h := wh_up (b := b) (S := S) hk (xs.length - 1 - b) fl 0 (by omega) (by omega)
  refine (den_rt (r := .w (.d (opD (dUp xs.length (lx xs) b k)))) (S1 := S) rfl ?_).trans (by rw [retC_d, List.take_of_length_le (Nat.le_refl _)])
  unfold b_distance_to_bigger
  rw [ef]
  refine (seq_nx (ρ1 := wEn xs b 1 xs[k] ((b + 1 + 0 : Nat) : Int)) (S1 := S) ?_).trans ?_
  · simp
  · rw [← List.range_eq_range'] at h
    unfold dUp
    cases e : (List.range (xs.length - 1 - b)).find? fun j => lx xs k (b + 1 + j) with
    | none =>
      rw [e] at h
      exact (seq_nx (by rw [bWh_]; exact h)).trans rfl
    | some j =>
      rw [e] at h
      exact seq_rt (by rw [bWh_]; exact h)
theorem far_dn {xs : List Int} {b k : Nat} {S : Sto} (hb : b < xs.length) (hk : k < xs.length) (hn : xs.length < 1000) : F_distance_to_bigger [.d (rowD xs), .d (.int (b : Int)), .d (.int (-1)), .d (.int xs[k])] S = some (.w (.d (opD (dDn (lx xs) b k))), S) := by
  obtain ⟨fl, ef, hfl⟩ : ∃ fl, fuel = fl ∧ 1000 ≤ fl := ⟨_, rfl, by decide⟩
  have h := wh_dn (b := b) (S := S) hk (by omega) b fl 0 (by omega) (by omega)
  refine (den_rt (r := .w (.d (opD (dDn (lx xs) b k)))) (S1 := S) rfl ?_).trans (by rw [retC_d, List.take_of_length_le (Nat.le_refl _)])
  unfold b_distance_to_bigger
  rw [ef]
  refine (seq_nx (ρ1 := wEn xs b (-1) xs[k] ((b : Int) - 1 - ((0 : Nat) : Int))) (S1 := S) ?_).trans ?_
  · simp [Int.sub_eq_add_neg]
  · rw [← List.range_eq_range'] at h
    unfold dDn
    cases e : (List.range b).find? fun j => lx xs k (b - 1 - j) with
    | none =>
      rw [e] at h
      exact (seq_nx (by rw [bWh_]; exact h)).trans rfl
    | some j =>
      rw [e] at h
      exact seq_rt (by rw [bWh_]; exact h)
end K87

set_option Elab.async false
set_option linter.all false
set_option maxRecDepth 100000
set_option maxHeartbeats 4000000
/-! Fractions. -/
namespace K87
open PySem L2 DL Ct
def red (x y : Nat) : Nat × Nat := (x / Nat.gcd x y, y / Nat.gcd x y)
def frD (p : Nat × Nat) : D := .tuple [.int (p.1 : Int), .int (p.2 : Int)]
def gT0 : BD := bE (eGt (eVar 1) (eC (.int 0)))
@[reducible] def gEn (a b : Nat) : En := [some (.d (.int (a : Int))), some (.d (.int (b : Int)))]
theorem gT0_eq {a b : Nat} {S : Sto} : gT0 (gEn a b) S = some (decide (0 < b), S) := by
  unfold gT0
  by_cases h : 0 < b
  · simp [h]
  · simp [h]
theorem gcd_wh {B : SD} {S : Sto} (hB : ∀ a b : Nat, 0 < b → B (gEn a b) S = some (.nx (gEn b (a % b)) S)) : ∀ (k fl a b : Nat), b < 2 ^ k → 2 * k + 1 ≤ fl → whL gT0 B fl (gEn a b) S = some (.nx (gEn (Nat.gcd a b) 0) S)
  | 0, fl + 1, a, b, hb, _ => by
    have : b = 0 := by simpa using hb
    subst this
    rw [whL_end (S1 := S) (by rw [gT0_eq]; rfl), Nat.gcd_zero_right]
  | k + 1, fl + 2, a, b, hb, hf => by
    by_cases h0 : b = 0
    · subst h0
      rw [whL_end (S1 := S) (by rw [gT0_eq]; rfl), Nat.gcd_zero_right]
    have hp : 0 < b := Nat.pos_of_ne_zero h0
    rw [whL_nx (S1 := S) (by rw [gT0_eq, decide_eq_true hp]) (hB a b hp)]
    have hg : Nat.gcd a b = Nat.gcd b (a % b) := by rw [Nat.gcd_comm b, ← Nat.gcd_rec, Nat.gcd_comm]
    by_cases hr : a % b = 0
    · rw [hr] at hg ⊢
      rw [whL_end (S1 := S) (by rw [gT0_eq]; rfl), hg, Nat.gcd_zero_right]
    have hrp : 0 < a % b := Nat.pos_of_ne_zero hr
    rw [whL_nx (S1 := S) (by rw [gT0_eq, decide_eq_true hrp]) (hB b (a % b) hrp)]
    have hg2 : Nat.gcd b (a % b) = Nat.gcd (a % b) (b % (a % b)) := by rw [Nat.gcd_comm (a % b), ← Nat.gcd_rec, Nat.gcd_comm]
    have hlt : b % (a % b) < 2 ^ k := by
      have h1 := Nat.mod_lt b hrp
      have h2 := Nat.mod_lt a hp
      have h3 := Nat.div_add_mod b (a % b)
      have h4 : 1 ≤ b / (a % b) := Nat.div_pos (Nat.le_of_lt h2) hrp
      have h5 : a % b ≤ (a % b) * (b / (a % b)) := Nat.le_mul_of_pos_right _ h4
      rw [Nat.pow_succ] at hb
      omega
    rw [gcd_wh hB k fl _ _ hlt (by omega), hg, hg2]
theorem toN_div (x g : Nat) : (x : Int) / (g : Int) = ((x / g : Nat) : Int) := by simp
theorem gcd_eq {a b : Nat} {S : Sto} (hb : b < 2 ^ 1000) : F_gcd [.d (.int (a : Int)), .d (.int (b : Int))] S = some (.w (.d (.int ((Nat.gcd a b : Nat) : Int))), S) := by
  obtain ⟨fl, ef, hfl⟩ : ∃ fl, fuel = fl ∧ 10000 ≤ fl := ⟨_, rfl, by decide⟩
  have h := gcd_wh (B := bPar 0 1 (aCons (eVar 1) (aCons (eMod (eVar 0) (eVar 1)) aNil))) (S := S) (fun a b h => by
    simp [h]) 1000 fl a b hb (by omega)
  refine (den_rt (r := .w (.d (.int ((Nat.gcd a b : Nat) : Int)))) (S1 := S) rfl ?_).trans (by rw [retC_d, List.take_of_length_le (Nat.le_refl _)])
  unfold b_gcd
  rw [ef]
  exact (seq_nx (by rw [bWh_]; exact h)).trans rfl
theorem div_eq' {a b : Nat} {S : Sto} (hb : b < 2 ^ 1000) : F__law_divisor [.d (.int (a : Int)), .d (.int (b : Int))] S = some (.w (.d (.int ((Nat.gcd a b : Nat) : Int))), S) := by
  obtain ⟨fl, ef, hfl⟩ : ∃ fl, fuel = fl ∧ 10000 ≤ fl := ⟨_, rfl, by decide⟩
  have h := gcd_wh (B := bPar 0 1 (aCons (eVar 1) (aCons (eMod (eN kInt (aCons (eVar 0) aNil)) (eVar 1)) aNil))) (S := S) (fun a b h => by
    simp [h]) 1000 fl a b hb (by omega)
  refine (den_rt (r := .w (.d (.int ((Nat.gcd a b : Nat) : Int)))) (S1 := S) rfl ?_).trans (by rw [retC_d, List.take_of_length_le (Nat.le_refl _)])
  unfold b__law_divisor
  rw [ef]
  exact (seq_nx (by rw [bWh_]; exact h)).trans rfl
theorem cDiv_g {x y : Nat} (hy : 0 < y) (hb : y < 2 ^ 1000) (z : Int) : cDiv z ((Nat.gcd x y : Nat) : Int) = true := by
  have hg : 0 < Nat.gcd x y := Nat.gcd_pos_of_pos_right _ hy
  have hl : Nat.gcd x y ≤ y := Nat.gcd_le_right _ hy
  exact cDiv_ok (by omega) (by rw [Int.natAbs_natCast]; exact Nat.lt_of_le_of_lt hl hb)
theorem red_eq {x y : Nat} {S : Sto} (hy : 0 < y) (hb : y < 2 ^ 1000) : F_reduced [.d (.int (x : Int)), .d (.int (y : Int))] S = some (.w (.d (frD (red x y))), S) := by
  have h := gcd_eq (a := x) (S := S) hb
  have h2 : 2 ≤ sizeLine := by decide
  unfold F_reduced b_reduced
  simp [h, cDiv_g hy hb, h2, frD, red]
theorem part_eq {x y : Nat} {S : Sto} (hy : 0 < y) (hb : y < 2 ^ 1000) : F__law_part [.d (.int (x : Int)), .d (.int (y : Int))] S = some (.w (.d (frD (red x y))), S) := by
  have h := div_eq' (a := x) (S := S) hb
  have h2 : 2 ≤ sizeLine := by decide
  unfold F__law_part b__law_part
  simp [h, cDiv_g hy hb, h2, frD, red]
/-! ### what red keeps -/
theorem red_pos {x y : Nat} (hy : 0 < y) : 0 < (red x y).2 := Nat.div_pos (Nat.gcd_le_right _ hy) (Nat.gcd_pos_of_pos_right _ hy)
theorem red_cross {x y : Nat} : (red x y).1 * y = x * (red x y).2 := by
  unfold red
  have h1 := Nat.gcd_dvd_left x y
  have h2 := Nat.gcd_dvd_right x y
  generalize Nat.gcd x y = g at h1 h2
  obtain ⟨u, rfl⟩ := h1
  obtain ⟨v, rfl⟩ := h2
  by_cases hg : g = 0
  · subst hg; simp
  · have hp : 0 < g := Nat.pos_of_ne_zero hg
    simp only [Nat.mul_div_cancel_left _ hp]
    rw [Nat.mul_left_comm, Nat.mul_assoc]
theorem red_same {x y x' y' : Nat} (hy : 0 < y) (hy' : 0 < y') (h : x * y' = x' * y) : red x y = red x' y' := by
  have hg := Nat.gcd_pos_of_pos_right x hy
  have hg' := Nat.gcd_pos_of_pos_right x' hy'
  unfold red
  have c1 := Nat.coprime_div_gcd_div_gcd hg
  have c2 := Nat.coprime_div_gcd_div_gcd hg'
  obtain ⟨u, hu⟩ := Nat.gcd_dvd_left x y
  obtain ⟨v, hv⟩ := Nat.gcd_dvd_right x y
  obtain ⟨u', hu'⟩ := Nat.gcd_dvd_left x' y'
  obtain ⟨v', hv'⟩ := Nat.gcd_dvd_right x' y'
  have e1 : x / Nat.gcd x y = u := by conv => lhs; arg 1; rw [hu]
                                      exact Nat.mul_div_cancel_left _ hg
  have e2 : y / Nat.gcd x y = v := by conv => lhs; arg 1; rw [hv]
                                      exact Nat.mul_div_cancel_left _ hg
  have e3 : x' / Nat.gcd x' y' = u' := by conv => lhs; arg 1; rw [hu']
                                          exact Nat.mul_div_cancel_left _ hg'
  have e4 : y' / Nat.gcd x' y' = v' := by conv => lhs; arg 1; rw [hv']
                                          exact Nat.mul_div_cancel_left _ hg'
  rw [e1, e2] at c1
  rw [e3, e4] at c2
  rw [e1, e2, e3, e4]
  generalize Nat.gcd x y = g at *
  generalize Nat.gcd x' y' = g' at *
  subst hu hv hu' hv'
  have hx : u * v' = u' * v := by
    have h2 : (g * g') * (u * v') = (g * g') * (u' * v) := by
      have a1 : (g * g') * (u * v') = g * u * (g' * v') := by rw [Nat.mul_assoc, Nat.mul_left_comm g', ← Nat.mul_assoc]
      have a2 : (g * g') * (u' * v) = g' * u' * (g * v) := by rw [Nat.mul_comm g g', Nat.mul_assoc, Nat.mul_left_comm g, ← Nat.mul_assoc]
      rw [a1, a2, h]
    exact Nat.eq_of_mul_eq_mul_left (Nat.mul_pos hg hg') h2
  have hv : v = v' := by
    apply Nat.dvd_antisymm
    · exact (Nat.Coprime.symm c1).dvd_of_dvd_mul_left ⟨u', by rw [hx, Nat.mul_comm]⟩
    · exact (Nat.Coprime.symm c2).dvd_of_dvd_mul_left ⟨u, by rw [← hx, Nat.mul_comm]⟩
  subst hv
  have hv0 : 0 < v := Nat.pos_of_ne_zero fun z => by subst z; simp at hy
  rw [Nat.eq_of_mul_eq_mul_right hv0 hx]
end K87

set_option Elab.async false
set_option linter.all false
set_option maxRecDepth 100000
set_option maxHeartbeats 4000000
/-! Sums of fractions: their order does not matter. -/
namespace K87
open PySem L2 DL Ct
def numM (M : Nat) (f : Nat × Nat) : Nat := f.1 * (M / f.2)
def sumM (M : Nat) (L : List (Nat × Nat)) : Nat := (L.map (numM M)).sum
structure okF (M : Nat) (f : Nat × Nat) : Prop where
  pos : 0 < f.2
  dvd : f.2 ∣ M
  le : f.1 < 2 ^ 50
theorem add_red {M X : Nat} {f : Nat × Nat} (hM : 0 < M) (hf : okF M f) : red ((red X M).1 * f.2 + f.1 * (red X M).2) ((red X M).2 * f.2) = red (X + numM M f) M := by
  have hq := red_pos (x := X) hM
  have hc := red_cross (x := X) (y := M)
  obtain ⟨c, hcM⟩ := hf.dvd
  have hd : M / f.2 = c := by rw [hcM]; exact Nat.mul_div_cancel_left _ hf.pos
  refine red_same (Nat.mul_pos hq hf.pos) hM ?_
  unfold numM
  rw [hd]
  generalize (red X M).1 = p at *
  generalize (red X M).2 = q at *
  have e1 : (p * f.2 + f.1 * q) * M = p * M * f.2 + f.1 * q * M := by rw [Nat.add_mul, Nat.mul_right_comm]
  rw [e1, hc]
  have e2 : f.1 * q * M = f.1 * q * (f.2 * c) := by rw [← hcM]
  rw [e2]
  simp only [Nat.add_mul, Nat.mul_add, Nat.mul_assoc, Nat.mul_comm, Nat.mul_left_comm]
theorem mean_red {M X many : Nat} (hM : 0 < M) (hm : 0 < many) : red (red X M).1 ((red X M).2 * many) = red X (M * many) := by
  have hq := red_pos (x := X) hM
  have hc := red_cross (x := X) (y := M)
  refine red_same (Nat.mul_pos hq hm) (Nat.mul_pos hM hm) ?_
  rw [← Nat.mul_assoc, hc, Nat.mul_assoc]
theorem red_le {X M : Nat} : (red X M).1 ≤ X ∧ (red X M).2 ≤ M := ⟨Nat.div_le_self _ _, Nat.div_le_self _ _⟩
theorem numM_le {M : Nat} {f : Nat × Nat} (hM : M < 2 ^ 50) (hf : okF M f) : numM M f ≤ 2 ^ 100 := by
  unfold numM
  have h1 := hf.le
  have h2 : M / f.2 ≤ M := Nat.div_le_self _ _
  have : f.1 * (M / f.2) ≤ 2 ^ 50 * 2 ^ 50 := Nat.mul_le_mul (by omega) (by omega)
  omega
theorem zero_one {M : Nat} (hM : 0 < M) : red 0 M = (0, 1) := by
  unfold red
  rw [Nat.gcd_zero_left, Nat.zero_div, Nat.div_self hM]
theorem lt1000 {x : Nat} (h : x ≤ 2 ^ 200) : x < 2 ^ 1000 := Nat.lt_of_le_of_lt h (Nat.pow_lt_pow_right (by decide) (by decide))
/-- one addition, by either of the two texts -/
theorem bounds {M X : Nat} {f : Nat × Nat} (hM : 0 < M) (hM2 : M < 2 ^ 50) (hX : X ≤ 2 ^ 130) (hf : okF M f) :
    cMul ((red X M).1 : Int) (f.2 : Int) = true ∧ cMul (f.1 : Int) ((red X M).2 : Int) = true ∧ cMul ((red X M).2 : Int) (f.2 : Int) = true ∧ cMul ((red X M).1 : Int) ((red X M).2 : Int) = true ∧ (red X M).2 * f.2 < 2 ^ 1000 := by
  have h1 := red_le (X := X) (M := M)
  have h2 := Nat.le_of_dvd hM hf.dvd
  have h3 := hf.le
  have k : ∀ x : Nat, x ≤ 2 ^ 200 → (x : Int).natAbs < 2 ^ 1000 := fun x h => by rw [Int.natAbs_natCast]; exact lt1000 h
  refine ⟨cMul_lt (k _ (by omega)) (k _ (by omega)), cMul_lt (k _ (by omega)) (k _ (by omega)), cMul_lt (k _ (by omega)) (k _ (by omega)), cMul_lt (k _ (by omega)) (k _ (by omega)), lt1000 ?_⟩
  have : (red X M).2 * f.2 ≤ 2 ^ 50 * 2 ^ 50 := Nat.mul_le_mul (by omega) (by omega)
  omega
def addB : SD := (bSet 1 (eN F_reduced (aCons (eAdd (eMul (eIx (eVar 1) (eC (.int 0))) (eVar 3)) (eMul (eVar 2) (eIx (eVar 1) (eC (.int 1))))) (aCons (eMul (eIx (eVar 1) (eC (.int 1))) (eVar 3)) aNil))))
theorem addB_eq {M X : Nat} {f : Nat × Nat} {S : Sto} {x0 : Option Sl} (hM : 0 < M) (hM2 : M < 2 ^ 50) (hX : X ≤ 2 ^ 130) (hf : okF M f) :
    addB [x0, some (.d (frD (red X M))), some (.d (.int (f.1 : Int))), some (.d (.int (f.2 : Int)))] S = some (.nx [x0, some (.d (frD (red (X + numM M f) M))), some (.d (.int (f.1 : Int))), some (.d (.int (f.2 : Int)))] S) := by
  obtain ⟨b1, b2, b3, _, b4⟩ := bounds hM hM2 hX hf
  have hr := red_eq (x := (red X M).1 * f.2 + f.1 * (red X M).2) (S := S) (Nat.mul_pos (red_pos hM) hf.pos) b4
  rw [add_red hM hf] at hr
  generalize red (X + numM M f) M = R at hr ⊢
  generalize red X M = Q at *
  unfold addB
  simp [frD, b1, b2, b3] at hr ⊢
  rw [hr]
  rfl
theorem sumM_cons {M : Nat} {f : Nat × Nat} {L : List (Nat × Nat)} : sumM M (f :: L) = numM M f + sumM M L := by simp [sumM]
theorem added_loop {M : Nat} {S : Sto} {x0 : Option Sl} (hM : 0 < M) (hM2 : M < 2 ^ 50) : ∀ (L : List (Nat × Nat)) (X : Nat) (x2 x3 : Option Sl), (∀ f ∈ L, okF M f) → X + L.length * 2 ^ 100 ≤ 2 ^ 130 →
    ∃ y2 y3, forL (gT [2, 3]) addB (L.map frD) [x0, some (.d (frD (red X M))), x2, x3] S = some (.nx [x0, some (.d (frD (red (X + sumM M L) M))), y2, y3] S)
  | [], X, x2, x3, _, _ => ⟨x2, x3, rfl⟩
  | f :: L, X, x2, x3, h, hb => by
    rw [List.length_cons, Nat.succ_mul] at hb
    have hf := h f (by simp)
    have hn := numM_le hM2 hf
    obtain ⟨y2, y3, e⟩ := added_loop (S := S) (x0 := x0) hM hM2 L (X + numM M f) (some (.d (.int (f.1 : Int)))) (some (.d (.int (f.2 : Int)))) (fun g hg => h g (List.mem_cons_of_mem _ hg)) (by omega)
    refine ⟨y2, y3, ?_⟩
    rw [List.map_cons, forL]
    have hg : gT [2, 3] (frD f) [x0, some (.d (frD (red X M))), x2, x3] = some [x0, some (.d (frD (red X M))), some (.d (.int (f.1 : Int))), some (.d (.int (f.2 : Int)))] := by simp [gT, frD, setAll]
    rw [hg, Option.bind_some, addB_eq hM hM2 (by omega) hf, Option.bind_some]
    show forL _ _ _ _ _ = _
    rw [e, sumM_cons, Nat.add_assoc]
theorem added_eq {M : Nat} {S : Sto} {L : List (Nat × Nat)} (hM : 0 < M) (hM2 : M < 2 ^ 50) (h : ∀ f ∈ L, okF M f) (hl : L.length ≤ 1000000) : F_added [.d (.list (L.map frD))] S = some (.w (.d (frD (red (sumM M L) M))), S) := by
  obtain ⟨y2, y3, e⟩ := added_loop (S := S) (x0 := some (.d (.list (L.map frD)))) hM hM2 L 0 none none h (by omega)
  rw [Nat.zero_add, zero_one hM] at e
  refine (den_rt (r := .w (.d (frD (red (sumM M L) M)))) (S1 := S) rfl ?_).trans (by rw [retC_d, List.take_of_length_le (Nat.le_refl _)])
  unfold b_added
  have h2 : 2 ≤ sizeLine := by decide
  refine (seq_nx (ρ1 := [some (.d (.list (L.map frD))), some (.d (frD (0, 1))), none, none]) (S1 := S) (by simp [h2, frD])).trans ?_
  refine (seq_nx (for_of (xs := L.map frD) (S1 := S) (by simp) e)).trans ?_
  simp
def laddB : SD := (bSet 2 (eN F__law_added (aCons (eVar 2) (aCons (eVar 3) aNil))))
theorem laddB_eq {M X : Nat} {f : Nat × Nat} {S : Sto} {x0 x1 : Option Sl} (hM : 0 < M) (hM2 : M < 2 ^ 50) (hX : X ≤ 2 ^ 130) (hf : okF M f) :
    laddB [x0, x1, some (.d (frD (red X M))), some (.d (frD f))] S = some (.nx [x0, x1, some (.d (frD (red (X + numM M f) M))), some (.d (frD f))] S) := by
  obtain ⟨b1, b2, b3, _, b4⟩ := bounds hM hM2 hX hf
  have hr := part_eq (x := (red X M).1 * f.2 + f.1 * (red X M).2) (S := S) (Nat.mul_pos (red_pos hM) hf.pos) b4
  rw [add_red hM hf] at hr
  generalize red (X + numM M f) M = R at hr ⊢
  generalize red X M = Q at *
  unfold laddB
  simp [frD, b1, b2, b3, F__law_added, b__law_added] at hr ⊢
  simp [hr]
theorem lsum_loop {M : Nat} {S : Sto} {x0 x1 : Option Sl} (hM : 0 < M) (hM2 : M < 2 ^ 50) : ∀ (L : List (Nat × Nat)) (X : Nat) (x3 : Option Sl), (∀ f ∈ L, okF M f) → X + L.length * 2 ^ 100 ≤ 2 ^ 130 →
    ∃ y3, forL (gN 3) laddB (L.map frD) [x0, x1, some (.d (frD (red X M))), x3] S = some (.nx [x0, x1, some (.d (frD (red (X + sumM M L) M))), y3] S)
  | [], X, x3, _, _ => ⟨x3, rfl⟩
  | f :: L, X, x3, h, hb => by
    rw [List.length_cons, Nat.succ_mul] at hb
    have hf := h f (by simp)
    have hn := numM_le hM2 hf
    obtain ⟨y3, e⟩ := lsum_loop (S := S) (x0 := x0) (x1 := x1) hM hM2 L (X + numM M f) (some (.d (frD f))) (fun g hg => h g (List.mem_cons_of_mem _ hg)) (by omega)
    refine ⟨y3, ?_⟩
    rw [List.map_cons, forL]
    have hg : gN 3 (frD f) [x0, x1, some (.d (frD (red X M))), x3] = some [x0, x1, some (.d (frD (red X M))), some (.d (frD f))] := rfl
    rw [hg, Option.bind_some, laddB_eq hM hM2 (by omega) hf, Option.bind_some]
    show forL _ _ _ _ _ = _
    rw [e, sumM_cons, Nat.add_assoc]
theorem sumM_le {M : Nat} (hM2 : M < 2 ^ 50) : ∀ L : List (Nat × Nat), (∀ f ∈ L, okF M f) → sumM M L ≤ L.length * 2 ^ 100
  | [], _ => Nat.zero_le _
  | f :: L, h => by
    have h1 := numM_le hM2 (h f (by simp))
    have h2 := sumM_le hM2 L fun g hg => h g (List.mem_cons_of_mem _ hg)
    rw [sumM_cons, List.length_cons, Nat.succ_mul]
    omega
theorem mean_eq {M many : Nat} {S : Sto} {L : List (Nat × Nat)} (hM : 0 < M) (hM2 : M < 2 ^ 50) (h : ∀ f ∈ L, okF M f) (hl : L.length ≤ 1000000) (hm : 0 < many) (hm2 : many < 2 ^ 50) :
    F__law_mean [.d (.list (L.map frD)), .d (.int (many : Int))] S = some (.w (.d (frD (red (sumM M L) (M * many)))), S) := by
  obtain ⟨y3, e⟩ := lsum_loop (S := S) (x0 := some (.d (.list (L.map frD)))) (x1 := some (.d (.int (many : Int)))) hM hM2 L 0 none h (by omega)
  rw [Nat.zero_add, zero_one hM] at e
  refine (den_rt (r := .w (.d (frD (red (sumM M L) (M * many))))) (S1 := S) rfl ?_).trans (by rw [retC_d, List.take_of_length_le (Nat.le_refl _)])
  unfold b__law_mean
  have h2 : 2 ≤ sizeLine := by decide
  refine (seq_nx (ρ1 := [some (.d (.list (L.map frD))), some (.d (.int (many : Int))), some (.d (frD (0, 1))), none]) (S1 := S) (by simp [h2, frD])).trans ?_
  refine (seq_nx (for_of (xs := L.map frD) (S1 := S) (by simp) e)).trans ?_
  have hs := red_le (X := sumM M L) (M := M)
  have hx := sumM_le hM2 L h
  have hb : (red (sumM M L) M).2 * many ≤ 2 ^ 50 * 2 ^ 50 := Nat.mul_le_mul (by omega) (by omega)
  have hr := part_eq (x := (red (sumM M L) M).1) (y := (red (sumM M L) M).2 * many) (S := S) (Nat.mul_pos (red_pos hM) hm) (lt1000 (by omega))
  rw [mean_red hM hm] at hr
  have hc : cMul ((red (sumM M L) M).2 : Int) (many : Int) = true := cMul_lt (by rw [Int.natAbs_natCast]; exact lt1000 (by omega)) (by rw [Int.natAbs_natCast]; exact lt1000 (by omega))
  generalize red (sumM M L) (M * many) = R at hr ⊢
  generalize red (sumM M L) M = Q at *
  simp [frD, hc] at hr ⊢
  simp [hr]
theorem sumM_perm {M : Nat} {L L' : List (Nat × Nat)} (h : L.Perm L') : sumM M L = sumM M L' := (h.map (numM M)).sum_nat
end K87

set_option Elab.async false
set_option linter.all false
set_option maxRecDepth 100000
set_option maxHeartbeats 4000000
/-! The chances. -/
namespace K87
open PySem L2 DL Ct
def f3 (m : Nat) : Option Nat → Option Nat → Nat × Nat
  | none, none => (1, 1)
  | none, some x => (x, m + x)
  | some x, none => (x, m + x)
  | some l, some r => (l * r * (2 * m + l + r), (m + l) * (m + r) * (m + l + r))
theorem cM {x y : Nat} (hx : x ≤ 2 ^ 200) (hy : y ≤ 2 ^ 200) : cMul (x : Int) (y : Int) = true := cMul_lt (by rw [Int.natAbs_natCast]; exact lt1000 hx) (by rw [Int.natAbs_natCast]; exact lt1000 hy)
theorem f3_eq {m : Nat} {l r : Option Nat} {S : Sto} (hm : m < 1000) (hl : ∀ x, l = some x → x < 1000) (hr : ∀ x, r = some x → x < 1000) : F_first_of_three [.d (.int (m : Int)), .d (opD l), .d (opD r)] S = some (.w (.d (frD (f3 m l r))), S) := by
  have h2 : 2 ≤ sizeLine := by decide
  cases l with
  | none =>
    cases r with
    | none => simp [F_first_of_three, b_first_of_three, opD, h2, frD, f3]
    | some x => simp [F_first_of_three, b_first_of_three, opD, h2, frD, f3]
  | some x =>
    have hx := hl x rfl
    cases r with
    | none => simp [F_first_of_three, b_first_of_three, opD, h2, frD, f3]
    | some y =>
      have hy := hr y rfl
      have b1 : (m + x) * (m + y) ≤ 2000 * 2000 := Nat.mul_le_mul (by omega) (by omega)
      have b2 : (m + y) * (m + x + y) ≤ 2000 * 3000 := Nat.mul_le_mul (by omega) (by omega)
      have b3 : (m + x) * (m + x + y) ≤ 2000 * 3000 := Nat.mul_le_mul (by omega) (by omega)
      have c1 := cM (x := m + x) (y := m + y) (by omega) (by omega)
      have c2 := cM (x := (m + x) * (m + y)) (y := m + x + y) (by omega) (by omega)
      have c3 := cM (x := m + y) (y := m + x + y) (by omega) (by omega)
      have c4 := cM (x := m + x) (y := m + x + y) (by omega) (by omega)
      have c5 : cMul (m : Int) (((m + y) * (m + x + y) : Nat) + ((m + x) * (m + x + y) : Nat) - ((m + x) * (m + y) : Nat) : Int) = true := cMul_lt (by rw [Int.natAbs_natCast]; exact lt1000 (by omega)) (lt1000 (by omega))
      have id : ((((m + x) * (m + y) * (m + x + y) : Nat) : Int) - (m : Int) * ((((m + y) * (m + x + y) : Nat) : Int) + (((m + x) * (m + x + y) : Nat) : Int) - (((m + x) * (m + y) : Nat) : Int))) = ((x * y * (2 * m + x + y) : Nat) : Int) := by
        push_cast
        grind
      push_cast at c1 c2 c3 c4 c5 id
      simp [F_first_of_three, b_first_of_three, opD, h2, frD, f3, c1, c2, c3, c4, c5, id]
theorem f3_pos {m : Nat} {l r : Option Nat} (hm : 0 < m) : 0 < (f3 m l r).2 := by
  cases l <;> cases r
  · show 0 < 1; decide
  · show 0 < m + _; omega
  · show 0 < m + _; omega
  · exact Nat.mul_pos (Nat.mul_pos (by omega) (by omega)) (by omega)
theorem f3_le {m : Nat} {l r : Option Nat} (hm : m < 1000) (hl : ∀ x, l = some x → x < 1000) (hr : ∀ x, r = some x → x < 1000) : (f3 m l r).1 ≤ 2 ^ 40 ∧ (f3 m l r).2 ≤ 2 ^ 40 := by
  cases l with
  | none =>
    cases r with
    | none => exact ⟨by show 1 ≤ _; decide, by show 1 ≤ _; decide⟩
    | some x => have := hr x rfl; exact ⟨by show x ≤ _; omega, by show m + x ≤ _; omega⟩
  | some x =>
    have hx := hl x rfl
    cases r with
    | none => exact ⟨by show x ≤ _; omega, by show m + x ≤ _; omega⟩
    | some y =>
      have hy := hr y rfl
      have a1 : x * y ≤ 1000 * 1000 := Nat.mul_le_mul (by omega) (by omega)
      have a2 : x * y * (2 * m + x + y) ≤ 1000000 * 4000 := Nat.mul_le_mul (by omega) (by omega)
      have a3 : (m + x) * (m + y) ≤ 2000 * 2000 := Nat.mul_le_mul (by omega) (by omega)
      have a4 : (m + x) * (m + y) * (m + x + y) ≤ 4000000 * 3000 := Nat.mul_le_mul (by omega) (by omega)
      exact ⟨by show x * y * (2 * m + x + y) ≤ _; omega, by show (m + x) * (m + y) * (m + x + y) ≤ _; omega⟩
theorem find_lt {p : Nat → Bool} {n j : Nat} (h : (List.range n).find? p = some j) : j < n := List.mem_range.mp (List.mem_of_find?_eq_some h)
theorem dUp_lt {n : Nat} {lt : Nat → Nat → Bool} {b k d : Nat} (h : dUp n lt b k = some d) (hn : n < 1000) : d < 1000 := by
  obtain ⟨j, e, rfl⟩ := Option.map_eq_some_iff.mp h
  have := find_lt e
  omega
theorem dDn_lt {lt : Nat → Nat → Bool} {b k d : Nat} (h : dDn lt b k = some d) (hn : b < 999) : d < 1000 := by
  obtain ⟨j, e, rfl⟩ := Option.map_eq_some_iff.mp h
  have := find_lt e
  omega
def arM (n : Nat) (lt : Nat → Nat → Bool) (a b : Nat) : Nat × Nat :=
  if a == b || !abv lt b a then (0, 1) else
  let m := ((b : Int) - (a : Int)).natAbs
  let p := if a < b then f3 m (dDn lt a b) (dUp n lt b b) else f3 m (dUp n lt a b) (dDn lt b b)
  red p.1 p.2
def hcM (n : Nat) (lt : Nat → Nat → Bool) (a b : Nat) : Nat × Nat :=
  if a == b || !abv lt b a then (0, 1) else
  let m := ((b : Int) - (a : Int)).natAbs
  let near := (if a < b then dUp n lt a a else dDn lt a a).getD 0
  let p := if a < b then f3 m (dDn lt a a) (dUp n lt b b) else f3 m (dUp n lt a a) (dDn lt b b)
  red (near * p.1) (m * p.2)
theorem around_eq {xs : List Int} {a b : Nat} {S : Sto} (ha : a < xs.length) (hb : b < xs.length) (hn : xs.length < 900) : F_around_chance [.d (rowD xs), .d (.int (a : Int)), .d (.int (b : Int))] S = some (.w (.d (frD (arM xs.length (lx xs) a b))), S) := by
  have h2 : 2 ≤ sizeLine := by decide
  have h1 := both_eq (S := S) ha hb
  have h3 := above_eq (S := S) hb ha (by omega)
  have hat := at_row hb
  unfold F_around_chance b_around_chance arM
  by_cases e : a = b
  · subst e
    simp [h1, h2, frD]
  have e2 : ¬ ((a : Int) = (b : Int)) := by omega
  cases e3 : abv (lx xs) b a with
  | false => simp [h1, h2, h3, e, e2, e3, frD]
  | true =>
    have hm : 0 < ((b : Int) - (a : Int)).natAbs := by omega
    have hm2 : ((b : Int) - (a : Int)).natAbs < 1000 := by omega
    by_cases hlt : a < b
    · have hlt' : (a : Int) < (b : Int) := by omega
      have g1 := far_dn (S := S) ha hb (by omega)
      have g2 := far_up (S := S) hb hb (by omega)
      have q1 : ∀ x, dDn (lx xs) a b = some x → x < 1000 := fun x h => dDn_lt h (by omega)
      have q2 : ∀ x, dUp xs.length (lx xs) b b = some x → x < 1000 := fun x h => dUp_lt h (by omega)
      have g3 := f3_eq (S := S) hm2 q1 q2
      have g4 := f3_pos (l := dDn (lx xs) a b) (r := dUp xs.length (lx xs) b b) hm
      have g5 := f3_le hm2 q1 q2
      have g6 := red_eq (x := (f3 ((b : Int) - (a : Int)).natAbs (dDn (lx xs) a b) (dUp xs.length (lx xs) b b)).1) (S := S) g4 (lt1000 (by omega))
      generalize hP : f3 ((b : Int) - (a : Int)).natAbs (dDn (lx xs) a b) (dUp xs.length (lx xs) b b) = P at *
      unfold rowD at *
      simp [h1, h2, h3, e, e2, e3, hlt, hlt', hat, g1, g2, g3, hP, frD, setAll]
      simp [frD] at g6
      simp [g6]
    · have hlt' : ¬ (a : Int) < (b : Int) := by omega
      have g1 := far_up (S := S) ha hb (by omega)
      have g2 := far_dn (S := S) hb hb (by omega)
      have q1 : ∀ x, dUp xs.length (lx xs) a b = some x → x < 1000 := fun x h => dUp_lt h (by omega)
      have q2 : ∀ x, dDn (lx xs) b b = some x → x < 1000 := fun x h => dDn_lt h (by omega)
      have g3 := f3_eq (S := S) hm2 q1 q2
      have g4 := f3_pos (l := dUp xs.length (lx xs) a b) (r := dDn (lx xs) b b) hm
      have g5 := f3_le hm2 q1 q2
      have g6 := red_eq (x := (f3 ((b : Int) - (a : Int)).natAbs (dUp xs.length (lx xs) a b) (dDn (lx xs) b b)).1) (S := S) g4 (lt1000 (by omega))
      generalize hP : f3 ((b : Int) - (a : Int)).natAbs (dUp xs.length (lx xs) a b) (dDn (lx xs) b b) = P at *
      unfold rowD at *
      simp [h1, h2, h3, e, e2, e3, hlt, hlt', hat, g1, g2, g3, hP, frD, setAll]
      simp [frD] at g6
      simp [g6]
theorem abv_lt {lt : Nat → Nat → Bool} {a b : Nat} (h : abv lt b a = true) : lt a b = true := by
  unfold abv at h
  exact List.all_eq_true.mp h a (by simp)
theorem dUp_some {n : Nat} {lt : Nat → Nat → Bool} {a b : Nat} (h : lt a b = true) (hab : a < b) (hb : b < n) : ∃ d, dUp n lt a a = some d := by
  unfold dUp
  cases e : (List.range (n - 1 - a)).find? fun j => lt a (a + 1 + j) with
  | some j => exact ⟨j + 1, rfl⟩
  | none =>
    have := List.find?_eq_none.mp e (b - a - 1) (List.mem_range.mpr (by omega))
    rw [show a + 1 + (b - a - 1) = b by omega] at this
    exact absurd h this
theorem dDn_some {lt : Nat → Nat → Bool} {a b : Nat} (h : lt a b = true) (hab : b < a) : ∃ d, dDn lt a a = some d := by
  unfold dDn
  cases e : (List.range a).find? fun j => lt a (a - 1 - j) with
  | some j => exact ⟨j + 1, rfl⟩
  | none =>
    have := List.find?_eq_none.mp e (a - 1 - b) (List.mem_range.mpr (by omega))
    rw [show a - 1 - (a - 1 - b) = b by omega] at this
    exact absurd h this
theorem holder_eq {xs : List Int} {a b : Nat} {S : Sto} (ha : a < xs.length) (hb : b < xs.length) (hn : xs.length < 900) : F_holder_chance [.d (rowD xs), .d (.int (a : Int)), .d (.int (b : Int))] S = some (.w (.d (frD (hcM xs.length (lx xs) a b))), S) := by
  have h2 : 2 ≤ sizeLine := by decide
  have h1 := both_eq (S := S) ha hb
  have h3 := above_eq (S := S) hb ha (by omega)
  have hatb := at_row hb
  have hata := at_row ha
  unfold F_holder_chance b_holder_chance hcM
  by_cases e : a = b
  · subst e
    simp [h1, h2, frD]
  have e2 : ¬ ((a : Int) = (b : Int)) := by omega
  cases e3 : abv (lx xs) b a with
  | false => simp [h1, h2, h3, e, e2, e3, frD]
  | true =>
    have hm : 0 < ((b : Int) - (a : Int)).natAbs := by omega
    have hm2 : ((b : Int) - (a : Int)).natAbs < 1000 := by omega
    have hal := abv_lt e3
    by_cases hlt : a < b
    · have hlt' : (a : Int) < (b : Int) := by omega
      obtain ⟨d, hd⟩ := dUp_some hal hlt hb
      have g0 := far_up (S := S) ha ha (by omega)
      have g1 := far_dn (S := S) ha ha (by omega)
      have g2 := far_up (S := S) hb hb (by omega)
      have hd2 := dUp_lt hd (by omega)
      rw [hd] at g0
      have q1 : ∀ x, dDn (lx xs) a a = some x → x < 1000 := fun x h => dDn_lt h (by omega)
      have q2 : ∀ x, dUp xs.length (lx xs) b b = some x → x < 1000 := fun x h => dUp_lt h (by omega)
      have g3 := f3_eq (S := S) hm2 q1 q2
      have g4 := f3_pos (l := dDn (lx xs) a a) (r := dUp xs.length (lx xs) b b) hm
      have g5 := f3_le hm2 q1 q2
      generalize hP : f3 ((b : Int) - (a : Int)).natAbs (dDn (lx xs) a a) (dUp xs.length (lx xs) b b) = P at *
      have b1 : ((b : Int) - (a : Int)).natAbs * P.2 ≤ 1000 * 2 ^ 40 := Nat.mul_le_mul (by omega) (by omega)
      have g6 := red_eq (x := d * P.1) (S := S) (Nat.mul_pos hm g4) (lt1000 (by omega))
      have c1 := cM (x := d) (y := P.1) (by omega) (by omega)
      have c2 := cM (x := ((b : Int) - (a : Int)).natAbs) (y := P.2) (by omega) (by omega)
      unfold rowD at *
      simp [opD] at g0
      simp [h1, h2, h3, e, e2, e3, hlt, hlt', hata, hatb, g0, g1, g2, g3, hP, frD, setAll, c1, c2, hd]
      simp [frD] at g6
      simp [g6]
    · have hlt' : ¬ (a : Int) < (b : Int) := by omega
      obtain ⟨d, hd⟩ := dDn_some hal (show b < a by omega)
      have g0 := far_dn (S := S) ha ha (by omega)
      have g1 := far_up (S := S) ha ha (by omega)
      have g2 := far_dn (S := S) hb hb (by omega)
      have hd2 := dDn_lt hd (by omega)
      rw [hd] at g0
      have q1 : ∀ x, dUp xs.length (lx xs) a a = some x → x < 1000 := fun x h => dUp_lt h (by omega)
      have q2 : ∀ x, dDn (lx xs) b b = some x → x < 1000 := fun x h => dDn_lt h (by omega)
      have g3 := f3_eq (S := S) hm2 q1 q2
      have g4 := f3_pos (l := dUp xs.length (lx xs) a a) (r := dDn (lx xs) b b) hm
      have g5 := f3_le hm2 q1 q2
      generalize hP : f3 ((b : Int) - (a : Int)).natAbs (dUp xs.length (lx xs) a a) (dDn (lx xs) b b) = P at *
      have b1 : ((b : Int) - (a : Int)).natAbs * P.2 ≤ 1000 * 2 ^ 40 := Nat.mul_le_mul (by omega) (by omega)
      have g6 := red_eq (x := d * P.1) (S := S) (Nat.mul_pos hm g4) (lt1000 (by omega))
      have c1 := cM (x := d) (y := P.1) (by omega) (by omega)
      have c2 := cM (x := ((b : Int) - (a : Int)).natAbs) (y := P.2) (by omega) (by omega)
      unfold rowD at *
      simp [opD] at g0
      simp [h1, h2, h3, e, e2, e3, hlt, hlt', hata, hatb, g0, g1, g2, g3, hP, frD, setAll, c1, c2, hd]
      simp [frD] at g6
      simp [g6]
/-! means of a row -/
theorem lc_nat {t : BD} {el : ED} {ρ : En} {S : Sto} (i n : Nat) (f : Nat → D) (ht : t = bYes) (h : ∀ o, o < n → ∃ r, el (ρ.set i (some (.d (.int (o : Int))))) S = some (r, S) ∧ frz r = .d (f o)) (hn : n ≤ 1000000) :
    lcL (gN i) t el ρ (ntD (List.range n)) S [] = some ((List.range n).map f, S) := by
  subst ht
  have := lcL_map (gd := gN i) (t := bYes) (el := el) (ρ := ρ) (S := S) (fun d => some (f (unN d))) (xs := ntD (List.range n)) [] (fun d hd => by
    obtain ⟨o, ho, rfl⟩ := List.mem_map.mp hd
    obtain ⟨r, e1, e2⟩ := h o (List.mem_range.mp ho)
    exact ⟨_, rfl, .inl ⟨_, r, rfl, e1, by rw [e2]; simp [unN], rfl⟩⟩) (sz (by unfold ntD; rw [List.length_map, List.length_range]; simpa using hn))
  rw [this]
  unfold ntD
  rw [List.nil_append, filterMap_all, List.map_map]
  congr 2
def mdL (n : Nat) (lt : Nat → Nat → Bool) (k : Nat) : List (Nat × Nat) := (List.range n).map fun o => arM n lt k o
def miL (n : Nat) (lt : Nat → Nat → Bool) (k : Nat) : List (Nat × Nat) := (List.range n).map fun o => arM n lt o k
theorem depth_eq {xs : List Int} {k M : Nat} {S : Sto} (hk : k < xs.length) (hn : xs.length < 900) (hM : 0 < M) (hM2 : M < 2 ^ 50) (h : ∀ f ∈ mdL xs.length (lx xs) k, okF M f) :
    F_mean_depth [.d (rowD xs), .d (.int (k : Int))] S = some (.w (.d (frD (red (sumM M (mdL xs.length (lx xs) k)) M))), S) := by
  have ha := added_eq (S := S) hM hM2 h (by unfold mdL; rw [List.length_map, List.length_range]; omega)
  have hl := lc_nat (t := bYes) (el := eN F_around_chance (aCons (eVar 0) (aCons (eVar 1) (aCons (eVar 2) aNil)))) (ρ := [some (.d (rowD xs)), some (.d (.int (k : Int))), none]) (S := S) 2 xs.length (fun o => frD (arM xs.length (lx xs) k o)) rfl (fun o ho => by
    have := around_eq (S := S) hk ho hn
    exact ⟨_, by simp [this]; rfl, rfl⟩) (by omega)
  refine (den_rt (r := .w (.d (frD (red (sumM M (mdL xs.length (lx xs) k)) M)))) (S1 := S) rfl ?_).trans (by rw [retC_d, List.take_of_length_le (Nat.le_refl _)])
  unfold b_mean_depth
  refine (seq_nx (ρ1 := [some (.d (rowD xs)), some (.d (.int (k : Int))), none]) (S1 := S) (by simp [look_eq (S := S) hk])).trans ?_
  have e2 : iR1 (aCons (eN kLen (aCons (eVar 0) aNil)) aNil) [some (.d (rowD xs)), some (.d (.int (k : Int))), none] S = some (ntD (List.range xs.length), S) := by
    rw [r1_of (j := (xs.length : Int)) (S1 := S) (by simp [rowD]) (inB_nat (by omega)), Int.toNat_natCast, upTo_nat]
    rfl
  rw [bRet_, eN_, aCons_, eLc_, e2, Option.bind_some]
  have hw : wipeE [some (.d (rowD xs)), some (.d (.int (k : Int))), none] [2] = [some (.d (rowD xs)), some (.d (.int (k : Int))), none] := rfl
  rw [hw, hl]
  have em : (List.range xs.length).map (fun o => frD (arM xs.length (lx xs) k o)) = (mdL xs.length (lx xs) k).map frD := by unfold mdL; rw [List.map_map]; rfl
  rw [em]
  simp [ha]
theorem inside_eq {xs : List Int} {k M : Nat} {S : Sto} (hk : k < xs.length) (hn : xs.length < 900) (hM : 0 < M) (hM2 : M < 2 ^ 50) (h : ∀ f ∈ miL xs.length (lx xs) k, okF M f) :
    F_mean_inside [.d (rowD xs), .d (.int (k : Int))] S = some (.w (.d (frD (red (sumM M (miL xs.length (lx xs) k)) M))), S) := by
  have ha := added_eq (S := S) hM hM2 h (by unfold miL; rw [List.length_map, List.length_range]; omega)
  have hl := lc_nat (t := bYes) (el := eN F_around_chance (aCons (eVar 0) (aCons (eVar 2) (aCons (eVar 1) aNil)))) (ρ := [some (.d (rowD xs)), some (.d (.int (k : Int))), none]) (S := S) 2 xs.length (fun o => frD (arM xs.length (lx xs) o k)) rfl (fun o ho => by
    have := around_eq (S := S) ho hk hn
    exact ⟨_, by simp [this]; rfl, rfl⟩) (by omega)
  refine (den_rt (r := .w (.d (frD (red (sumM M (miL xs.length (lx xs) k)) M)))) (S1 := S) rfl ?_).trans (by rw [retC_d, List.take_of_length_le (Nat.le_refl _)])
  unfold b_mean_inside
  refine (seq_nx (ρ1 := [some (.d (rowD xs)), some (.d (.int (k : Int))), none]) (S1 := S) (by simp [look_eq (S := S) hk])).trans ?_
  have e2 : iR1 (aCons (eN kLen (aCons (eVar 0) aNil)) aNil) [some (.d (rowD xs)), some (.d (.int (k : Int))), none] S = some (ntD (List.range xs.length), S) := by
    rw [r1_of (j := (xs.length : Int)) (S1 := S) (by simp [rowD]) (inB_nat (by omega)), Int.toNat_natCast, upTo_nat]
    rfl
  rw [bRet_, eN_, aCons_, eLc_, e2, Option.bind_some]
  have hw : wipeE [some (.d (rowD xs)), some (.d (.int (k : Int))), none] [2] = [some (.d (rowD xs)), some (.d (.int (k : Int))), none] := rfl
  rw [hw, hl]
  have em : (List.range xs.length).map (fun o => frD (arM xs.length (lx xs) o k)) = (miL xs.length (lx xs) k).map frD := by unfold miL; rw [List.map_map]; rfl
  rw [em]
  simp [ha]
end K87

set_option Elab.async false
set_option linter.all false
set_option maxRecDepth 100000
set_option maxHeartbeats 4000000
/-! Counting: by the order alone. -/
namespace K87
open PySem L2 DL Ct
theorem getD_at {xs : List Int} {i : Nat} (h : i < xs.length) : xs.getD i 0 = xs[i] := by
  rw [List.getD_eq_getElem?_getD, List.getElem?_eq_getElem h]
  rfl
theorem big_same {xs ys : List Int} (hx : xs.Nodup) (hy : ys.Nodup) (hl : xs.length = ys.length) (he : lx xs = lx ys) {a b : Nat} (hab : a ≤ b) (hb : b < xs.length) : bigM xs a b = bigM ys a b := by
  obtain ⟨h1, h2, h3⟩ := bigM_at hx hab hb
  obtain ⟨g1, g2, g3⟩ := bigM_at hy hab (by omega)
  generalize bigM xs a b = t at *
  generalize bigM ys a b = u at *
  have htl : t < xs.length := by omega
  have hul : u < xs.length := by omega
  have e1 := h3 u g1 g2
  have e2 := g3 t h1 h2
  rw [getD_at hul, getD_at htl] at e1
  rw [getD_at (by omega), getD_at (by omega)] at e2
  have e3 : lx ys u t = false := by rw [lx_at (by omega) (by omega)]; exact decide_eq_false (by omega)
  rw [← he, lx_at hul htl] at e3
  have e4 : ¬ xs[u] < xs[t] := of_decide_eq_false e3
  have e5 : xs[u] = xs[t] := by omega
  exact ((List.getElem_inj hx).mp e5).symm
theorem parts_same {xs ys : List Int} {cl : List (Option Int)} (hx : xs.Nodup) (hb : ∀ a b, a ≤ b → b < xs.length → bigM xs a b = bigM ys a b) : ∀ (n a k h : Nat), a + k ≤ xs.length → partsM xs cl n a k h = partsM ys cl n a k h
  | 0, _, _, _, _ => rfl
  | n + 1, a, k, h, hl => by
    unfold partsM
    by_cases hk : k = 0
    · rw [if_pos hk, if_pos hk]
    rw [if_neg hk, if_neg hk]
    congr 1
    refine List.map_congr_left fun j hj => ?_
    have hj : j < k := List.mem_range.mp hj
    have h1 := bigM_at (a := a) (b := a + j) hx (by omega) (by omega)
    dsimp only
    rw [← hb a (a + j) (by omega) (by omega)]
    generalize bigM xs a (a + j) = t at *
    rw [parts_same hx hb n a (t - a) t (by omega), parts_same hx hb n (t + 1) (a + j - t) t (by omega), parts_same hx hb n (a + j + 1) (k - 1 - j) h (by omega)]
theorem held_same {xs ys : List Int} {cl : List (Option Int)} (hx : xs.Nodup) (hb : ∀ a b, a ≤ b → b < xs.length → bigM xs a b = bigM ys a b) {a k : Nat} (h0 : 0 < k) (hl : a + k ≤ xs.length) : hV xs cl a k = hV ys cl a k := by
  have h1 := bigM_at (a := a) (b := a + k - 1) hx (by omega) (by omega)
  unfold hV
  dsimp only
  rw [← hb a (a + k - 1) (by omega) (by omega)]
  generalize bigM xs a (a + k - 1) = t at *
  unfold pV
  rw [parts_same hx hb _ a (t - a) t (by omega), parts_same hx hb _ (t + 1) (a + k - 1 - t) t (by omega)]
theorem outers_same {xs ys : List Int} {cl : List (Option Int)} (hx : xs.Nodup) (hl : xs.length = ys.length) (hb : ∀ a b, a ≤ b → b < xs.length → bigM xs a b = bigM ys a b) : ∀ (n a m : Nat), a ≤ xs.length → outersM xs cl n a m = outersM ys cl n a m
  | 0, _, _, _ => rfl
  | n + 1, a, m, ha => by
    unfold outersM
    rw [← hl]
    by_cases hk : a = xs.length ∨ m = 0
    · rw [if_pos hk, if_pos hk]
    rw [if_neg hk, if_neg hk]
    congr 1
    refine List.map_congr_left fun j hj => ?_
    have hj : j < xs.length - a := List.mem_range.mp hj
    rw [held_same hx hb (by omega) (by omega), outers_same hx hl hb n _ _ (by omega)]
theorem nest_same {xs ys : List Int} (hx : xs.Nodup) (hy : ys.Nodup) (hl : xs.length = ys.length) (h0 : 0 < xs.length) (he : lx xs = lx ys) (cl : List (Option Int)) : countWithM xs cl = countWithM ys cl := by
  have hb : ∀ a b, a ≤ b → b < xs.length → bigM xs a b = bigM ys a b := fun a b h1 h2 => big_same hx hy hl he h1 h2
  unfold countWithM
  rw [← hl, hb 0 (xs.length - 1) (by omega) (by omega), held_same hx hb h0 (by omega)]
theorem outer_same {xs ys : List Int} (hx : xs.Nodup) (hy : ys.Nodup) (hl : xs.length = ys.length) (he : lx xs = lx ys) (m : Int) : countOuterM xs m = countOuterM ys m := by
  have hb : ∀ a b, a ≤ b → b < xs.length → bigM xs a b = bigM ys a b := fun a b h1 h2 => big_same hx hy hl he h1 h2
  unfold countOuterM oV
  rw [← hl, outers_same hx hl hb _ _ _ (by omega)]
theorem okRow_of {xs : List Int} (hx : xs.Nodup) (h0 : 0 < xs.length) (h1 : xs.length ≤ 12) : okRow xs = true := by
  unfold okRow
  rw [decide_eq_true (List.length_pos_iff.mp h0), decide_eq_true hx, decide_eq_true h1]
  rfl
theorem claimD_none : ∀ n, claimD (List.replicate n PyData.none) = some (List.replicate n none)
  | 0 => rfl
  | n + 1 => by
    rw [List.replicate_succ]
    show (claimD _).map _ = _
    rw [claimD_none n]
    rfl
@[simp] theorem kMul_list {S : Sto} (a : List D) (k : Int) : kMul (.d (.list a)) (.d (.int k)) S = if (-(2 ^ 63) ≤ k ∧ k < 2 ^ 63) ∧ a.length * k.toNat ≤ sizeLine then some (.fr (List.replicate k.toNat a).flatten, S) else none := by
  show (none : Option (Rs × Sto)).or (kRep (.d (.list a)) (.d (.int k)) S) = _
  rfl
theorem flat_one {α : Type} (x : α) : ∀ n, (List.replicate n [x]).flatten = List.replicate n x
  | 0 => rfl
  | n + 1 => by rw [List.replicate_succ, List.flatten_cons, flat_one x n, List.replicate_succ]; rfl
theorem nest_c {xs : List Int} {S : Sto} (hx : xs.Nodup) (h0 : 0 < xs.length) (h1 : xs.length ≤ 12) : F_count_with [.d (rowD xs), .d (.list (List.replicate xs.length .none))] S = some (.w (.d (.int (countWithM xs (List.replicate xs.length none)))), S) := by
  unfold F_count_with rowD
  simp [intsD_ints, claimD_none, okRow_of hx h0 h1]
theorem nest_k {n : Nat} {S : Sto} (h1 : n ≤ 12) : kMul (.d (.list [.none])) (.d (.int (n : Int))) S = some (.fr (List.replicate n .none), S) := by
  have hb : ((-(2 ^ 63) : Int) ≤ (n : Int) ∧ (n : Int) < 2 ^ 63) ∧ [PyData.none].length * (n : Int).toNat ≤ sizeLine := ⟨by omega, sz (by simp; omega)⟩
  rw [kMul_list, if_pos hb, flat_one, Int.toNat_natCast]
theorem mulL_of {f g : ED} {ρ : En} {S S1 S2 : Sto} {x y : Rs} {u v : Sl} {r : Option (Rs × Sto)} (hf : f ρ S = some (x, S1)) (hx : frz x = u) (hg : g ρ S1 = some (y, S2)) (hy : frz y = v) (hk : kMul u v S2 = r) : eMul f g ρ S = r := by
  rw [eMul_, hf, Option.bind_some, hg, Option.bind_some, hx, hy, hk]
theorem nest_l {S : Sto} {ρ : En} : eLst (aCons (eC .none) aNil) ρ S = some (.fr [.none], S) := by
  have h2 : 1 ≤ sizeLine := by decide
  simp [h2]
theorem nest_n {xs : List Int} {S : Sto} : eN kLen (aCons (eVar 0) aNil) [some (.d (rowD xs))] S = some (.w (.d (.int (xs.length : Int))), S) := by simp [rowD]
theorem nest_m {xs : List Int} {S : Sto} (h1 : xs.length ≤ 12) : (eMul (eLst (aCons (eC .none) aNil)) (eN kLen (aCons (eVar 0) aNil))) [some (.d (rowD xs))] S = some (.fr (List.replicate xs.length .none), S) := mulL_of nest_l rfl nest_n rfl (nest_k h1)
theorem nest_eq {xs : List Int} {S : Sto} (hx : xs.Nodup) (h0 : 0 < xs.length) (h1 : xs.length ≤ 12) : F_count_nestings [.d (rowD xs)] S = some (.w (.d (.int (countWithM xs (List.replicate xs.length none)))), S) := by
  have hc := nest_c (S := S) hx h0 h1
  have e1 := nest_m (S := S) h1
  refine (den_rt (r := .w (.d (.int (countWithM xs (List.replicate xs.length none))))) (S1 := S) rfl ?_).trans (by rw [retC_d, List.take_of_length_le (Nat.le_refl _)])
  exact ret_of (call_of (acons_of (u := .d (rowD xs)) rfl rfl (acons_of e1 rfl rfl)) hc)
theorem outer_eq {xs : List Int} {m : Int} {S : Sto} (hx : xs.Nodup) (h0 : 0 < xs.length) (h1 : xs.length ≤ 12) : F_count_outer [.d (rowD xs), .d (.int m)] S = some (.w (.d (.int (countOuterM xs m))), S) := by
  unfold F_count_outer rowD
  simp [intsD_ints, okRow_of hx h0 h1]
/-! ### the rows, by their orders -/
theorem perm_flat {α β : Type} {f g : α → List β} : ∀ {l : List α}, (∀ a ∈ l, (f a).Perm (g a)) → (l.flatMap f).Perm (l.flatMap g)
  | [], _ => .refl _
  | a :: l, h => by
    rw [List.flatMap_cons, List.flatMap_cons]
    exact (h a (by simp)).append (perm_flat fun b hb => h b (List.mem_cons_of_mem _ hb))
theorem flat_congr {α β : Type} {f g : α → List β} : ∀ {l : List α}, (∀ a ∈ l, f a = g a) → l.flatMap f = l.flatMap g
  | [], _ => rfl
  | a :: l, h => by
    rw [List.flatMap_cons, List.flatMap_cons, h a (by simp), flat_congr fun b hb => h b (List.mem_cons_of_mem _ hb)]
theorem rwsM_perm {l l' : List Int} (h : l.Perm l') : ∀ k, (rwsM l k).Perm (rwsM l' k)
  | 0 => .refl _
  | k + 1 => by
    refine ((rwsM_perm h k).flatMap_right (nxt l)).trans ?_
    refine perm_flat fun own _ => ?_
    exact (h.filter _).map _
theorem rwsM_map {l : List Int} {g : Int → Int} (hg : ∀ x ∈ l, ∀ y ∈ l, g x = g y → x = y) : ∀ k, rwsM (l.map g) k = (rwsM l k).map (List.map g) ∧ ∀ r ∈ rwsM l k, ∀ x ∈ r, x ∈ l
  | 0 => ⟨rfl, fun r hr x hx => by rw [List.mem_singleton.mp hr] at hx; cases hx⟩
  | k + 1 => by
    obtain ⟨ih1, ih2⟩ := rwsM_map hg k
    constructor
    · show (rwsM (l.map g) k).flatMap (nxt (l.map g)) = ((rwsM l k).flatMap (nxt l)).map (List.map g)
      rw [ih1, List.flatMap_map, List.map_flatMap]
      refine flat_congr fun own ho => ?_
      unfold nxt
      rw [List.filter_map, List.map_map, List.map_map]
      have e : l.filter ((fun s => decide (s ∉ own.map g)) ∘ g) = l.filter fun s => decide (s ∉ own) := by
        refine List.filter_congr fun x hx => ?_
        show decide _ = decide _
        refine decide_eq_decide.mpr (not_congr ⟨fun h => ?_, fun h => List.mem_map.mpr ⟨x, h, rfl⟩⟩)
        obtain ⟨y, hy, e⟩ := List.mem_map.mp h
        rw [← hg y (ih2 own ho y hy) x hx e]
        exact hy
      rw [e]
      refine List.map_congr_left fun x _ => ?_
      simp
    · intro r hr x hx
      obtain ⟨own, ho, hr⟩ := List.mem_flatMap.mp hr
      obtain ⟨s, hs, rfl⟩ := List.mem_map.mp hr
      rcases List.mem_append.mp hx with h | h
      · exact ih2 own ho x h
      · rw [List.mem_singleton.mp h]
        exact (List.mem_filter.mp hs).1
def std (n : Nat) : List (List Int) := rwsM ((List.range n).map fun i : Nat => (i : Int)) n
theorem lx_map {r : List Int} {g : Int → Int} (hg : ∀ x ∈ r, ∀ y ∈ r, (x < y ↔ g x < g y)) : lx (r.map g) = lx r := by
  funext i j
  unfold lx
  rw [List.getElem?_map, List.getElem?_map]
  cases hi : r[i]? with
  | none => rfl
  | some a =>
    cases hj : r[j]? with
    | none => rfl
    | some b =>
      show decide (g a < g b) = decide (a < b)
      exact decide_eq_decide.mpr (hg a (List.mem_of_getElem? hi) b (List.mem_of_getElem? hj)).symm
theorem mono_of {zs : List Int} {n : Nat} (hlen : zs.length = n) (hs : zs.Pairwise (· < ·)) : ∀ x ∈ (List.range n).map (fun i : Nat => (i : Int)), ∀ y ∈ (List.range n).map (fun i : Nat => (i : Int)), (x < y ↔ zs.getD x.toNat 0 < zs.getD y.toNat 0) := by
  intro x hx y hy
  obtain ⟨i, hi, rfl⟩ := List.mem_map.mp hx
  obtain ⟨j, hj, rfl⟩ := List.mem_map.mp hy
  have hi : i < n := List.mem_range.mp hi
  have hj : j < n := List.mem_range.mp hj
  rw [Int.toNat_natCast, Int.toNat_natCast, getD_at (by omega), getD_at (by omega)]
  have hp := List.pairwise_iff_getElem.mp hs
  constructor
  · intro h
    exact hp i j (by omega) (by omega) (by omega)
  · intro h
    rcases Nat.lt_trichotomy i j with h1 | h1 | h1
    · omega
    · subst h1; omega
    · have := hp j i (by omega) (by omega) h1
      omega
/-- the rows of n sizes: those of 0 .. n - 1, each with the same order -/
theorem rows_std {xs zs : List Int} (hp : zs.Perm xs) (hs : zs.Pairwise (· < ·)) : ∃ g : Int → Int, (rwsM xs xs.length).Perm ((std xs.length).map (List.map g)) ∧ ∀ r ∈ std xs.length, lx (r.map g) = lx r := by
  have hlen := hp.length_eq
  refine ⟨fun i => zs.getD i.toNat 0, ?_, ?_⟩
  · have e : zs = ((List.range xs.length).map fun i : Nat => (i : Int)).map fun i => zs.getD i.toNat 0 := by
      rw [List.map_map]
      refine List.ext_getElem (by simp [hlen]) fun i h1 h2 => ?_
      simp only [List.getElem_map, List.getElem_range, Function.comp, Int.toNat_natCast]
      exact (getD_at h1).symm
    have hmono : ∀ x ∈ (List.range xs.length).map (fun i : Nat => (i : Int)), ∀ y ∈ (List.range xs.length).map (fun i : Nat => (i : Int)), (x < y ↔ zs.getD x.toNat 0 < zs.getD y.toNat 0) := mono_of hlen hs
    have hinj : ∀ x ∈ (List.range xs.length).map (fun i : Nat => (i : Int)), ∀ y ∈ (List.range xs.length).map (fun i : Nat => (i : Int)), zs.getD x.toNat 0 = zs.getD y.toNat 0 → x = y := fun x hx y hy e => by
      have h1 := hmono x hx y hy
      have h2 := hmono y hy x hx
      omega
    have h := (rwsM_map hinj xs.length).1
    rw [← e] at h
    unfold std
    rw [← h]
    exact rwsM_perm hp.symm _
  · intro r hr
    have hmono := mono_of hlen hs
    have hinj : ∀ x ∈ (List.range xs.length).map (fun i : Nat => (i : Int)), ∀ y ∈ (List.range xs.length).map (fun i : Nat => (i : Int)), zs.getD x.toNat 0 = zs.getD y.toNat 0 → x = y := fun x hx y hy e => by
      have h1 := hmono x hx y hy
      have h2 := hmono y hy x hx
      omega
    have hm := (rwsM_map hinj xs.length).2 r hr
    exact lx_map fun x hx y hy => hmono x (hm x hx) y (hm y hy)
end K87

set_option Elab.async false
set_option linter.all false
set_option maxRecDepth 100000
set_option maxHeartbeats 4000000
/-! What the law expects. -/
namespace K87
open PySem L2 DL Ct
def dn (m : Nat) : Nat := (List.range' 2 (m - 1)).foldl (fun f k => f * k) 1
def ev (m : Nat) : Nat := (List.range' 2 (m - 1)).foldl (fun f k => f * (3 * k - 4)) 1
theorem r2_nat {a : AD} {ρ : En} {S : Sto} {i j : Nat} {y : Int} (hy : y = (j : Int)) (h : a ρ S = some ([.d (.int (i : Int)), .d (.int y)], S)) (hi : i < 1000) (hj : j < 1000) : iR2 a ρ S = some (ntD (List.range' i (j - i)), S) := by
  subst hy
  rw [r2_of h (inB_nat (by omega)) (inB_nat (by omega)), show ((j : Int) - (i : Int)).toNat = j - i by omega, upTo_range]
theorem fold_loop {b : SD} {S : Sto} {st : Nat → Nat → Nat} {x0 : Option Sl} (hb : ∀ f k : Nat, f ≤ 2 ^ 90 → k ≤ 6 → 2 ≤ k → b [x0, some (.d (.int ((f : Nat) : Int))), some (.d (.int ((k : Nat) : Int)))] S = some (.nx [x0, some (.d (.int ((st f k : Nat) : Int))), some (.d (.int ((k : Nat) : Int)))] S)) (hs : ∀ f k, k ≤ 6 → 2 ≤ k → st f k ≤ f * 2 ^ 10) :
    ∀ (l : List Nat) (f e : Nat) (x2 : Option Sl), (∀ k ∈ l, 2 ≤ k ∧ k ≤ 6) → f ≤ 2 ^ e → e + 10 * l.length ≤ 90 → ∃ y2, forL (gN 2) b (ntD l) [x0, some (.d (.int ((f : Nat) : Int))), x2] S = some (.nx [x0, some (.d (.int ((l.foldl st f : Nat) : Int))), y2] S)
  | [], f, e, x2, _, _, _ => ⟨x2, rfl⟩
  | k :: l, f, e, x2, hl, hf, he => by
    rw [List.length_cons] at he
    obtain ⟨k1, k2⟩ := hl k (by simp)
    have h1 := hs f k k2 k1
    have h2 : f * 2 ^ 10 ≤ 2 ^ e * 2 ^ 10 := Nat.mul_le_mul_right _ hf
    rw [← Nat.pow_add] at h2
    have h3 : 2 ^ e ≤ 2 ^ 90 := Nat.pow_le_pow_right (by decide) (by omega)
    obtain ⟨y2, e2⟩ := fold_loop hb hs l (st f k) (e + 10) (some (.d (.int ((k : Nat) : Int)))) (fun x hx => hl x (List.mem_cons_of_mem _ hx)) (Nat.le_trans h1 h2) (by omega)
    refine ⟨y2, ?_⟩
    show forL _ _ (.int ((k : Nat) : Int) :: ntD l) _ _ = _
    rw [forL, gN_, Option.bind_some]
    show (b [x0, some (.d (.int ((f : Nat) : Int))), some (.d (.int ((k : Nat) : Int)))] S).bind _ = _
    rw [hb f k (by omega) k2 k1, Option.bind_some, List.foldl_cons]
    exact e2
theorem down_eq {m : Nat} {S : Sto} (hm : m ≤ 5) : F__law_down [.d (.int (m : Int))] S = some (.w (.d (.int ((dn m : Nat) : Int))), S) := by
  obtain ⟨y2, e⟩ := fold_loop (b := bSet 1 (eMul (eVar 1) (eVar 2))) (S := S) (st := fun f k => f * k) (x0 := some (.d (.int (m : Int)))) (fun f k hf hk hk2 => by
    have := cM (x := f) (y := k) (by omega) (by omega)
    simp [this]) (fun f k hk hk2 => Nat.mul_le_mul_left _ (by omega)) (List.range' 2 (m - 1)) 1 0 none (fun k hk => by
      obtain ⟨i, h1, h2⟩ := List.mem_range'.mp hk
      omega) (by decide) (by rw [List.length_range']; omega)
  refine (den_rt (r := .w (.d (.int ((dn m : Nat) : Int)))) (S1 := S) rfl ?_).trans (by rw [retC_d, List.take_of_length_le (Nat.le_refl _)])
  unfold b__law_down
  refine (seq_nx (ρ1 := [some (.d (.int (m : Int))), some (.d (.int 1)), none]) (S1 := S) rfl).trans ?_
  refine (seq_nx (for_of (r2_nat (i := 2) (j := m + 1) (y := (m : Int) + 1) (by omega) (by simp) (by omega) (by omega)) (by rw [show m + 1 - 2 = m - 1 by omega]; exact e))).trans ?_
  rfl
theorem every_eq {m : Nat} {S : Sto} (hm : m ≤ 5) : F__law_every [.d (.int (m : Int))] S = some (.w (.d (.int ((ev m : Nat) : Int))), S) := by
  obtain ⟨y2, e⟩ := fold_loop (b := bSet 1 (eMul (eVar 1) (eSub (eMul (eC (.int 3)) (eVar 2)) (eC (.int 4))))) (S := S) (st := fun f k => f * (3 * k - 4)) (x0 := some (.d (.int (m : Int)))) (fun f k hf hk hk2 => by
    have h1 := cM (x := 3) (y := k) (by omega) (by omega)
    have h2 := cM (x := f) (y := 3 * k - 4) (by omega) (by omega)
    have h3 : (3 : Int) * (k : Int) - 4 = ((3 * k - 4 : Nat) : Int) := by omega
    have h1' : cMul 3 (k : Int) = true := h1
    simp [h1', h3, h2]) (fun f k hk hk2 => Nat.mul_le_mul_left _ (by omega)) (List.range' 2 (m - 1)) 1 0 none (fun k hk => by
      obtain ⟨i, h1, h2⟩ := List.mem_range'.mp hk
      omega) (by decide) (by rw [List.length_range']; omega)
  refine (den_rt (r := .w (.d (.int ((ev m : Nat) : Int)))) (S1 := S) rfl ?_).trans (by rw [retC_d, List.take_of_length_le (Nat.le_refl _)])
  unfold b__law_every
  refine (seq_nx (ρ1 := [some (.d (.int (m : Int))), some (.d (.int 1)), none]) (S1 := S) rfl).trans ?_
  refine (seq_nx (for_of (r2_nat (i := 2) (j := m + 1) (y := (m : Int) + 1) (by omega) (by simp) (by omega) (by omega)) (by rw [show m + 1 - 2 = m - 1 by omega]; exact e))).trans ?_
  rfl
/-! lots -/
def lotsM : Nat → Nat → Nat → Nat
  | 0, _, _ => 0
  | d + 1, m, s => if s = 0 ∨ m = 0 then (if s = 0 ∧ m = 0 then 1 else 0) else
      ((List.range' 1 m).map fun k => dn m / (dn k * dn (m - k)) * ev k * lotsM d (m - k) (s - 1)).sum
theorem lots_small : ∀ d, d ≤ 8 → ∀ m, m ≤ 5 → ∀ s, s ≤ 7 → lotsM d m s ≤ 1000000 := by decide +kernel
theorem dn_small : ∀ m, m ≤ 5 → dn m ≤ 120 ∧ 0 < dn m ∧ ev m ≤ 1000 := by decide +kernel
def lotB (d : Nat) : SD := (bSeq (bSet 4 (eDiv (eN F__law_down (aCons (eVar 0) aNil)) (eMul (eN F__law_down (aCons (eVar 3) aNil)) (eN F__law_down (aCons (eSub (eVar 0) (eVar 3)) aNil))))) (bSet 2 (eAdd (eVar 2) (eMul (eMul (eVar 4) (eN F__law_every (aCons (eVar 3) aNil))) (eN (F__law_lots d) (aCons (eSub (eVar 0) (eVar 3)) (aCons (eSub (eVar 1) (eC (.int 1))) aNil)))))))
abbrev lEn (m s f : Nat) (x3 x4 : Option Sl) : En := [some (.d (.int (m : Int))), some (.d (.int (s : Int))), some (.d (.int ((f : Nat) : Int))), x3, x4]
theorem lot_h1 {m s f k : Nat} {S : Sto} {x4 : Option Sl} (hm : m ≤ 5) (k1 : 1 ≤ k) (k2 : k ≤ m) : (bSet 4 (eDiv (eN F__law_down (aCons (eVar 0) aNil)) (eMul (eN F__law_down (aCons (eVar 3) aNil)) (eN F__law_down (aCons (eSub (eVar 0) (eVar 3)) aNil))))) (lEn m s f (some (.d (.int (k : Int)))) x4) S =
    some (.nx (lEn m s f (some (.d (.int (k : Int)))) (some (.d (.int ((dn m / (dn k * dn (m - k)) : Nat) : Int))))) S) := by
  have g1 := down_eq (S := S) hm
  have g2 := down_eq (m := k) (S := S) (by omega)
  have g3 := down_eq (m := m - k) (S := S) (by omega)
  have q2 := dn_small k (by omega)
  have q3 := dn_small (m - k) (by omega)
  have w1 : (m : Int) - (k : Int) = ((m - k : Nat) : Int) := by omega
  rw [← w1] at g3
  generalize dn m = a at *
  generalize dn k = b at *
  generalize dn (m - k) = c at *
  have b1 : b * c ≤ 120 * 120 := Nat.mul_le_mul q2.1 q3.1
  have b0 : 0 < b * c := Nat.mul_pos q2.2.1 q3.2.1
  have c1 := cM (x := b) (y := c) (by omega) (by omega)
  have c2 : cDiv (a : Int) ((b * c : Nat) : Int) = true := cDiv_sm (by omega) (by omega)
  rw [Int.natCast_mul] at c2
  have a1 : (aCons (eVar 0) aNil) (lEn m s f (some (.d (.int (k : Int)))) x4) S = some ([.d (.int (m : Int))], S) := rfl
  have a2 : (aCons (eVar 3) aNil) (lEn m s f (some (.d (.int (k : Int)))) x4) S = some ([.d (.int (k : Int))], S) := rfl
  have a3 : (aCons (eSub (eVar 0) (eVar 3)) aNil) (lEn m s f (some (.d (.int (k : Int)))) x4) S = some ([.d (.int ((m : Int) - (k : Int)))], S) := rfl
  have e4 : ((a / (b * c) : Nat) : Int) = (a : Int) / ((b : Int) * (c : Int)) := by simp
  rw [e4]
  exact (set_of (div_of (call_of a1 g1) rfl (mul_of (call_of a2 g2) rfl (call_of a3 g3) rfl c1) rfl c2) rfl)
theorem lot_h2 {d m s f k u : Nat} {S : Sto} (hm : m ≤ 5) (k1 : 1 ≤ k) (k2 : k ≤ m) (s1 : 1 ≤ s) (hu : u ≤ 120) (hL : lotsM d (m - k) (s - 1) ≤ 1000000)
    (g5 : F__law_lots d [.d (.int ((m - k : Nat) : Int)), .d (.int ((s - 1 : Nat) : Int))] S = some (.w (.d (.int ((lotsM d (m - k) (s - 1) : Nat) : Int))), S)) :
    (bSet 2 (eAdd (eVar 2) (eMul (eMul (eVar 4) (eN F__law_every (aCons (eVar 3) aNil))) (eN (F__law_lots d) (aCons (eSub (eVar 0) (eVar 3)) (aCons (eSub (eVar 1) (eC (.int 1))) aNil)))))) (lEn m s f (some (.d (.int (k : Int)))) (some (.d (.int ((u : Nat) : Int))))) S =
    some (.nx (lEn m s (f + u * ev k * lotsM d (m - k) (s - 1)) (some (.d (.int (k : Int)))) (some (.d (.int ((u : Nat) : Int))))) S) := by
  have g4 := every_eq (m := k) (S := S) (by omega)
  have q2 := dn_small k (by omega)
  have w1 : (m : Int) - (k : Int) = ((m - k : Nat) : Int) := by omega
  have w2 : (s : Int) - 1 = ((s - 1 : Nat) : Int) := by omega
  rw [← w1, ← w2] at g5
  generalize lotsM d (m - k) (s - 1) = L at *
  generalize ev k = e at *
  have b3 : u * e ≤ 120 * 1000 := Nat.mul_le_mul hu q2.2.2
  have c3 := cM (x := u) (y := e) (by omega) (by omega)
  have c4 := cM (x := u * e) (y := L) (by omega) (by omega)
  rw [Int.natCast_mul] at c4
  have a2 : (aCons (eVar 3) aNil) (lEn m s f (some (.d (.int (k : Int)))) (some (.d (.int ((u : Nat) : Int))))) S = some ([.d (.int (k : Int))], S) := rfl
  have a3 : (aCons (eSub (eVar 0) (eVar 3)) (aCons (eSub (eVar 1) (eC (.int 1))) aNil)) (lEn m s f (some (.d (.int (k : Int)))) (some (.d (.int ((u : Nat) : Int))))) S = some ([.d (.int ((m : Int) - (k : Int))), .d (.int ((s : Int) - 1))], S) := rfl
  have e4 : ((f + u * e * L : Nat) : Int) = (f : Int) + ((u : Int) * (e : Int)) * (L : Int) := by simp
  show _ = some (Out.nx [_, _, some (.d (.int ((f + u * e * L : Nat) : Int))), _, _] S)
  rw [e4]
  exact (set_of (add_of (x := .w (.d (.int (f : Int)))) rfl rfl (mul_of (mul_of (x := .w (.d (.int (u : Int)))) rfl rfl (call_of a2 g4) rfl c3) rfl (call_of a3 g5) rfl c4) rfl) rfl)
theorem lot_loop {d m s : Nat} {S : Sto} (hd : d ≤ 8) (hm : m ≤ 5) (s1 : 1 ≤ s) (s2 : s ≤ 7) (hr : ∀ m' s' : Nat, m' < m → s' ≤ 7 → F__law_lots d [.d (.int (m' : Int)), .d (.int (s' : Int))] S = some (.w (.d (.int ((lotsM d m' s' : Nat) : Int))), S)) :
    ∀ (l : List Nat) (f : Nat) (x3 x4 : Option Sl), (∀ k ∈ l, 1 ≤ k ∧ k ≤ m) → ∃ y3 y4, forL (gN 3) (lotB d) (ntD l) (lEn m s f x3 x4) S = some (.nx (lEn m s (f + (l.map fun k => dn m / (dn k * dn (m - k)) * ev k * lotsM d (m - k) (s - 1)).sum) y3 y4) S)
  | [], f, x3, x4, _ => ⟨x3, x4, rfl⟩
  | k :: l, f, x3, x4, hl => by
    obtain ⟨k1, k2⟩ := hl k (by simp)
    obtain ⟨y3, y4, e⟩ := lot_loop hd hm s1 s2 hr l (f + dn m / (dn k * dn (m - k)) * ev k * lotsM d (m - k) (s - 1)) (some (.d (.int (k : Int)))) (some (.d (.int ((dn m / (dn k * dn (m - k)) : Nat) : Int)))) (fun x hx => hl x (List.mem_cons_of_mem _ hx))
    refine ⟨y3, y4, ?_⟩
    rw [List.map_cons, List.sum_cons, ← Nat.add_assoc, ← e]
    have h1 := lot_h1 (s := s) (f := f) (S := S) (x4 := x4) hm k1 k2
    have h2 := lot_h2 (d := d) (m := m) (s := s) (f := f) (k := k) (u := dn m / (dn k * dn (m - k))) (S := S) hm k1 k2 s1 (Nat.le_trans (Nat.div_le_self _ _) (dn_small m hm).1) (lots_small d hd (m - k) (by omega) (s - 1) (by omega)) (hr _ _ (by omega) (by omega))
    exact forL_nx (ds := ntD l) rfl ((seq_nx h1).trans h2)
theorem lots_step {d m s : Nat} {S : Sto} (hd : d ≤ 7) (hm : m ≤ 5) (s2 : s ≤ 7) (hr : ∀ m' s' : Nat, m' < m → s' ≤ 7 → F__law_lots d [.d (.int (m' : Int)), .d (.int (s' : Int))] S = some (.w (.d (.int ((lotsM d m' s' : Nat) : Int))), S)) :
    F__law_lots (d + 1) [.d (.int (m : Int)), .d (.int (s : Int))] S = some (.w (.d (.int ((lotsM (d + 1) m s : Nat) : Int))), S) := by
  refine (den_rt (r := .w (.d (.int ((lotsM (d + 1) m s : Nat) : Int)))) (S1 := S) rfl ?_).trans (by rw [retC_d, List.take_of_length_le (Nat.le_refl _)])
  unfold b__law_lots lotsM
  by_cases h0 : s = 0 ∨ m = 0
  · rw [if_pos h0]
    refine seq_rt ?_
    rcases h0 with h | h
    · subst h
      by_cases h2 : m = 0
      · subst h2; simp
      · simp [h2]
    · subst h
      by_cases h2 : s = 0
      · subst h2; simp
      · simp [h2]
  · rw [if_neg h0]
    have e1 : ¬ s = 0 := fun h => h0 (.inl h)
    have e2 : ¬ m = 0 := fun h => h0 (.inr h)
    refine (seq_nx (ρ1 := [some (.d (.int (m : Int))), some (.d (.int (s : Int))), none, none, none]) (S1 := S) (by simp [e1, e2])).trans ?_
    refine (seq_nx (ρ1 := lEn m s 0 none none) (S1 := S) rfl).trans ?_
    obtain ⟨y3, y4, e⟩ := lot_loop (by omega) hm (by omega) s2 hr (List.range' 1 m) 0 none none (fun k hk => by
      obtain ⟨i, h1, h2⟩ := List.mem_range'.mp hk
      omega)
    rw [Nat.zero_add] at e
    refine (seq_nx (for_of (r2_nat (i := 1) (j := m + 1) (y := (m : Int) + 1) (by omega) (by simp) (by omega) (by omega)) e)).trans ?_
    rfl
theorem lots_eq : ∀ (d m s : Nat) (S : Sto), m < d → d ≤ 8 → m ≤ 5 → s ≤ 7 → F__law_lots d [.d (.int (m : Int)), .d (.int (s : Int))] S = some (.w (.d (.int ((lotsM d m s : Nat) : Int))), S) := by
  intro d
  induction d with
  | zero => intro m s S h; omega
  | succ d ih => intro m s S hd hd6 hm hs; exact lots_step (by omega) hm hs fun m' s' h1 h2 => ih m' s' S (by omega) (by omega) (by omega) h2
/-! great -/
def grL (n p : Nat) : List (Nat × Nat) := (List.range' 1 p ++ List.range' 1 (n - p - 1)).map fun f => (1, f + 1)
def grM (M n p : Nat) : Nat × Nat := red (sumM M (grL n p)) M
theorem great_loop {M : Nat} {S : Sto} {x0 x1 : Option Sl} (hM : 0 < M) (hM2 : M < 2 ^ 50) : ∀ (l : List Nat) (X : Nat) (x3 : Option Sl), (∀ k ∈ l, okF M (1, k + 1)) → X + l.length * 2 ^ 100 ≤ 2 ^ 130 →
    ∃ y3, forL (gN 3) (bSet 2 (eN F__law_added (aCons (eVar 2) (aCons (eTup (aCons (eC (.int 1)) (aCons (eAdd (eVar 3) (eC (.int 1))) aNil))) aNil)))) (ntD l) [x0, x1, some (.d (frD (red X M))), x3] S = some (.nx [x0, x1, some (.d (frD (red (X + sumM M (l.map fun k => (1, k + 1))) M))), y3] S)
  | [], X, x3, _, _ => ⟨x3, rfl⟩
  | k :: l, X, x3, h, hb => by
    rw [List.length_cons, Nat.succ_mul] at hb
    have hf := h k (by simp)
    have hn := numM_le hM2 hf
    obtain ⟨y3, e⟩ := great_loop (S := S) (x0 := x0) (x1 := x1) hM hM2 l (X + numM M (1, k + 1)) (some (.d (.int (k : Int)))) (fun g hg => h g (List.mem_cons_of_mem _ hg)) (by omega)
    refine ⟨y3, ?_⟩
    rw [List.map_cons, sumM_cons, ← Nat.add_assoc, ← e]
    have h2 : 2 ≤ sizeLine := by decide
    obtain ⟨b1, b2, b3, _, b4⟩ := bounds hM hM2 (X := X) (by omega) hf
    have hr := part_eq (x := (red X M).1 * (k + 1) + 1 * (red X M).2) (S := S) (Nat.mul_pos (red_pos hM) hf.pos) b4
    rw [add_red hM hf] at hr
    have hbody : (bSet 2 (eN F__law_added (aCons (eVar 2) (aCons (eTup (aCons (eC (.int 1)) (aCons (eAdd (eVar 3) (eC (.int 1))) aNil))) aNil)))) [x0, x1, some (.d (frD (red X M))), some (.d (.int (k : Int)))] S = some (.nx [x0, x1, some (.d (frD (red (X + numM M (1, k + 1)) M))), some (.d (.int (k : Int)))] S) := by
      generalize red (X + numM M (1, k + 1)) M = R at hr ⊢
      generalize red X M = Q at *
      simp [frD, h2, b1, b2, b3, F__law_added, b__law_added] at hr b1 b2 b3 ⊢
      simp [hr, b1, b2, b3]
    exact forL_nx (ds := ntD l) rfl hbody
end K87

set_option Elab.async false
set_option linter.all false
set_option maxRecDepth 100000
set_option maxHeartbeats 4000000
/-! What the law expects: great, chance, deep. -/
namespace K87
open PySem L2 DL Ct
@[reducible] def M0 : Nat := 2520
theorem M0_pos : 0 < M0 := by decide
theorem M0_lt : M0 < 2 ^ 50 := by decide
instance (M : Nat) (f : Nat × Nat) : Decidable (okF M f) := decidable_of_iff (0 < f.2 ∧ f.2 ∣ M ∧ f.1 < 2 ^ 50) ⟨fun h => ⟨h.1, h.2.1, h.2.2⟩, fun h => ⟨h.pos, h.dvd, h.le⟩⟩
theorem great_ok : ∀ n, n ≤ 5 → ∀ p, p < n → ∀ k ∈ (List.range' 1 p ++ List.range' 1 (n - p - 1)), okF M0 (1, k + 1) := by decide +kernel
theorem rgl {i j : Nat} {y : Int} {f g : ED} {ρ : En} {S : Sto} (hi : i < 1000) (hj : j < 1000) (hf : f ρ S = some (.w (.d (.int (i : Int))), S)) (hg : g ρ S = some (.w (.d (.int y)), S)) (hy : y = (j : Int)) : eRg2 f g ρ S = some (.fr (ntD (List.range' i (j - i))), S) := by
  subst hy
  rw [rg2_of hf hg (inB_nat (by omega)) (inB_nat (by omega)) (by omega), show ((j : Int) - (i : Int)).toNat = j - i by omega, upTo_range]
theorem great_eq {n p : Nat} {S : Sto} (hn : n ≤ 5) (hp : p < n) : F__law_great [.d (.int (n : Int)), .d (.int (p : Int))] S = some (.w (.d (frD (grM M0 n p))), S) := by
  have hl : (List.range' 1 p ++ List.range' 1 (n - p - 1)).length ≤ 10 := by simp; omega
  obtain ⟨y3, e⟩ := great_loop (S := S) (x0 := some (.d (.int (n : Int)))) (x1 := some (.d (.int (p : Int)))) M0_pos M0_lt (List.range' 1 p ++ List.range' 1 (n - p - 1)) 0 none (great_ok n hn p hp) (by omega)
  rw [Nat.zero_add, zero_one M0_pos] at e
  refine (den_rt (r := .w (.d (frD (grM M0 n p)))) (S1 := S) rfl ?_).trans (by rw [retC_d, List.take_of_length_le (Nat.le_refl _)])
  unfold b__law_great
  have h2 : 2 ≤ sizeLine := by decide
  refine (seq_nx (ρ1 := [some (.d (.int (n : Int))), some (.d (.int (p : Int))), some (.d (frD (0, 1))), none]) (S1 := S) (by simp [h2, frD])).trans ?_
  have g1 : eRg2 (eC (.int 1)) (eAdd (eVar 1) (eC (.int 1))) [some (.d (.int (n : Int))), some (.d (.int (p : Int))), some (.d (frD (0, 1))), none] S = some (.fr (ntD (List.range' 1 p)), S) := by
    rw [rgl (i := 1) (j := p + 1) (by omega) (by omega) rfl (add_of (x := .w (.d (.int (p : Int)))) (y := .w (.d (.int 1))) rfl rfl rfl rfl) (by omega)]
    rfl
  have g2 : eRg2 (eC (.int 1)) (eSub (eVar 0) (eVar 1)) [some (.d (.int (n : Int))), some (.d (.int (p : Int))), some (.d (frD (0, 1))), none] S = some (.fr (ntD (List.range' 1 (n - p - 1))), S) := by
    rw [rgl (i := 1) (j := n - p) (by omega) (by omega) rfl (sub_of (x := .w (.d (.int (n : Int)))) (y := .w (.d (.int (p : Int)))) rfl rfl rfl rfl) (by omega)]
  have g3 : eAdd (eRg2 (eC (.int 1)) (eAdd (eVar 1) (eC (.int 1)))) (eRg2 (eC (.int 1)) (eSub (eVar 0) (eVar 1))) [some (.d (.int (n : Int))), some (.d (.int (p : Int))), some (.d (frD (0, 1))), none] S = some (.fr (ntD (List.range' 1 p ++ List.range' 1 (n - p - 1))), S) := by
    refine e2_of g1 rfl g2 rfl ?_
    rw [frz_fr, frz_fr, kAdd_lists, kCat_lists, if_pos (sz (by unfold ntD; simp; omega))]
    unfold ntD
    rw [List.map_append]
  refine (seq_nx (for_of (xs := ntD (List.range' 1 p ++ List.range' 1 (n - p - 1))) (S1 := S) ?_ e)).trans ?_
  · rw [iSq_, g3]; rfl
  · rfl
/-! chance -/
def chM : Nat → Nat → Nat → Nat → Bool → Nat × Nat
  | 0, _, _, _, _ => (0, 1)
  | k + 1, n, a, b, f => if a = b ∨ n = 1 then (0, 1) else
      red (sumM M0 ((List.range (n - 1)).map fun g =>
        if decide (a ≤ g) == decide (b ≤ g) then (if a ≤ g then chM k (g + 1) a b f else chM k (n - g - 1) (a - g - 1) (b - g - 1) f)
        else (1, if f then n * (if a ≤ g then g + 1 else n - g - 1) else n))) (M0 * (n - 1))
def chI (k n a b : Nat) (f : Bool) (g : Nat) : Nat × Nat :=
  if decide (a ≤ g) == decide (b ≤ g) then (if a ≤ g then chM k (g + 1) a b f else chM k (n - g - 1) (a - g - 1) (b - g - 1) f)
        else (1, if f then n * (if a ≤ g then g + 1 else n - g - 1) else n)
theorem ch_ok : ∀ k, k ≤ 7 → ∀ n, n ≤ 5 → ∀ a, a < n → ∀ b, b < n → ∀ f : Bool, ∀ g, g < n - 1 → okF M0 (chI k n a b f g) := by decide +kernel
def chB (self_ : FD) : SD := (bIf (bE (eEq (eLe (eVar 1) (eVar 5)) (eLe (eVar 2) (eVar 5)))) (bSeq (bUnp [6, 7] (eIf (bE (eLe (eVar 1) (eVar 5))) (eTup (aCons (eC (.int 0)) (aCons (eAdd (eVar 5) (eC (.int 1))) aNil))) (eTup (aCons (eAdd (eVar 5) (eC (.int 1))) (aCons (eSub (eSub (eVar 0) (eVar 5)) (eC (.int 1))) aNil))))) (bX (eM kApp (eVar 4) (aCons (eN self_ (aCons (eVar 7) (aCons (eSub (eVar 1) (eVar 6)) (aCons (eSub (eVar 2) (eVar 6)) (aCons (eVar 3) aNil))))) aNil)))) (bSeq (bSet 8 (eIf (bE (eLe (eVar 1) (eVar 5))) (eAdd (eVar 5) (eC (.int 1))) (eSub (eSub (eVar 0) (eVar 5)) (eC (.int 1))))) (bX (eM kApp (eVar 4) (aCons (eTup (aCons (eC (.int 1)) (aCons (eIf (bE (eVar 3)) (eMul (eVar 0) (eVar 8)) (eVar 0)) aNil))) aNil)))))
abbrev cEn (n a b : Nat) (f : Bool) (L g : Nat) (x6 x7 x8 : Option Sl) : En := [some (.d (.int (n : Int))), some (.d (.int (a : Int))), some (.d (.int (b : Int))), some (.d (.bool f)), some (.c L), some (.d (.int (g : Int))), x6, x7, x8]
theorem app_of {w : Sl} {f : ED} {ρ : En} {S S1 : Sto} {i : Nat} {x : Rs} {d : D} {ls : List D} (hv : w = .c i) (fw : ED) (hw : fw ρ S = some (.w w, S)) (hl : (S[i]?).map Cel.xs = some ls) (hf : f ρ S = some (x, S1)) (hx : frz x = .d d) (h1 : S1[i]? = some (.on ls)) (hs : ls.length < sizeLine) :
    bX (eM kApp fw (aCons f aNil)) ρ S = some (.nx ρ (S1.set i (.on (ls ++ [d])))) := by
  subst hv
  have ha : aCons f aNil ρ S = some ([.d d], S1) := acons_of hf hx rfl
  obtain ⟨c, hc, hcl⟩ := Option.map_eq_some_iff.mp hl
  rw [bX_, eM_, hw, Option.bind_some, frz_w, rd_c, hc]
  show (((if isLs (PyData.list c.xs) = true then (aCons f aNil ρ S).bind fun y => kApp (.c i) y.1 y.2 else none)).bind _) = _
  rw [isLs_l, if_pos rfl, ha, Option.bind_some]
  show ((off S1 (.d d)).bind fun y => (dat y.1).bind fun e => (onC y.2 (.c i)).bind fun c => if c.2.length < sizeLine then some (Rs.w (.d .none), y.2.set c.1 (.on (c.2 ++ [e]))) else none).bind _ = _
  rw [off_d, Option.bind_some, dat_d, Option.bind_some, onC_c, h1]
  show ((if ls.length < sizeLine then _ else _) : Option (Rs × Sto)).bind _ = _
  rw [if_pos hs]
  rfl
theorem chB_eq {k n a b g : Nat} {f : Bool} {S : Sto} {ls : List D} {x6 x7 x8 : Option Sl} {self_ : FD} (hn : n ≤ 5) (hg : g < n - 1) (ha : a < n) (hb : b < n) (hl : ls.length ≤ 1000)
    (hr : ∀ n' a' b' : Nat, n' < n → a' < n' → b' < n' → ∀ S' : Sto, self_ [.d (.int (n' : Int)), .d (.int (a' : Int)), .d (.int (b' : Int)), .d (.bool f)] S' = some (.w (.d (frD (chM k n' a' b' f))), S')) :
    ∃ y6 y7 y8, chB self_ (cEn n a b f S.length g x6 x7 x8) (S ++ [Cel.on ls]) = some (.nx (cEn n a b f S.length g y6 y7 y8) (S ++ [Cel.on (ls ++ [frD (chI k n a b f g)])])) := by
  have h2 : 2 ≤ sizeLine := by decide
  have hs : (S ++ [Cel.on ls])[S.length]? = some (.on ls) := by
    rw [List.getElem?_append_right (Nat.le_refl _)]
    simp
  have hset : ∀ d, (S ++ [Cel.on ls]).set S.length (.on (ls ++ [d])) = S ++ [Cel.on (ls ++ [d])] := fun d => by
    rw [List.set_append_right _ _ (Nat.le_refl _)]
    simp
  have hsz : ls.length < sizeLine := Nat.lt_of_le_of_lt hl (by decide)
  have hls : ((S ++ [Cel.on ls])[S.length]?).map Cel.xs = some ls := by rw [hs]; rfl
  generalize S ++ [Cel.on ls] = T at *
  have da : ∀ y6 y7 y8, (eLe (eVar 1) (eVar 5)) (cEn n a b f S.length g y6 y7 y8) T = some (.w (.d (.bool (decide (a ≤ g)))), T) := fun _ _ _ => by simp
  have db : ∀ y6 y7 y8, (eLe (eVar 2) (eVar 5)) (cEn n a b f S.length g y6 y7 y8) T = some (.w (.d (.bool (decide (b ≤ g)))), T) := fun _ _ _ => by simp
  have dt : ∀ y6 y7 y8, (bE (eEq (eLe (eVar 1) (eVar 5)) (eLe (eVar 2) (eVar 5)))) (cEn n a b f S.length g y6 y7 y8) T = some (decide (a ≤ g) == decide (b ≤ g), T) := fun y6 y7 y8 => by
    refine bE_of' (x := .w (.d (.bool (decide (a ≤ g) == decide (b ≤ g))))) ?_ rfl
    refine e2_of (da _ _ _) rfl (db _ _ _) rfl ?_
    generalize decide (a ≤ g) = p
    generalize decide (b ≤ g) = q
    show k2D (oEq false) (.d (.bool p)) (.d (.bool q)) T = _
    rw [k2D_, oEq_bools]
    cases p <;> cases q <;> rfl
  have dg : ∀ y6 y7 y8, (bE (eLe (eVar 1) (eVar 5))) (cEn n a b f S.length g y6 y7 y8) T = some (decide (a ≤ g), T) := fun y6 y7 y8 => bE_of' (da _ _ _) rfl
  unfold chI chB
  by_cases h1 : a ≤ g
  · by_cases h3 : b ≤ g
    · rw [decide_eq_true h1, decide_eq_true h3, if_pos (by rfl), if_pos h1]
      refine ⟨some (.d (.int 0)), some (.d (.int ((g : Int) + 1))), x8, ?_⟩
      refine if_t (S1 := T) (by rw [dt, decide_eq_true h1, decide_eq_true h3]; rfl) ?_
      refine (seq_nx (unp_of (ρ' := cEn n a b f S.length g (some (.d (.int 0))) (some (.d (.int ((g : Int) + 1)))) x8) (eif_t (S1 := T) (by rw [dg, decide_eq_true h1]) (tup_of (ws := [.d (.int 0), .d (.int ((g : Int) + 1))]) (ds := [.int 0, .int ((g : Int) + 1)]) rfl rfl (by simp))) rfl rfl)).trans ?_
      have hc := hr (g + 1) a b (by omega) (by omega) (by omega) T
      rw [← hset]
      refine app_of (x := .w (.d (frD (chM k (g + 1) a b f)))) rfl (eVar 4) rfl hls (call_of (S1 := T) (ws := [.d (.int ((g : Int) + 1)), .d (.int ((a : Int) - 0)), .d (.int ((b : Int) - 0)), .d (.bool f)]) rfl ?_) rfl hs hsz
      rw [Int.sub_zero, Int.sub_zero]
      exact hc
    · rw [decide_eq_true h1, decide_eq_false h3, if_neg (by decide), if_pos h1]
      refine ⟨x6, x7, some (.d (.int ((g : Int) + 1))), ?_⟩
      refine if_f (S1 := T) (by rw [dt, decide_eq_true h1, decide_eq_false h3]; rfl) ?_
      have e8 : ((g + 1 : Nat) : Int) = (g : Int) + 1 := by omega
      have em : ((n * (g + 1) : Nat) : Int) = (n : Int) * ((g : Int) + 1) := by rw [Int.natCast_mul, e8]
      have cm := cM (x := n) (y := g + 1) (by omega) (by omega)
      rw [e8] at cm
      refine (seq_nx (set_of (x := .w (.d (.int ((g : Int) + 1)))) (eif_t (S1 := T) (by rw [dg, decide_eq_true h1]) rfl) rfl)).trans ?_
      rw [← hset]
      have d3 : (bE (eVar 3)) (cEn n a b f S.length g x6 x7 (some (.d (.int ((g : Int) + 1))))) T = some (f, T) := bE_of' (x := .w (.d (.bool f))) rfl rfl
      cases f with
      | true =>
        refine app_of (x := .w (.d (frD (1, n * (g + 1))))) rfl (eVar 4) rfl hls ?_ rfl hs hsz
        unfold frD
        rw [em]
        exact tup_of (ws := [.d (.int 1), .d (.int ((n : Int) * ((g : Int) + 1)))]) (acons_of (x := .w (.d (.int 1))) rfl rfl (acons_of (eif_t d3 (mul_of (x := .w (.d (.int (n : Int)))) (y := .w (.d (.int ((g : Int) + 1)))) rfl rfl rfl rfl cm)) rfl rfl)) rfl (by simp)
      | false =>
        refine app_of (x := .w (.d (frD (1, n)))) rfl (eVar 4) rfl hls ?_ rfl hs hsz
        exact tup_of (ws := [.d (.int 1), .d (.int (n : Int))]) (acons_of (x := .w (.d (.int 1))) rfl rfl (acons_of (x := .w (.d (.int (n : Int)))) (eif_f d3 rfl) rfl rfl)) rfl (by simp)
  · by_cases h3 : b ≤ g
    · rw [decide_eq_false h1, decide_eq_true h3, if_neg (by decide), if_neg h1]
      refine ⟨x6, x7, some (.d (.int ((n : Int) - (g : Int) - 1))), ?_⟩
      refine if_f (S1 := T) (by rw [dt, decide_eq_false h1, decide_eq_true h3]; rfl) ?_
      have e8 : ((n - g - 1 : Nat) : Int) = (n : Int) - (g : Int) - 1 := by omega
      have em : ((n * (n - g - 1) : Nat) : Int) = (n : Int) * ((n : Int) - (g : Int) - 1) := by rw [Int.natCast_mul, e8]
      have cm := cM (x := n) (y := n - g - 1) (by omega) (by omega)
      rw [e8] at cm
      refine (seq_nx (set_of (x := .w (.d (.int ((n : Int) - (g : Int) - 1)))) (eif_f (S1 := T) (by rw [dg, decide_eq_false h1]) rfl) rfl)).trans ?_
      rw [← hset]
      have d3 : (bE (eVar 3)) (cEn n a b f S.length g x6 x7 (some (.d (.int ((n : Int) - (g : Int) - 1))))) T = some (f, T) := bE_of' (x := .w (.d (.bool f))) rfl rfl
      cases f with
      | true =>
        refine app_of (x := .w (.d (frD (1, n * (n - g - 1))))) rfl (eVar 4) rfl hls ?_ rfl hs hsz
        unfold frD
        rw [em]
        exact tup_of (ws := [.d (.int 1), .d (.int ((n : Int) * ((n : Int) - (g : Int) - 1)))]) (acons_of (x := .w (.d (.int 1))) rfl rfl (acons_of (eif_t d3 (mul_of (x := .w (.d (.int (n : Int)))) (y := .w (.d (.int ((n : Int) - (g : Int) - 1)))) rfl rfl rfl rfl cm)) rfl rfl)) rfl (by simp)
      | false =>
        refine app_of (x := .w (.d (frD (1, n)))) rfl (eVar 4) rfl hls ?_ rfl hs hsz
        exact tup_of (ws := [.d (.int 1), .d (.int (n : Int))]) (acons_of (x := .w (.d (.int 1))) rfl rfl (acons_of (x := .w (.d (.int (n : Int)))) (eif_f d3 rfl) rfl rfl)) rfl (by simp)
    · rw [decide_eq_false h1, decide_eq_false h3, if_pos (by rfl), if_neg h1]
      refine ⟨some (.d (.int ((g : Int) + 1))), some (.d (.int ((n : Int) - (g : Int) - 1))), x8, ?_⟩
      refine if_t (S1 := T) (by rw [dt, decide_eq_false h1, decide_eq_false h3]; rfl) ?_
      refine (seq_nx (unp_of (ρ' := cEn n a b f S.length g (some (.d (.int ((g : Int) + 1)))) (some (.d (.int ((n : Int) - (g : Int) - 1)))) x8) (eif_f (S1 := T) (by rw [dg, decide_eq_false h1]) (tup_of (ws := [.d (.int ((g : Int) + 1)), .d (.int ((n : Int) - (g : Int) - 1))]) (ds := [.int ((g : Int) + 1), .int ((n : Int) - (g : Int) - 1)]) rfl rfl (by simp))) rfl rfl)).trans ?_
      have hc := hr (n - g - 1) (a - g - 1) (b - g - 1) (by omega) (by omega) (by omega) T
      rw [← hset]
      refine app_of (x := .w (.d (frD (chM k (n - g - 1) (a - g - 1) (b - g - 1) f)))) rfl (eVar 4) rfl hls (call_of (S1 := T) (ws := [.d (.int ((n : Int) - (g : Int) - 1)), .d (.int ((a : Int) - ((g : Int) + 1))), .d (.int ((b : Int) - ((g : Int) + 1))), .d (.bool f)]) rfl ?_) rfl hs hsz
      rw [show (n : Int) - (g : Int) - 1 = ((n - g - 1 : Nat) : Int) by omega, show (a : Int) - ((g : Int) + 1) = ((a - g - 1 : Nat) : Int) by omega, show (b : Int) - ((g : Int) + 1) = ((b - g - 1 : Nat) : Int) by omega]
      exact hc
theorem mean_gen {M many : Nat} {S S' : Sto} {w : Sl} {L : List (Nat × Nat)} (ho : off S w = some (.d (.list (L.map frD)), S')) (hS : S'.length = S.length) (hM : 0 < M) (hM2 : M < 2 ^ 50) (h : ∀ f ∈ L, okF M f) (hl : L.length ≤ 1000000) (hm : 0 < many) (hm2 : many < 2 ^ 50) :
    F__law_mean [w, .d (.int (many : Int))] S = some (.w (.d (frD (red (sumM M L) (M * many)))), S') := by
  obtain ⟨y3, e⟩ := lsum_loop (S := S') (x0 := some w) (x1 := some (.d (.int (many : Int)))) hM hM2 L 0 none h (by omega)
  rw [Nat.zero_add, zero_one hM] at e
  refine (den_rt (r := .w (.d (frD (red (sumM M L) (M * many))))) (S1 := S') rfl ?_).trans (by rw [retC_d, ← hS, List.take_of_length_le (Nat.le_refl _)])
  unfold b__law_mean
  have h2 : 2 ≤ sizeLine := by decide
  refine (seq_nx (ρ1 := [some w, some (.d (.int (many : Int))), some (.d (frD (0, 1))), none]) (S1 := S) (by simp [h2, frD])).trans ?_
  have hi : iSq (eVar 0) [some w, some (.d (.int (many : Int))), some (.d (frD (0, 1))), none] S = some (L.map frD, S') := by
    rw [iSq_, eVar_]
    show (off S w).bind _ = _
    rw [ho]
    rfl
  refine (seq_nx (for_of hi e)).trans ?_
  have hs := red_le (X := sumM M L) (M := M)
  have hx := sumM_le hM2 L h
  have hb : (red (sumM M L) M).2 * many ≤ 2 ^ 50 * 2 ^ 50 := Nat.mul_le_mul (by omega) (by omega)
  have hr := part_eq (x := (red (sumM M L) M).1) (y := (red (sumM M L) M).2 * many) (S := S') (Nat.mul_pos (red_pos hM) hm) (lt1000 (by omega))
  rw [mean_red hM hm] at hr
  have hc : cMul ((red (sumM M L) M).2 : Int) (many : Int) = true := cMul_lt (by rw [Int.natAbs_natCast]; exact lt1000 (by omega)) (by rw [Int.natAbs_natCast]; exact lt1000 (by omega))
  generalize red (sumM M L) (M * many) = R at hr ⊢
  generalize red (sumM M L) M = Q at *
  simp [frD, hc] at hr ⊢
  simp [hr]
theorem ch_loop {k n a b : Nat} {f : Bool} {S : Sto} {self_ : FD} (hn : n ≤ 5) (ha : a < n) (hb : b < n)
    (hr : ∀ n' a' b' : Nat, n' < n → a' < n' → b' < n' → ∀ S' : Sto, self_ [.d (.int (n' : Int)), .d (.int (a' : Int)), .d (.int (b' : Int)), .d (.bool f)] S' = some (.w (.d (frD (chM k n' a' b' f))), S')) :
    ∀ (l : List Nat) (ls : List D) (g0 x6 x7 x8 : Option Sl), (∀ g ∈ l, g < n - 1) → ls.length + l.length ≤ 1000 → ∃ z5 y6 y7 y8, forL (gN 5) (chB self_) (ntD l) [some (.d (.int (n : Int))), some (.d (.int (a : Int))), some (.d (.int (b : Int))), some (.d (.bool f)), some (.c S.length), g0, x6, x7, x8] (S ++ [Cel.on ls]) =
      some (.nx [some (.d (.int (n : Int))), some (.d (.int (a : Int))), some (.d (.int (b : Int))), some (.d (.bool f)), some (.c S.length), z5, y6, y7, y8] (S ++ [Cel.on (ls ++ l.map fun g => frD (chI k n a b f g))]))
  | [], ls, g0, x6, x7, x8, _, _ => ⟨g0, x6, x7, x8, by rw [List.map_nil, List.append_nil]; rfl⟩
  | g :: l, ls, g0, x6, x7, x8, hl, hz => by
    rw [List.length_cons] at hz
    obtain ⟨y6, y7, y8, e1⟩ := chB_eq (g := g) (S := S) (ls := ls) (x6 := x6) (x7 := x7) (x8 := x8) hn (hl g (by simp)) ha hb (by omega) hr
    obtain ⟨z5, w6, w7, w8, e2⟩ := ch_loop hn ha hb hr l (ls ++ [frD (chI k n a b f g)]) (some (.d (.int (g : Int)))) y6 y7 y8 (fun x hx => hl x (List.mem_cons_of_mem _ hx)) (by simp; omega)
    refine ⟨z5, w6, w7, w8, ?_⟩
    have e3 : ls ++ (g :: l).map (fun g => frD (chI k n a b f g)) = (ls ++ [frD (chI k n a b f g)]) ++ l.map fun g => frD (chI k n a b f g) := by simp
    rw [e3, ← e2]
    exact forL_nx (ds := ntD l) rfl e1
theorem ch_step {k n a b : Nat} {f : Bool} {S : Sto} (hk : k ≤ 7) (hn : n ≤ 5) (ha : a < n) (hb : b < n)
    (hr : ∀ n' a' b' : Nat, n' < n → a' < n' → b' < n' → ∀ S' : Sto, F__law_chance k [.d (.int (n' : Int)), .d (.int (a' : Int)), .d (.int (b' : Int)), .d (.bool f)] S' = some (.w (.d (frD (chM k n' a' b' f))), S')) :
    F__law_chance (k + 1) [.d (.int (n : Int)), .d (.int (a : Int)), .d (.int (b : Int)), .d (.bool f)] S = some (.w (.d (frD (chM (k + 1) n a b f))), S) := by
  have h2 : 2 ≤ sizeLine := by decide
  unfold chM
  by_cases h0 : a = b ∨ n = 1
  · rw [if_pos h0]
    refine (den_rt (r := .w (.d (frD (0, 1)))) (S1 := S) rfl ?_).trans (by rw [retC_d, List.take_of_length_le (Nat.le_refl _)])
    unfold b__law_chance
    refine seq_rt ?_
    rcases h0 with h | h
    · subst h; simp [h2, frD]
    · subst h
      have : a = b := by omega
      subst this; simp [h2, frD]
  · rw [if_neg h0]
    have e1 : ¬ a = b := fun h => h0 (.inl h)
    have e2 : ¬ n = 1 := fun h => h0 (.inr h)
    have e3 : ¬ ((a : Int) = (b : Int)) := by omega
    have e4 : ¬ ((n : Int) = 1) := by omega
    obtain ⟨z5, y6, y7, y8, e⟩ := ch_loop (S := S) hn ha hb hr (List.range (n - 1)) [] none none none none (fun g hg => List.mem_range.mp hg) (by simp; omega)
    have hok := ch_ok k hk n hn a ha b hb f
    have em : [] ++ (List.range (n - 1)).map (fun g => frD (chI k n a b f g)) = ((List.range (n - 1)).map (chI k n a b f)).map frD := by simp
    rw [em] at e
    have hn1 : (n : Int) - 1 = ((n - 1 : Nat) : Int) := by omega
    generalize hL : (List.range (n - 1)).map (chI k n a b f) = L at e
    have hLd : (List.range (n - 1)).map (fun g => if decide (a ≤ g) == decide (b ≤ g) then (if a ≤ g then chM k (g + 1) a b f else chM k (n - g - 1) (a - g - 1) (b - g - 1) f) else (1, if f then n * (if a ≤ g then g + 1 else n - g - 1) else n)) = L := hL
    rw [hLd]
    have hoff : off (S ++ [Cel.on (L.map frD)]) (.c S.length) = some (.d (.list (L.map frD)), S ++ [Cel.off (L.map frD)]) := by
      rw [off_c, List.getElem?_append_right (Nat.le_refl _)]
      simp
    have hmean := mean_gen (M := M0) (many := n - 1) hoff (by simp) M0_pos M0_lt (fun x hx => by
      rw [← hL] at hx
      obtain ⟨g, hg, rfl⟩ := List.mem_map.mp hx
      exact hok g (List.mem_range.mp hg)) (by rw [← hL]; simp; omega) (by omega) (by omega)
    refine (den_rt (r := .w (.d (frD (red (sumM M0 L) (M0 * (n - 1)))))) (S1 := S ++ [Cel.off (L.map frD)]) rfl ?_).trans (by rw [retC_d]; simp)
    unfold b__law_chance
    refine (seq_nx (ρ1 := [some (.d (.int (n : Int))), some (.d (.int (a : Int))), some (.d (.int (b : Int))), some (.d (.bool f)), none, none, none, none, none]) (S1 := S) (by simp [e1, e2, e3, e4])).trans ?_
    refine (seq_nx (ρ1 := [some (.d (.int (n : Int))), some (.d (.int (a : Int))), some (.d (.int (b : Int))), some (.d (.bool f)), some (.c S.length), none, none, none, none]) (S1 := S ++ [Cel.on []]) (by simp)).trans ?_
    refine (seq_nx (for_of (r1_of (j := (n : Int) - 1) (S1 := S ++ [Cel.on []]) rfl (by rw [hn1]; exact inB_nat (by omega))) (by rw [hn1, Int.toNat_natCast, upTo_nat]; exact e))).trans ?_
    refine ret_of (call_of (ws := [.c S.length, .d (.int ((n : Int) - 1))]) (S1 := S ++ [Cel.on (L.map frD)]) rfl ?_)
    rw [hn1]
    exact hmean
theorem chance_eq : ∀ (k n a b : Nat) (f : Bool) (S : Sto), n < k → k ≤ 8 → n ≤ 5 → a < n → b < n → F__law_chance k [.d (.int (n : Int)), .d (.int (a : Int)), .d (.int (b : Int)), .d (.bool f)] S = some (.w (.d (frD (chM k n a b f))), S) := by
  intro k
  induction k with
  | zero => intro n a b f S h; omega
  | succ k ih => intro n a b f S hk hk8 hn ha hb; exact ch_step (by omega) hn ha hb fun n' a' b' h1 h2 h3 S' => ih n' a' b' f S' (by omega) (by omega) (by omega) h2 h3
end K87

set_option Elab.async false
set_option linter.all false
set_option maxRecDepth 100000
set_option maxHeartbeats 4000000
/-! deep -/
namespace K87
open PySem L2 DL Ct
def dpS (k : Nat) (o : Nat × Nat) : Nat × Nat := (2 * o.1, o.2 * (k - 1))
def dpL : Nat → List (Nat × Nat)
  | 0 => [(0, 1), (0, 1)]
  | j + 1 => dpL j ++ [red (numM M0 (j + 3, 3) + sumM M0 (((dpL j).drop 1).map (dpS (j + 2)))) M0]
theorem dp_len : ∀ j, (dpL j).length = j + 2
  | 0 => rfl
  | j + 1 => by rw [dpL, List.length_append, dp_len j]; rfl
theorem dp_ok : ∀ j, j ≤ 3 → okF M0 (j + 3, 3) ∧ ∀ o ∈ (dpL j).drop 1, okF M0 (dpS (j + 2) o) ∧ o.1 ≤ 1000000 ∧ o.2 ≤ 1000000 := by decide +kernel
def dpB : SD := (bSet 3 (eN F__law_added (aCons (eVar 3) (aCons (eTup (aCons (eMul (eC (.int 2)) (eIx (eVar 4) (eC (.int 0)))) (aCons (eMul (eIx (eVar 4) (eC (.int 1))) (eSub (eVar 2) (eC (.int 1)))) aNil))) aNil))))
theorem dp_turn {X k : Nat} {o : Nat × Nat} {S : Sto} {x0 x1 : Option Sl} (hk : 1 ≤ k) (hk2 : k ≤ 6) (hX : X ≤ 2 ^ 130) (ho : okF M0 (dpS k o)) (h1 : o.1 ≤ 1000000) (h2 : o.2 ≤ 1000000) :
    dpB [x0, x1, some (.d (.int (k : Int))), some (.d (frD (red X M0))), some (.d (frD o))] S = some (.nx [x0, x1, some (.d (.int (k : Int))), some (.d (frD (red (X + numM M0 (dpS k o)) M0))), some (.d (frD o))] S) := by
  have hs : 2 ≤ sizeLine := by decide
  obtain ⟨b1, b2, b3, _, b4⟩ := bounds M0_pos M0_lt hX ho
  have hr := part_eq (x := (red X M0).1 * (dpS k o).2 + (dpS k o).1 * (red X M0).2) (S := S) (Nat.mul_pos (red_pos M0_pos) ho.pos) b4
  rw [add_red M0_pos ho] at hr
  have c1 := cM (x := 2) (y := o.1) (by omega) (by omega)
  have c2 := cM (x := o.2) (y := k - 1) (by omega) (by omega)
  have w1 : (k : Int) - 1 = ((k - 1 : Nat) : Int) := by omega
  have c1' : cMul 2 (o.1 : Int) = true := c1
  have ha : F__law_added [.d (frD (red X M0)), .d (frD (dpS k o))] S = some (.w (.d (frD (red (X + numM M0 (dpS k o)) M0))), S) := by
    generalize red (X + numM M0 (dpS k o)) M0 = R at hr ⊢
    generalize red X M0 = Q at *
    generalize dpS k o = f at *
    simp [frD, b1, b2, b3, F__law_added, b__law_added] at hr ⊢
    simp [hr]
  have e1 : frD (dpS k o) = .tuple [.int (2 * (o.1 : Int)), .int ((o.2 : Int) * ((k : Int) - 1))] := by
    unfold frD dpS
    rw [w1]
    simp
  rw [e1] at ha
  rw [← w1] at c2
  refine set_of (call_of (ws := [.d (frD (red X M0)), .d (.tuple [.int (2 * (o.1 : Int)), .int ((o.2 : Int) * ((k : Int) - 1))])]) (S1 := S) ?_ ha) rfl
  refine acons_of (x := .w (.d (frD (red X M0)))) rfl rfl (acons_of (tup_of (ws := [.d (.int (2 * (o.1 : Int))), .d (.int ((o.2 : Int) * ((k : Int) - 1)))]) (S1 := S) ?_ rfl (by simp)) rfl rfl)
  refine acons_of (mul_of (S1 := S) (S2 := S) (x := .w (.d (.int 2))) (y := .w (.d (.int (o.1 : Int)))) rfl rfl (by simp [frD]) rfl c1') rfl (acons_of (mul_of (S1 := S) (S2 := S) (x := .w (.d (.int (o.2 : Int)))) (y := .w (.d (.int ((k : Int) - 1)))) (by simp [frD]) rfl rfl rfl c2) rfl rfl)
theorem dp_inner {k : Nat} {S : Sto} {x0 x1 : Option Sl} (hk : 1 ≤ k) (hk2 : k ≤ 6) : ∀ (l : List (Nat × Nat)) (X : Nat) (x4 : Option Sl), (∀ o ∈ l, okF M0 (dpS k o) ∧ o.1 ≤ 1000000 ∧ o.2 ≤ 1000000) → X + l.length * 2 ^ 100 ≤ 2 ^ 130 →
    ∃ y4, forL (gN 4) dpB (l.map frD) [x0, x1, some (.d (.int (k : Int))), some (.d (frD (red X M0))), x4] S = some (.nx [x0, x1, some (.d (.int (k : Int))), some (.d (frD (red (X + sumM M0 (l.map (dpS k))) M0))), y4] S)
  | [], X, x4, _, _ => ⟨x4, rfl⟩
  | o :: l, X, x4, h, hb => by
    rw [List.length_cons, Nat.succ_mul] at hb
    obtain ⟨h1, h2, h3⟩ := h o (by simp)
    have hn := numM_le M0_lt h1
    obtain ⟨y4, e⟩ := dp_inner (S := S) (x0 := x0) (x1 := x1) hk hk2 l (X + numM M0 (dpS k o)) (some (.d (frD o))) (fun g hg => h g (List.mem_cons_of_mem _ hg)) (by omega)
    refine ⟨y4, ?_⟩
    rw [List.map_cons (f := dpS k), sumM_cons, ← Nat.add_assoc, ← e]
    exact forL_nx (ds := l.map frD) rfl (dp_turn hk hk2 (by omega) h1 h2 h3)
theorem iSq_of {f : ED} {ρ : En} {S S1 : Sto} {x : Rs} {d : D} {xs : List D} (hf : f ρ S = some (x, S1)) (hx : frz x = .d d) (hd : itemsD d = some xs) : iSq f ρ S = some (xs, S1) := by
  rw [iSq_, hf, Option.bind_some, hx, off_d, Option.bind_some, dat_d, Option.bind_some, hd]
  rfl
def dpO : SD := (bSeq (bSet 3 (eN F__law_part (aCons (eAdd (eVar 2) (eC (.int 1))) (aCons (eC (.int 3)) aNil)))) (bSeq (bFor (iSq (eSl (eVar 1) (oSom (eC (.int 1))) (oSom (eVar 2)))) (gN 4) dpB) (bX (eM kApp (eVar 1) (aCons (eVar 3) aNil)))))
theorem dp_outer {n j : Nat} {S : Sto} {x3 x4 : Option Sl} (hj : j ≤ 3) :
    ∃ y3 y4, dpO [some (.d (.int (n : Int))), some (.c S.length), some (.d (.int ((j + 2 : Nat) : Int))), x3, x4] (S ++ [Cel.on ((dpL j).map frD)]) =
      some (.nx [some (.d (.int (n : Int))), some (.c S.length), some (.d (.int ((j + 2 : Nat) : Int))), y3, y4] (S ++ [Cel.on ((dpL (j + 1)).map frD)])) := by
  obtain ⟨ho, hall⟩ := dp_ok j hj
  have hlen := dp_len j
  have hd : ((dpL j).drop 1).length = j + 1 := by rw [List.length_drop, hlen]; omega
  have hn3 := numM_le M0_lt ho
  have hs : (S ++ [Cel.on ((dpL j).map frD)])[S.length]? = some (.on ((dpL j).map frD)) := by
    rw [List.getElem?_append_right (Nat.le_refl _)]
    simp
  have hset : ∀ d, (S ++ [Cel.on ((dpL j).map frD)]).set S.length (.on ((dpL j).map frD ++ [d])) = S ++ [Cel.on ((dpL j).map frD ++ [d])] := fun d => by
    rw [List.set_append_right _ _ (Nat.le_refl _)]
    simp
  have hsz : ((dpL j).map frD).length < sizeLine := Nat.lt_of_le_of_lt (m := 1000) (by rw [List.length_map, hlen]; omega) (by decide)
  have e0 : (dpL (j + 1)).map frD = (dpL j).map frD ++ [frD (red (numM M0 (j + 3, 3) + sumM M0 (((dpL j).drop 1).map (dpS (j + 2)))) M0)] := by rw [dpL, List.map_append]; rfl
  rw [e0, ← hset]
  generalize hT : S ++ [Cel.on ((dpL j).map frD)] = T at *
  obtain ⟨y4, e⟩ := dp_inner (k := j + 2) (S := T) (x0 := some (.d (.int (n : Int)))) (x1 := some (.c S.length)) (by omega) (by omega) ((dpL j).drop 1) (numM M0 (j + 3, 3)) x4 hall (by omega)
  refine ⟨some (.d (frD (red (numM M0 (j + 3, 3) + sumM M0 (((dpL j).drop 1).map (dpS (j + 2)))) M0))), y4, ?_⟩
  have hp := part_eq (x := j + 3) (y := 3) (S := T) (by decide) (lt1000 (by decide))
  have hr3 : red (j + 3) 3 = red (numM M0 (j + 3, 3)) M0 := red_same (by decide) M0_pos (by unfold numM; show (j + 3) * 2520 = (j + 3) * (2520 / 3) * 3; omega)
  rw [hr3] at hp
  have w1 : (((j + 2 : Nat) : Int)) + 1 = ((j + 3 : Nat) : Int) := by omega
  unfold dpO
  refine (seq_nx (set_of (u := .d (frD (red (numM M0 (j + 3, 3)) M0))) (call_of (ws := [.d (.int ((j + 3 : Nat) : Int)), .d (.int 3)]) (S1 := T) ?_ hp) rfl)).trans ?_
  · rw [← w1]; rfl
  have hcut : eSl (eVar 1) (oSom (eC (.int 1))) (oSom (eVar 2)) [some (.d (.int (n : Int))), some (.c S.length), some (.d (.int ((j + 2 : Nat) : Int))), some (.d (frD (red (numM M0 (j + 3, 3)) M0))), x4] T = some (.fr (((dpL j).drop 1).map frD), T) := by
    have hc : cutL ((dpL j).map frD) (some 1) (some ((j + 2 : Nat) : Int)) = ((dpL j).drop 1).map frD := by
      rw [show (some (1 : Int)) = some ((1 : Nat) : Int) from rfl, cutL_nat (by omega) (by rw [List.length_map, hlen]; exact Nat.le_refl _), List.map_drop, List.take_of_length_le (by simp [hlen])]
    rw [eSl_, eVar_]
    show kSl (.c S.length) (some 1) (some ((j + 2 : Nat) : Int)) T = _
    unfold kSl
    rw [rd_c, hs]
    show some (Rs.fr (cutL ((dpL j).map frD) (some 1) (some ((j + 2 : Nat) : Int))), T) = _
    rw [hc]
  refine (seq_nx (for_of (xs := ((dpL j).drop 1).map frD) (S1 := T) ?_ e)).trans ?_
  · exact iSq_of hcut rfl rfl
  · exact app_of (x := .w (.d (frD (red (numM M0 (j + 3, 3) + sumM M0 (((dpL j).drop 1).map (dpS (j + 2)))) M0)))) rfl (eVar 1) rfl (by rw [hs]; rfl) rfl rfl hs hsz
theorem dp_all {n : Nat} {S : Sto} : ∀ (c j : Nat) (x2 x3 x4 : Option Sl), j + c ≤ 4 → ∃ y2 y3 y4, forL (gN 2) dpO (ntD (List.range' (j + 2) c)) [some (.d (.int (n : Int))), some (.c S.length), x2, x3, x4] (S ++ [Cel.on ((dpL j).map frD)]) =
      some (.nx [some (.d (.int (n : Int))), some (.c S.length), y2, y3, y4] (S ++ [Cel.on ((dpL (j + c)).map frD)]))
  | 0, j, x2, x3, x4, _ => ⟨x2, x3, x4, rfl⟩
  | c + 1, j, x2, x3, x4, h => by
    obtain ⟨y3, y4, e1⟩ := dp_outer (n := n) (S := S) (x3 := x3) (x4 := x4) (show j ≤ 3 by omega)
    obtain ⟨z2, z3, z4, e2⟩ := dp_all (n := n) (S := S) c (j + 1) (some (.d (.int ((j + 2 : Nat) : Int)))) y3 y4 (by omega)
    refine ⟨z2, z3, z4, ?_⟩
    rw [List.range'_succ, show j + (c + 1) = j + 1 + c by omega, ← e2]
    exact forL_nx (ds := ntD (List.range' (j + 2 + 1) c)) rfl e1
def dpM (n : Nat) : Nat × Nat := (dpL (n - 1)).getD n (0, 1)
theorem deep_eq {n : Nat} {S : Sto} (h0 : 1 ≤ n) (hn : n ≤ 5) : F__law_deep [.d (.int (n : Int))] S = some (.w (.d (frD (dpM n))), S) := by
  obtain ⟨y2, y3, y4, e⟩ := dp_all (n := n) (S := S) (n - 1) 0 none none none (by omega)
  simp only [Nat.zero_add] at e
  have hlen := dp_len (n - 1)
  have h2 : 2 ≤ sizeLine := by decide
  refine (den_rt (r := .w (.d (frD (dpM n)))) (S1 := S ++ [Cel.on ((dpL (n - 1)).map frD)]) rfl ?_).trans (by rw [retC_d]; simp)
  unfold b__law_deep
  refine (seq_nx (ρ1 := [some (.d (.int (n : Int))), some (.c S.length), none, none, none]) (S1 := S ++ [Cel.on ((dpL 0).map frD)]) (by simp [h2, dpL, frD])).trans ?_
  refine (seq_nx (for_of (r2_nat (i := 2) (j := n + 1) (y := (n : Int) + 1) (by omega) rfl (by omega) (by omega)) (by rw [show n + 1 - 2 = n - 1 by omega]; exact e))).trans ?_
  have hs : (S ++ [Cel.on ((dpL (n - 1)).map frD)])[S.length]? = some (.on ((dpL (n - 1)).map frD)) := by
    rw [List.getElem?_append_right (Nat.le_refl _)]
    simp
  refine ret_of ?_
  rw [eIx_]
  show (kIx (.c S.length) (.d (.int (n : Int))) (S ++ [Cel.on ((dpL (n - 1)).map frD)])) = _
  rw [kIx_c, hs, Option.bind_some]
  show (atI ((dpL (n - 1)).map frD) (n : Int)).bind _ = _
  rw [atI_nat' (by rw [List.length_map, hlen]; omega), Option.bind_some, List.getElem_map]
  unfold dpM
  rw [List.getD_eq_getElem?_getD, List.getElem?_eq_getElem (by rw [hlen]; omega)]
  rfl
end K87

set_option Elab.async false
set_option linter.all false
set_option maxRecDepth 100000
set_option maxHeartbeats 4000000
/-! _law_same of equal data. -/
namespace K87
open PySem L2 DL Ct
mutual
def pl : Nat → D → Bool
  | _ + 1, .none => true
  | _ + 1, .int _ => true
  | k + 1, .list xs => pls k xs && decide (xs.length ≤ 1000000)
  | k + 1, .tuple xs => pls k xs && decide (xs.length ≤ 1000000)
  | _, _ => false
def pls : Nat → List D → Bool
  | _, [] => true
  | k, x :: xs => pl k x && pls k xs
end
theorem pls_mem {k : Nat} : ∀ {xs : List D}, pls k xs = true → ∀ x ∈ xs, pl k x = true
  | x :: xs, h, y, hy => by
    rw [pls, Bool.and_eq_true] at h
    rcases List.mem_cons.mp hy with e | e
    · rw [e]; exact h.1
    · exact pls_mem h.2 y e
theorem zip_self (xs : List D) : zipD xs xs = xs.map fun x => .tuple [x, x] := by
  unfold zipD
  induction xs with
  | nil => rfl
  | cons x xs ih => rw [List.zip_cons_cons, List.map_cons, ih]; rfl
@[simp] theorem iZp_ {g : AD} {ρ : En} {S : Sto} : iZp g ρ S = (g ρ S).bind fun x => (offs x.2 x.1).bind fun y => match y.1 with
  | [.list xs, .list ys] => some (zipD xs ys, y.2)
  | [.tuple xs, .tuple ys] => some (zipD xs ys, y.2)
  | _ => none := rfl
@[simp] theorem eIsi_ {Ts : List String} {f : ED} {ρ : En} {S : Sto} : eIsi Ts f ρ S = (f ρ S).bind fun x => (rd x.2 (frz x.1)).bind fun a => some (.w (.d (.bool (Ts.any fun T => isiD T a))), x.2) := rfl
/-- the pairs, all the same -/
theorem pairs_eq {k : Nat} {S : Sto} {xs : List D} {w w' : Option Sl} (hr : ∀ x ∈ xs, F__law_same k [.d x, .d x] S = some (.w (.d (.bool true)), S)) (hl : xs.length ≤ 1000000) :
    lcL (gT [2, 3]) bYes (eN (F__law_same k) (aCons (eVar 2) (aCons (eVar 3) aNil))) [w, w', none, none] (xs.map fun x => .tuple [x, x]) S [] = some (List.replicate xs.length (.bool true), S) := by
  have h := lcL_map (gd := gT [2, 3]) (t := bYes) (el := eN (F__law_same k) (aCons (eVar 2) (aCons (eVar 3) aNil))) (ρ := [w, w', none, none]) (S := S) (fun _ => some (.bool true)) (xs := xs.map fun x => .tuple [x, x]) [] (fun d hd => by
    obtain ⟨x, hx, rfl⟩ := List.mem_map.mp hd
    exact ⟨[w, w', some (.d x), some (.d x)], rfl, .inl ⟨_, .w (.d (.bool true)), rfl, call_of (ws := [.d x, .d x]) (S1 := S) rfl (hr x hx), rfl, rfl⟩⟩) (by rw [List.length_map]; exact sz (by simpa using hl))
  rw [h, List.nil_append, filterMap_all, List.map_map]
  congr 2
  exact List.map_const' ..
theorem all_true : ∀ n, oAll (.list (List.replicate n (.bool true))) = some (.bool true) := by
  intro n
  unfold oAll
  have : blsD (List.replicate n (.bool true)) = some (List.replicate n true) := by
    induction n with
    | zero => rfl
    | succ n ih =>
      rw [List.replicate_succ]
      show (blsD _).map _ = _
      rw [ih]; rfl
  simp only [this]
  show some (PyData.bool _) = _
  congr 2
  simp
@[simp] theorem oEq_nones (n : Bool) : oEq n .none .none = some (.bool (!n)) := by
  simp [oEq, shaped_none, PyData.eqv]
theorem same_d : ∀ (k : Nat) (x : D) (S : Sto), pl k x = true → F__law_same k [.d x, .d x] S = some (.w (.d (.bool true)), S)
  | 0, x, S, h => by cases x <;> simp [pl] at h
  | k + 1, .none, S, _ => by
    simp [F__law_same, b__law_same, isiD, tyD]
  | k + 1, .int i, S, _ => by
    simp [F__law_same, b__law_same, isiD, tyD]
  | k + 1, .list xs, S, h => by
    rw [pl, Bool.and_eq_true, decide_eq_true_eq] at h
    have hp := pairs_eq (S := S) (w := some (.d (.list xs))) (w' := some (.d (.list xs))) (fun x hx => same_d k x S (pls_mem h.1 x hx)) h.2
    have ha := all_true xs.length
    have hw : wipeE [some (.d (.list xs)), some (.d (.list xs)), none, none] [2, 3] = [some (.d (.list xs)), some (.d (.list xs)), none, none] := rfl
    generalize List.replicate xs.length (PyData.bool true) = R at hp ha
    simp [F__law_same, b__law_same, isiD, tyD, zip_self, hw, hp, ha]
  | k + 1, .tuple xs, S, h => by
    rw [pl, Bool.and_eq_true, decide_eq_true_eq] at h
    have hp := pairs_eq (S := S) (w := some (.d (.tuple xs))) (w' := some (.d (.tuple xs))) (fun x hx => same_d k x S (pls_mem h.1 x hx)) h.2
    have ha := all_true xs.length
    have hw : wipeE [some (.d (.tuple xs)), some (.d (.tuple xs)), none, none] [2, 3] = [some (.d (.tuple xs)), some (.d (.tuple xs)), none, none] := rfl
    generalize List.replicate xs.length (PyData.bool true) = R at hp ha
    simp [F__law_same, b__law_same, isiD, tyD, zip_self, hw, hp, ha]
  | k + 1, .bool b, S, h => by simp [pl] at h
  | k + 1, .str b, S, h => by simp [pl] at h
  | k + 1, .dict b, S, h => by simp [pl] at h
end K87

set_option Elab.async false
set_option linter.all false
set_option maxRecDepth 100000
set_option maxHeartbeats 4000000
namespace K87
open PySem L2 DL Ct
theorem same_c {k i : Nat} {xs : List D} {S : Sto} (h : pl (k + 1) (.list xs) = true) (hs : S[i]? = some (.on xs)) : F__law_same (k + 1) [.c i, .d (.list xs)] S = some (.w (.d (.bool true)), S.set i (.off xs)) := by
  rw [pl, Bool.and_eq_true, decide_eq_true_eq] at h
  have hp := pairs_eq (S := S.set i (.off xs)) (w := some (.c i)) (w' := some (.d (.list xs))) (fun x hx => same_d k x _ (pls_mem h.1 x hx)) h.2
  have ha := all_true xs.length
  have hw : wipeE [some (.c i), some (.d (.list xs)), none, none] [2, 3] = [some (.c i), some (.d (.list xs)), none, none] := rfl
  have ht : (S.set i (.off xs)).take S.length = S.set i (.off xs) := List.take_of_length_le (by simp)
  generalize List.replicate xs.length (PyData.bool true) = R at hp ha
  generalize hT : S.set i (.off xs) = T at hp ht
  simp [F__law_same, b__law_same, isiD, tyD, zip_self, hw, hp, ha, hs, hT, ht]
end K87

set_option Elab.async false
set_option linter.all false
set_option maxRecDepth 100000
set_option maxHeartbeats 4000000
/-! Tables, by the kernel: over all orders of 0 .. n - 1. -/
namespace K87
open PySem L2 DL Ct
def fct (n : Nat) : Nat := (std n).length
theorem tab_n : ∀ n, n ≤ 5 → 1 ≤ n → ((std n).map fun r => countWithM r (List.replicate n none)).sum = (ev n : Int) := by decide +kernel
theorem tab_o : ∀ n, n ≤ 5 → 1 ≤ n → ∀ s : Nat, s ≤ n + 1 → ((std n).map fun r => countOuterM r (s : Int)).sum = (lotsM 8 n s : Int) := by decide +kernel
theorem tab_g : ∀ n, n ≤ 5 → ∀ p, p < n → red (sumM M0 ((std n).map fun r => ((hld n (lx r) p).length, 1))) (M0 * fct n) = grM M0 n p := by decide +kernel
theorem tab_h : ∀ n, n ≤ 5 → ∀ a, a < n → ∀ b, b < n → red (sumM M0 ((std n).map fun r => hcM n (lx r) a b)) (M0 * fct n) = chM 8 n a b true := by decide +kernel
theorem tab_a : ∀ n, n ≤ 5 → ∀ a, a < n → ∀ b, b < n → red (sumM M0 ((std n).map fun r => arM n (lx r) a b)) (M0 * fct n) = chM 8 n a b false := by decide +kernel
theorem tab_ok : ∀ n, n ≤ 5 → ∀ a, a < n → ∀ b, b < n → ∀ r ∈ std n, okF M0 (hcM n (lx r) a b) ∧ okF M0 (arM n (lx r) a b) := by decide +kernel
theorem tab_d : ∀ n, n ≤ 5 → 1 ≤ n → red (sumM M0 ((std n).flatMap fun r => (List.range n).map fun k => red (sumM M0 (mdL n (lx r) k)) M0)) (M0 * fct n) = dpM n := by decide +kernel
theorem tab_i : ∀ n, n ≤ 5 → 1 ≤ n → red (sumM M0 ((std n).flatMap fun r => (List.range n).map fun k => red (sumM M0 (miL n (lx r) k)) M0)) (M0 * fct n) = dpM n := by decide +kernel
theorem tab_di : ∀ n, n ≤ 5 → ∀ r ∈ std n, ∀ k, k < n → okF M0 (red (sumM M0 (mdL n (lx r) k)) M0) ∧ okF M0 (red (sumM M0 (miL n (lx r) k)) M0) := by decide +kernel
theorem tab_f : ∀ n, n ≤ 5 → ∀ a, a < n → ∀ b, b < n → a ≠ b → ((std n).filter fun r => decide (b ∈ hld n (lx r) a)).length * (((a : Int) - (b : Int)).natAbs + 1) = fct n := by decide +kernel
theorem tab_len : ∀ n, n ≤ 5 → (std n).length ≤ 120 ∧ 0 < (std n).length := by decide +kernel
end K87

set_option Elab.async false
set_option linter.all false
set_option maxRecDepth 100000
set_option maxHeartbeats 4000000
/-! The rows and what is summed over them. -/
namespace K87
open PySem L2 DL Ct
theorem rwsM_nd {l : List Int} : ∀ {k : Nat} {r : List Int}, r ∈ rwsM l k → r.Nodup
  | 0, r, h => by rw [List.mem_singleton.mp h]; exact List.nodup_nil
  | k + 1, r, h => by
    obtain ⟨own, ho, hr⟩ := List.mem_flatMap.mp h
    obtain ⟨s, hs, rfl⟩ := List.mem_map.mp hr
    have hn := of_decide_eq_true (List.mem_filter.mp hs).2
    rw [List.nodup_append]
    refine ⟨rwsM_nd ho, by simp, fun a ha b hb => ?_⟩
    rw [List.mem_singleton.mp hb]
    exact fun e => hn (e ▸ ha)
theorem std_len {n : Nat} {r : List Int} (h : r ∈ std n) : r.length = n := rwsM_len h
theorem std_nd {n : Nat} {r : List Int} (h : r ∈ std n) : r.Nodup := rwsM_nd h
theorem isum_perm {L L' : List Int} (h : L.Perm L') : L.sum = L'.sum := by
  induction h with
  | nil => rfl
  | cons x _ ih => rw [List.sum_cons, List.sum_cons, ih]
  | swap x y l => rw [List.sum_cons, List.sum_cons, List.sum_cons, List.sum_cons]; omega
  | trans _ _ ih1 ih2 => rw [ih1, ih2]
/-- rows with the orders of std -/
structure Rws (n : Nat) (rs : List (List Int)) : Prop where
  len : ∀ r ∈ rs, r.length = n
  nd : ∀ r ∈ rs, r.Nodup
  std : ∃ g : Int → Int, rs.Perm ((std n).map (List.map g)) ∧ ∀ r ∈ std n, lx (r.map g) = lx r
theorem Rws.perm {n : Nat} {rs : List (List Int)} {β : Type} (h : Rws n rs) (F : List Int → β) (inv : ∀ r r' : List Int, r.length = n → r'.length = n → r.Nodup → r'.Nodup → lx r = lx r' → F r = F r') : (rs.map F).Perm ((K87.std n).map F) := by
  obtain ⟨g, hp, hg⟩ := h.std
  have h1 := hp.map F
  rw [List.map_map] at h1
  refine h1.trans (List.Perm.of_eq ?_)
  refine List.map_congr_left fun r hr => ?_
  have hm : r.map g ∈ rs := hp.mem_iff.mpr (List.mem_map.mpr ⟨r, hr, rfl⟩)
  exact inv _ _ (h.len _ hm) (std_len hr) (h.nd _ hm) (std_nd hr) (hg r hr)
theorem rws_of {xs zs : List Int} (hp : zs.Perm xs) (hs : zs.Pairwise (· < ·)) : Rws xs.length (rwsM xs xs.length) := ⟨fun r h => rwsM_len h, fun r h => rwsM_nd h, rows_std hp hs⟩
end K87

set_option Elab.async false
set_option linter.all false
set_option maxRecDepth 100000
set_option maxHeartbeats 4000000
/-! The comparison itself, after the draws. -/
namespace K87
open PySem L2 DL Ct
theorem lc_rows {el : ED} {ρ : En} {S : Sto} {rs : List (List Int)} {Fd : List Int → D} (h2 : ρ.getD 2 none = some (.d (rowsD rs))) (h12 : ρ.set 12 none = ρ) (hl : rs.length ≤ 1000)
    (h : ∀ r ∈ rs, ∃ x, el (ρ.set 12 (some (.d (rowD r)))) S = some (x, S) ∧ frz x = .d (Fd r)) : eLc (iSq (eVar 2)) (gN 12) bYes el [12] ρ S = some (.fr (rs.map Fd), S) := by
  have hi : iSq (eVar 2) ρ S = some (rs.map rowD, S) := iSq_of (x := .w (.d (rowsD rs))) (by rw [eVar_, h2]; rfl) rfl rfl
  have hm := lcL_map (gd := gN 12) (t := bYes) (el := el) (ρ := ρ) (S := S) (fun d => some (Fd (match d with
    | .tuple xs => xs.map unI
    | _ => []))) (xs := rs.map rowD) [] (fun d hd => by
    obtain ⟨r, hr, rfl⟩ := List.mem_map.mp hd
    obtain ⟨x, e1, e2⟩ := h r hr
    refine ⟨ρ.set 12 (some (.d (rowD r))), rfl, .inl ⟨_, x, rfl, e1, e2, ?_⟩⟩
    show some (Fd ((r.map PyData.int).map unI)) = _
    rw [unI_map]) (by rw [List.length_map]; exact sz (by simp; omega))
  rw [eLc_, hi, Option.bind_some]
  have hw : wipeE ρ [12] = ρ := h12
  rw [hw, hm, Option.bind_some, List.nil_append, filterMap_all, List.map_map]
  congr 3
  refine List.map_congr_left fun r _ => ?_
  show Fd ((r.map PyData.int).map unI) = _
  rw [unI_map]
theorem sum_ints (L : List Int) (S : Sto) : kSum [.d (.list (L.map .int))] S = some (.w (.d (.int L.sum)), S) := by
  show kN1 (k1D oSum) _ _ = _
  rw [kN1_, k1D_]
  unfold oSum
  simp only [intsD_ints, Option.bind_some]
  rfl
/-- the slots of _law_right -/
abbrev rE (n s p a b : Nat) (rs : List (List Int)) (x7 x8 x9 x10 x11 x12 x13 x14 x15 x16 x17 : Option Sl) : En :=
  [some (.c 0), some (.d (.int (n : Int))), some (.d (rowsD rs)), some (.d (.int (s : Int))), some (.d (.int (p : Int))), some (.d (.int (a : Int))), some (.d (.int (b : Int))), x7, x8, x9, x10, x11, x12, x13, x14, x15, x16, x17]
section
variable {n s p a b : Nat} {rs : List (List Int)} {x7 x8 x9 x10 x11 x13 x14 x15 x16 x17 : Option Sl} {S : Sto}
theorem lx_len {r r' : List Int} (h : lx r = lx r') (i j : Nat) : lx r i j = lx r' i j := by rw [h]
theorem fa_nest (hR : Rws n rs) (h1 : 1 ≤ n) (h5 : n ≤ 5) (hl : rs.length ≤ 1000) :
    (eN kSum (aCons (eLc (iSq (eVar 2)) (gN 12) bYes (eN F_count_nestings (aCons (eVar 12) aNil)) [12]) aNil)) (rE n s p a b rs x7 x8 x9 x10 x11 none x13 x14 x15 x16 x17) S = some (.w (.d (.int ((ev n : Nat) : Int))), S) := by
  have hlc := lc_rows (el := eN F_count_nestings (aCons (eVar 12) aNil)) (ρ := rE n s p a b rs x7 x8 x9 x10 x11 none x13 x14 x15 x16 x17) (S := S) (rs := rs) (Fd := fun r => .int (countWithM r (List.replicate n none))) rfl rfl hl (fun r hr => by
    have e := nest_eq (S := S) (hR.nd r hr) (by rw [hR.len r hr]; omega) (by rw [hR.len r hr]; omega)
    rw [hR.len r hr] at e
    exact ⟨_, call_of (ws := [.d (rowD r)]) (S1 := S) rfl e, rfl⟩)
  have hp := hR.perm (fun r => countWithM r (List.replicate n none)) fun r r' e1 e2 n1 n2 e => nest_same n1 n2 (by rw [e1, e2]) (by omega) e _
  have hsum := isum_perm hp
  rw [tab_n n h5 h1] at hsum
  have e0 : rs.map (fun r => PyData.int (countWithM r (List.replicate n none))) = (rs.map fun r => countWithM r (List.replicate n none)).map .int := by rw [List.map_map]; rfl
  rw [e0] at hlc
  refine call_of (acons_of hlc rfl rfl) ?_
  rw [frz_fr, sum_ints, hsum]
theorem fa_outer (hR : Rws n rs) (h1 : 1 ≤ n) (h5 : n ≤ 5) (hs : s ≤ n + 1) (hl : rs.length ≤ 1000) :
    (eN kSum (aCons (eLc (iSq (eVar 2)) (gN 12) bYes (eN F_count_outer (aCons (eVar 12) (aCons (eVar 3) aNil))) [12]) aNil)) (rE n s p a b rs x7 x8 x9 x10 x11 none x13 x14 x15 x16 x17) S = some (.w (.d (.int ((lotsM 8 n s : Nat) : Int))), S) := by
  have hlc := lc_rows (el := eN F_count_outer (aCons (eVar 12) (aCons (eVar 3) aNil))) (ρ := rE n s p a b rs x7 x8 x9 x10 x11 none x13 x14 x15 x16 x17) (S := S) (rs := rs) (Fd := fun r => .int (countOuterM r (s : Int))) rfl rfl hl (fun r hr => by
    have e := outer_eq (m := (s : Int)) (S := S) (hR.nd r hr) (by rw [hR.len r hr]; omega) (by rw [hR.len r hr]; omega)
    exact ⟨_, call_of (ws := [.d (rowD r), .d (.int (s : Int))]) (S1 := S) rfl e, rfl⟩)
  have hp := hR.perm (fun r => countOuterM r (s : Int)) fun r r' e1 e2 n1 n2 e => outer_same n1 n2 (by rw [e1, e2]) e _
  have hsum := isum_perm hp
  rw [tab_o n h5 h1 s hs] at hsum
  have e0 : rs.map (fun r => PyData.int (countOuterM r (s : Int))) = (rs.map fun r => countOuterM r (s : Int)).map .int := by rw [List.map_map]; rfl
  rw [e0] at hlc
  refine call_of (acons_of hlc rfl rfl) ?_
  rw [frz_fr, sum_ints, hsum]
/-- the mean over the rows of a fraction that a row's order gives -/
theorem fa_mean {el : ED} {G : (Nat → Nat → Bool) → Nat × Nat} {v : Nat × Nat} {m : Nat} (hR : Rws n rs) (h1 : 1 ≤ n) (h5 : n ≤ 5) (hm : m = fct n) (hl : rs.length = fct n)
    (hel : ∀ r, r.length = n → ∃ x, el (rE n s p a b rs (some (.d (.int (m : Int)))) x8 x9 x10 x11 (some (.d (rowD r))) x13 x14 x15 x16 x17) S = some (x, S) ∧ frz x = .d (frD (G (lx r))))
    (hok : ∀ r ∈ std n, okF M0 (G (lx r))) (hv : red (sumM M0 ((std n).map fun r => G (lx r))) (M0 * fct n) = v) :
    (eN F__law_mean (aCons (eLc (iSq (eVar 2)) (gN 12) bYes el [12]) (aCons (eVar 7) aNil))) (rE n s p a b rs (some (.d (.int (m : Int)))) x8 x9 x10 x11 none x13 x14 x15 x16 x17) S = some (.w (.d (frD v)), S) := by
  have ht := tab_len n h5
  have hl2 : rs.length ≤ 1000 := by rw [hl]; unfold fct; omega
  have hlc := lc_rows (el := el) (ρ := rE n s p a b rs (some (.d (.int (m : Int)))) x8 x9 x10 x11 none x13 x14 x15 x16 x17) (S := S) (rs := rs) (Fd := fun r => frD (G (lx r))) rfl rfl hl2 (fun r hr => hel r (hR.len r hr))
  have hp := hR.perm (fun r => G (lx r)) fun r r' _ _ _ _ e => by rw [e]
  have e0 : rs.map (fun r => frD (G (lx r))) = (rs.map fun r => G (lx r)).map frD := by rw [List.map_map]; rfl
  rw [e0] at hlc
  have hmean := mean_eq (M := M0) (many := m) (S := S) (L := rs.map fun r => G (lx r)) M0_pos M0_lt (fun f hf => by
    obtain ⟨r, hr, e⟩ := List.mem_map.mp (hp.mem_iff.mp hf)
    rw [← e]
    exact hok r hr) (by rw [List.length_map]; omega) (by rw [hm]; exact ht.2) (by rw [hm]; unfold fct; omega)
  rw [sumM_perm hp, hm, hv] at hmean
  subst hm
  exact call_of (acons_of hlc rfl (acons_of (x := .w (.d (.int ((fct n : Nat) : Int)))) rfl rfl rfl)) hmean
end
end K87

set_option Elab.async false
set_option linter.all false
set_option maxRecDepth 100000
set_option maxHeartbeats 4000000
/-! Stages of the comparison. -/
namespace K87
open PySem L2 DL Ct
def unNo : D → Option D
  | .none => none
  | x => some x
section
variable {ρ : En} {S : Sto} {f g : ED} {a : AD}
theorem lst_of {ws : List Sl} {ds : List D} {S1 S2 : Sto} (ha : a ρ S = some (ws, S1)) (ho : offs S1 ws = some (ds, S2)) (hl : ds.length ≤ 1000000) : eLst a ρ S = some (.fr ds, S2) := by
  rw [eLst_, ha, Option.bind_some, ho, Option.bind_some]
  show (if ds.length ≤ sizeLine then _ else _) = _
  rw [if_pos (Nat.le_trans hl (by decide))]
theorem offs_d : ∀ (ds : List D), offs S (ds.map Sl.d) = some (ds, S)
  | [] => rfl
  | d :: ds => by
    rw [List.map_cons, offs_cons, off_d, Option.bind_some]
    show ((some d).bind _) = _
    rw [Option.bind_some, offs_d ds]
    rfl
/-- the comparison holds: nothing is returned -/
theorem same_nx {x : D} {bb : SD} {k : Nat} {r r' : Rs} {S1 : Sto} {w : Sl} {S2 : Sto} (hf : f ρ S = some (r, S)) (hr : frz r = w) (hg : g ρ S = some (r', S1)) (hr' : frz r' = .d x) (hc : F__law_same k [w, .d x] S1 = some (.w (.d (.bool true)), S2)) :
    bIf (bNot (bE (eN (F__law_same k) (aCons f (aCons g aNil))))) bb bNil ρ S = some (.nx ρ S2) := by
  refine if_f (S1 := S2) ?_ rfl
  rw [bNot_, bE_of' (b := true) (S1 := S2) (call_of (ws := [w, .d x]) (S1 := S1) (acons_of hf hr (acons_of hg hr' rfl)) hc) rfl]
  rfl
/-- comprehension over the rows, the slot of the row itself wiped -/
theorem lc_rowsF {el : ED} {ρ ρ0 : En} {t : BD} {rs : List (List Int)} {c : List Int → Bool} {Fd : List Int → D} (h2 : ρ.getD 2 none = some (.d (rowsD rs))) (h12 : wipeE ρ [12] = ρ0) (hl : rs.length ≤ 1000)
    (h : ∀ r ∈ rs, t (ρ0.set 12 (some (.d (rowD r)))) S = some (c r, S) ∧ (c r = true → ∃ x, el (ρ0.set 12 (some (.d (rowD r)))) S = some (x, S) ∧ frz x = .d (Fd r))) : eLc (iSq (eVar 2)) (gN 12) t el [12] ρ S = some (.fr ((rs.filter c).map Fd), S) := by
  have hi : iSq (eVar 2) ρ S = some (rs.map rowD, S) := iSq_of (x := .w (.d (rowsD rs))) (by rw [eVar_, h2]; rfl) rfl rfl
  have hu : ∀ r : List Int, (match rowD r with
      | .tuple xs => xs.map unI
      | _ => []) = r := fun r => by
    show ((r.map PyData.int).map unI) = r
    rw [unI_map]
  have hm := lcL_map (gd := gN 12) (t := t) (el := el) (ρ := ρ0) (S := S) (fun d => if c (match d with
    | .tuple xs => xs.map unI
    | _ => []) then some (Fd (match d with
    | .tuple xs => xs.map unI
    | _ => [])) else none) (xs := rs.map rowD) [] (fun d hd => by
    obtain ⟨r, hr, rfl⟩ := List.mem_map.mp hd
    obtain ⟨ht, hx⟩ := h r hr
    refine ⟨ρ0.set 12 (some (.d (rowD r))), rfl, ?_⟩
    rw [hu r]
    cases hc : c r with
    | true =>
      obtain ⟨x, e1, e2⟩ := hx hc
      exact .inl ⟨_, x, by rw [ht, hc], e1, e2, rfl⟩
    | false => exact .inr ⟨by rw [ht, hc], rfl⟩) (by rw [List.length_map]; exact sz (by simp; omega))
  rw [eLc_, hi, Option.bind_some, h12, hm, Option.bind_some, List.nil_append, filterMap_if, List.filter_map, List.map_map]
  congr 3
  rw [show ((fun d : D => c (match d with
    | .tuple xs => xs.map unI
    | _ => [])) ∘ rowD) = c from funext fun r => by show c _ = _; rw [hu r]]
  refine List.map_congr_left fun r _ => ?_
  show Fd _ = _
  rw [hu r]
theorem not_none {ρ : En} {S : Sto} {i : Nat} {x : D} (h : ρ.getD i none = some (.d x)) (hx : (∃ j, x = .int j) ∨ x = .none) : bE (eNotN (eVar i)) ρ S = some ((unNo x).isSome, S) := by
  rw [bE_, eNotN_, eVar_, h]
  rcases hx with ⟨j, rfl⟩ | rfl
  · simp [unNo]
  · simp [unNo]
end
theorem sum_flat {M : Nat} : ∀ LL : List (List (Nat × Nat)), sumM M LL.flatten = (LL.map (sumM M)).sum
  | [] => rfl
  | L :: LL => by
    rw [List.flatten_cons, List.map_cons, List.sum_cons, ← sum_flat LL]
    unfold sumM
    rw [List.map_append, List.sum_append]
theorem sum_flat_perm {M : Nat} {α β : Type} {l : List α} {l' : List β} {F : α → List (Nat × Nat)} {G : β → List (Nat × Nat)} (h : (l.map F).Perm (l'.map G)) : sumM M (l.flatMap F) = sumM M (l'.flatMap G) := by
  rw [List.flatMap_def, List.flatMap_def, sum_flat, sum_flat]
  exact (h.map (sumM M)).sum_nat
end K87

set_option Elab.async false
set_option linter.all false
set_option maxRecDepth 100000
set_option maxHeartbeats 4000000
/-! The comparison, stage by stage. -/
namespace K87
open PySem L2 DL Ct
/-- the setting: the rows' orders are those of 0 .. n - 1 -/
structure Stg (n s p a b : Nat) (rs : List (List Int)) : Prop where
  hR : Rws n rs
  h1 : 1 ≤ n
  h5 : n ≤ 5
  hs : s ≤ n + 1
  hp : p < n
  ha : a < n
  hb : b < n
theorem Rws.mem {n : Nat} {rs : List (List Int)} (h : Rws n rs) : ∀ r ∈ rs, ∃ r' ∈ K87.std n, lx r = lx r' := by
  intro r hr
  obtain ⟨g, hp, hg⟩ := h.std
  obtain ⟨r', hr', rfl⟩ := List.mem_map.mp (hp.mem_iff.mp hr)
  exact ⟨r', hr', hg r' hr'⟩
theorem Rws.cnt {n : Nat} {rs : List (List Int)} (h : Rws n rs) : rs.length = fct n := by
  obtain ⟨g, hp, hg⟩ := h.std
  rw [hp.length_eq, List.length_map]
  rfl
section
variable {n s p a b : Nat} {rs : List (List Int)} {x7 x8 x9 x10 x11 x12 x13 x14 x15 x16 x17 : Option Sl} {S : Sto}
abbrev dI (i : Nat) : Option Sl := some (.d (.int (i : Int)))
theorem Stg.len (H : Stg n s p a b rs) : rs.length ≤ 1000 := by
  have := tab_len n H.h5
  rw [H.hR.cnt]; unfold fct; omega
theorem st7 (H : Stg n s p a b rs) : (bSet 7 (eN kLen (aCons (eVar 2) aNil))) (rE n s p a b rs none none none none none none none none none none none) S = some (.nx (rE n s p a b rs (dI (fct n)) none none none none none none none none none none) S) := by
  have e : eN kLen (aCons (eVar 2) aNil) (rE n s p a b rs none none none none none none none none none none none) S = some (.w (.d (.int ((fct n : Nat) : Int))), S) := by
    refine call_of (ws := [.d (rowsD rs)]) (S1 := S) rfl ?_
    show kN1 (k1D oLen) _ _ = _
    rw [kN1_, k1D_, rowsD, oLen_l, List.length_map, H.hR.cnt]
    rfl
  exact set_of e rfl
def g8 (n s : Nat) : D := .list [.int ((ev n : Nat) : Int), .int ((lotsM 8 n s : Nat) : Int)]
theorem st8 (H : Stg n s p a b rs) : (bSet 8 (eLst (aCons (eN kSum (aCons (eLc (iSq (eVar 2)) (gN 12) bYes (eN F_count_nestings (aCons (eVar 12) aNil)) [12]) aNil)) (aCons (eN kSum (aCons (eLc (iSq (eVar 2)) (gN 12) bYes (eN F_count_outer (aCons (eVar 12) (aCons (eVar 3) aNil))) [12]) aNil)) aNil)))) (rE n s p a b rs (dI (fct n)) none none none none none none none none none none) S =
    some (.nx (rE n s p a b rs (dI (fct n)) (some (.d (g8 n s))) none none none none none none none none none) S) := by
  have e1 := fa_nest (n := n) (s := s) (p := p) (a := a) (b := b) (x7 := dI (fct n)) (x8 := none) (x9 := none) (x10 := none) (x11 := none) (x13 := none) (x14 := none) (x15 := none) (x16 := none) (x17 := none) (S := S) H.hR H.h1 H.h5 H.len
  have e2 := fa_outer (n := n) (s := s) (p := p) (a := a) (b := b) (x7 := dI (fct n)) (x8 := none) (x9 := none) (x10 := none) (x11 := none) (x13 := none) (x14 := none) (x15 := none) (x16 := none) (x17 := none) (S := S) H.hR H.h1 H.h5 H.hs H.len
  have e3 := offs_d (S := S) [PyData.int ((ev n : Nat) : Int), PyData.int ((lotsM 8 n s : Nat) : Int)]
  exact set_of (lst_of (acons_of e1 rfl (acons_of e2 rfl rfl)) e3 (show 2 ≤ 1000000 by decide)) rfl
theorem st_same8 (H : Stg n s p a b rs) : (bIf (bNot (bE (eN (F__law_same 4) (aCons (eVar 8) (aCons (eLst (aCons (eN F__law_every (aCons (eVar 1) aNil)) (aCons (eN (F__law_lots 8) (aCons (eVar 1) (aCons (eVar 3) aNil))) aNil))) aNil))))) (bRet (eC (.bool false))) bNil) (rE n s p a b rs (dI (fct n)) (some (.d (g8 n s))) none none none none none none none none none) S =
    some (.nx (rE n s p a b rs (dI (fct n)) (some (.d (g8 n s))) none none none none none none none none none) S) := by
  have e1 := every_eq (m := n) (S := S) H.h5
  have e2 := lots_eq 8 n s S (by have := H.h5; omega) (by decide) H.h5 (by have := H.h5; have := H.hs; omega)
  have e3 := offs_d (S := S) [PyData.int ((ev n : Nat) : Int), PyData.int ((lotsM 8 n s : Nat) : Int)]
  refine same_nx (x := g8 n s) (r := .w (.d (g8 n s))) (S1 := S) rfl rfl (lst_of (acons_of (call_of (ws := [.d (.int (n : Int))]) (S1 := S) rfl e1) rfl (acons_of (call_of (ws := [.d (.int (n : Int)), .d (.int (s : Int))]) (S1 := S) rfl e2) rfl rfl)) e3 (show 2 ≤ 1000000 by decide)) rfl (same_d 4 _ S ?_)
  unfold g8
  simp [pl, pls]
theorem st_great (H : Stg n s p a b rs) : (bSetC 8 (eLst (aCons (eN F__law_mean (aCons (eLc (iSq (eVar 2)) (gN 12) bYes (eTup (aCons (eN F_greatest_depth (aCons (eVar 12) (aCons (eVar 4) aNil))) (aCons (eC (.int 1)) aNil))) [12]) (aCons (eVar 7) aNil))) aNil))) (rE n s p a b rs (dI (fct n)) x8 x9 x10 x11 none x13 x14 x15 x16 x17) S =
    some (.nx (rE n s p a b rs (dI (fct n)) (some (.c S.length)) x9 x10 x11 none x13 x14 x15 x16 x17) (S ++ [Cel.on [frD (grM M0 n p)]])) := by
  have e := fa_mean (el := (eTup (aCons (eN F_greatest_depth (aCons (eVar 12) (aCons (eVar 4) aNil))) (aCons (eC (.int 1)) aNil)))) (G := fun lt => ((hld n lt p).length, 1)) (v := grM M0 n p) (m := fct n) (n := n) (s := s) (p := p) (a := a) (b := b) (x8 := x8) (x9 := x9) (x10 := x10) (x11 := x11) (x13 := x13) (x14 := x14) (x15 := x15) (x16 := x16) (x17 := x17) (S := S) H.hR H.h1 H.h5 rfl H.hR.cnt (fun r hr => by
    have g := greatest_eq (xs := r) (p := p) (S := S) (by rw [hr]; exact H.hp) (by rw [hr]; have := H.h5; omega)
    rw [hr] at g
    have o := offs_d (S := S) [PyData.int ((((hld n (lx r) p).length : Nat)) : Int), PyData.int 1]
    exact ⟨_, tup_of (acons_of (call_of (ws := [.d (rowD r), .d (.int (p : Int))]) (S1 := S) rfl g) rfl (acons_of (x := .w (.d (.int 1))) rfl rfl rfl)) o (show 2 ≤ 1000000 by decide), rfl⟩) (fun r hr => ⟨Nat.one_pos, Nat.one_dvd _, by
      have h : (hld n (lx r) p).length ≤ n := by
        unfold hld
        exact Nat.le_trans (List.length_filter_le _ _) (by rw [List.length_range]; exact Nat.le_refl _)
      have := H.h5
      show (hld n (lx r) p).length < _
      omega⟩) (tab_g n H.h5 p H.hp)
  have o := offs_d (S := S) [frD (grM M0 n p)]
  rw [bSetC_, lst_of (acons_of e rfl rfl) o (show 1 ≤ 1000000 by decide)]
  rfl
theorem st_hold (H : Stg n s p a b rs) {i : Nat} (hi : S[i]? = some (Cel.on [frD (grM M0 n p)])) : (bX (eM kApp (eVar 8) (aCons (eN F__law_mean (aCons (eLc (iSq (eVar 2)) (gN 12) bYes (eN F_holder_chance (aCons (eVar 12) (aCons (eVar 5) (aCons (eVar 6) aNil)))) [12]) (aCons (eVar 7) aNil))) aNil))) (rE n s p a b rs (dI (fct n)) (some (.c i)) x9 x10 x11 none x13 x14 x15 x16 x17) S =
    some (.nx (rE n s p a b rs (dI (fct n)) (some (.c i)) x9 x10 x11 none x13 x14 x15 x16 x17) (S.set i (Cel.on [frD (grM M0 n p), frD (chM 8 n a b true)]))) := by
  have e := fa_mean (el := (eN F_holder_chance (aCons (eVar 12) (aCons (eVar 5) (aCons (eVar 6) aNil))))) (G := fun lt => hcM n lt a b) (v := chM 8 n a b true) (m := fct n) (n := n) (s := s) (p := p) (a := a) (b := b) (x8 := some (.c i)) (x9 := x9) (x10 := x10) (x11 := x11) (x13 := x13) (x14 := x14) (x15 := x15) (x16 := x16) (x17 := x17) (S := S) H.hR H.h1 H.h5 rfl H.hR.cnt (fun r hr => by
    have g := holder_eq (xs := r) (a := a) (b := b) (S := S) (by rw [hr]; exact H.ha) (by rw [hr]; exact H.hb) (by rw [hr]; have := H.h5; omega)
    rw [hr] at g
    exact ⟨_, call_of (ws := [.d (rowD r), .d (.int (a : Int)), .d (.int (b : Int))]) (S1 := S) rfl g, rfl⟩) (fun r hr => (tab_ok n H.h5 a H.ha b H.hb r hr).1) (tab_h n H.h5 a H.ha b H.hb)
  exact app_of (w := .c i) (ls := [frD (grM M0 n p)]) rfl (eVar 8) rfl (by rw [hi]; rfl) e rfl hi (Nat.lt_of_lt_of_le (show 1 < 1000000 by decide) (by decide))
theorem st_around (H : Stg n s p a b rs) {i : Nat} (hi : S[i]? = some (Cel.on [frD (grM M0 n p), frD (chM 8 n a b true)])) : (bX (eM kApp (eVar 8) (aCons (eN F__law_mean (aCons (eLc (iSq (eVar 2)) (gN 12) bYes (eN F_around_chance (aCons (eVar 12) (aCons (eVar 5) (aCons (eVar 6) aNil)))) [12]) (aCons (eVar 7) aNil))) aNil))) (rE n s p a b rs (dI (fct n)) (some (.c i)) x9 x10 x11 none x13 x14 x15 x16 x17) S =
    some (.nx (rE n s p a b rs (dI (fct n)) (some (.c i)) x9 x10 x11 none x13 x14 x15 x16 x17) (S.set i (Cel.on [frD (grM M0 n p), frD (chM 8 n a b true), frD (chM 8 n a b false)]))) := by
  have e := fa_mean (el := (eN F_around_chance (aCons (eVar 12) (aCons (eVar 5) (aCons (eVar 6) aNil))))) (G := fun lt => arM n lt a b) (v := chM 8 n a b false) (m := fct n) (n := n) (s := s) (p := p) (a := a) (b := b) (x8 := some (.c i)) (x9 := x9) (x10 := x10) (x11 := x11) (x13 := x13) (x14 := x14) (x15 := x15) (x16 := x16) (x17 := x17) (S := S) H.hR H.h1 H.h5 rfl H.hR.cnt (fun r hr => by
    have g := around_eq (xs := r) (a := a) (b := b) (S := S) (by rw [hr]; exact H.ha) (by rw [hr]; exact H.hb) (by rw [hr]; have := H.h5; omega)
    rw [hr] at g
    exact ⟨_, call_of (ws := [.d (rowD r), .d (.int (a : Int)), .d (.int (b : Int))]) (S1 := S) rfl g, rfl⟩) (fun r hr => (tab_ok n H.h5 a H.ha b H.hb r hr).2) (tab_a n H.h5 a H.ha b H.hb)
  exact app_of (w := .c i) (ls := [frD (grM M0 n p), frD (chM 8 n a b true)]) rfl (eVar 8) rfl (by rw [hi]; rfl) e rfl hi (Nat.lt_of_lt_of_le (show 2 < 1000000 by decide) (by decide))
def g9 (n p a b : Nat) : List D := [frD (grM M0 n p), frD (chM 8 n a b true), frD (chM 8 n a b false)]
theorem st9 (H : Stg n s p a b rs) : (bSet 9 (eLst (aCons (eN F__law_great (aCons (eVar 1) (aCons (eVar 4) aNil))) (aCons (eN (F__law_chance 8) (aCons (eVar 1) (aCons (eVar 5) (aCons (eVar 6) (aCons (eC (.bool true)) aNil))))) (aCons (eN (F__law_chance 8) (aCons (eVar 1) (aCons (eVar 5) (aCons (eVar 6) (aCons (eC (.bool false)) aNil))))) aNil))))) (rE n s p a b rs x7 x8 x9 x10 x11 x12 x13 x14 x15 x16 x17) S =
    some (.nx (rE n s p a b rs x7 x8 (some (.d (.list (g9 n p a b)))) x10 x11 x12 x13 x14 x15 x16 x17) S) := by
  have e1 := great_eq (n := n) (p := p) (S := S) H.h5 H.hp
  have e2 := chance_eq 8 n a b true S (by have := H.h5; omega) (by decide) H.h5 H.ha H.hb
  have e3 := chance_eq 8 n a b false S (by have := H.h5; omega) (by decide) H.h5 H.ha H.hb
  have o := offs_d (S := S) (g9 n p a b)
  exact set_of (lst_of (acons_of (call_of (ws := [.d (.int (n : Int)), .d (.int (p : Int))]) (S1 := S) rfl e1) rfl (acons_of (call_of (ws := [.d (.int (n : Int)), .d (.int (a : Int)), .d (.int (b : Int)), .d (.bool true)]) (S1 := S) rfl e2) rfl
    (acons_of (call_of (ws := [.d (.int (n : Int)), .d (.int (a : Int)), .d (.int (b : Int)), .d (.bool false)]) (S1 := S) rfl e3) rfl rfl))) o (show 3 ≤ 1000000 by decide)) rfl
theorem st_same9 {i : Nat} (hi : S[i]? = some (Cel.on (g9 n p a b))) : (bIf (bNot (bE (eN (F__law_same 4) (aCons (eVar 8) (aCons (eVar 9) aNil))))) (bRet (eC (.bool false))) bNil) (rE n s p a b rs x7 (some (.c i)) (some (.d (.list (g9 n p a b)))) x10 x11 x12 x13 x14 x15 x16 x17) S =
    some (.nx (rE n s p a b rs x7 (some (.c i)) (some (.d (.list (g9 n p a b)))) x10 x11 x12 x13 x14 x15 x16 x17) (S.set i (.off (g9 n p a b)))) := by
  refine same_nx (x := .list (g9 n p a b)) (r := .w (.c i)) (w := .c i) (r' := .w (.d (.list (g9 n p a b)))) (S1 := S) rfl rfl rfl rfl (same_c (k := 3) ?_ hi)
  unfold g9 frD
  simp [pl, pls]
end
end K87

set_option Elab.async false
set_option linter.all false
set_option maxRecDepth 100000
set_option maxHeartbeats 4000000
/-! The comparison: means of all depths, who can hold whom. -/
namespace K87
open PySem L2 DL Ct
def mdR (n : Nat) (lt : Nat → Nat → Bool) : List (Nat × Nat) := (List.range n).map fun k => red (sumM M0 (mdL n lt k)) M0
def miR (n : Nat) (lt : Nat → Nat → Bool) : List (Nat × Nat) := (List.range n).map fun k => red (sumM M0 (miL n lt k)) M0
section
variable {n s p a b : Nat} {rs : List (List Int)} {x7 x8 x9 x10 x11 x12 x13 x14 x15 x16 x17 : Option Sl} {S : Sto}
theorem st_par : (bPar 10 11 (aCons (eLst aNil) (aCons (eLst aNil) aNil))) (rE n s p a b rs x7 x8 x9 x10 x11 x12 x13 x14 x15 x16 x17) S = some (.nx (rE n s p a b rs x7 x8 x9 (some (.d (.list []))) (some (.d (.list []))) x12 x13 x14 x15 x16 x17) S) := by
  have e : eLst aNil (rE n s p a b rs x7 x8 x9 x10 x11 x12 x13 x14 x15 x16 x17) S = some (.fr [], S) := lst_of (ws := []) (ds := []) rfl rfl (show 0 ≤ 1000000 by decide)
  rw [bPar_, acons_of e rfl (acons_of e rfl rfl)]
  rfl
def rgB (f : KN) : ED := eLc (iR1 (aCons (eVar 1) aNil)) (gN 16) bYes (eN f (aCons (eVar 12) (aCons (eVar 16) aNil))) [16]
theorem rg_eq {f : KN} {r : List Int} {v : Nat → Nat × Nat} (h5 : n ≤ 5) (h : ∀ k, k < n → f [.d (rowD r), .d (.int (k : Int))] S = some (.w (.d (frD (v k))), S)) :
    rgB f (rE n s p a b rs x7 x8 x9 x10 x11 (some (.d (rowD r))) x13 x14 x15 none x17) S = some (.fr (((List.range n).map v).map frD), S) := by
  have hl := lc_nat (t := bYes) (el := eN f (aCons (eVar 12) (aCons (eVar 16) aNil))) (ρ := rE n s p a b rs x7 x8 x9 x10 x11 (some (.d (rowD r))) x13 x14 x15 none x17) (S := S) 16 n (fun k => frD (v k)) rfl (fun k hk => ⟨_, call_of (ws := [.d (rowD r), .d (.int (k : Int))]) (S1 := S) rfl (h k hk), rfl⟩) (by omega)
  have hw : wipeE (rE n s p a b rs x7 x8 x9 x10 x11 (some (.d (rowD r))) x13 x14 x15 none x17) [16] = rE n s p a b rs x7 x8 x9 x10 x11 (some (.d (rowD r))) x13 x14 x15 none x17 := rfl
  have e2 : iR1 (aCons (eVar 1) aNil) (rE n s p a b rs x7 x8 x9 x10 x11 (some (.d (rowD r))) x13 x14 x15 none x17) S = some (ntD (List.range n), S) := by
    rw [r1_of (j := (n : Int)) (S1 := S) rfl (inB_nat (by omega)), Int.toNat_natCast, upTo_nat]
    rfl
  unfold rgB
  rw [eLc_, e2, Option.bind_some, hw, hl, List.map_map]
  rfl
theorem cat_of {f g : ED} {ρ : En} {r r' : Rs} {xs ys : List D} (hf : f ρ S = some (r, S)) (hr : frz r = .d (.list xs)) (hg : g ρ S = some (r', S)) (hr' : frz r' = .d (.list ys)) (hl : xs.length + ys.length ≤ 1000000) : eAdd f g ρ S = some (.fr (xs ++ ys), S) :=
  e2_of hf hr hg hr' (by rw [kAdd_lists, kCat_lists, if_pos (sz hl)])
def dwB : SD := (bSeq (bSet 10 (eAdd (eVar 10) (rgB F_mean_depth))) (bSet 11 (eAdd (eVar 11) (rgB F_mean_inside))))
theorem dw_turn {r : List Int} {L1 L2 : List (Nat × Nat)} (hr : r.length = n) (h5 : n ≤ 5) (h1 : ∀ k, k < n → ∀ o, o < n → okF M0 (arM n (lx r) k o)) (hl1 : L1.length ≤ 1000) (hl2 : L2.length ≤ 1000) :
    dwB (rE n s p a b rs x7 x8 x9 (some (.d (.list (L1.map frD)))) (some (.d (.list (L2.map frD)))) (some (.d (rowD r))) x13 x14 x15 none x17) S =
    some (.nx (rE n s p a b rs x7 x8 x9 (some (.d (.list ((L1 ++ mdR n (lx r)).map frD)))) (some (.d (.list ((L2 ++ miR n (lx r)).map frD)))) (some (.d (rowD r))) x13 x14 x15 none x17) S) := by
  have e1 := rg_eq (s := s) (p := p) (a := a) (b := b) (rs := rs) (x7 := x7) (x8 := x8) (x9 := x9) (x10 := some (.d (.list (L1.map frD)))) (x11 := some (.d (.list (L2.map frD)))) (x13 := x13) (x14 := x14) (x15 := x15) (x17 := x17) (S := S) (f := F_mean_depth) (r := r) (v := fun k => red (sumM M0 (mdL n (lx r) k)) M0) h5 (fun k hk => by
    have e := depth_eq (xs := r) (k := k) (M := M0) (S := S) (by omega) (by omega) M0_pos M0_lt (fun f hf => by
      obtain ⟨o, ho, rfl⟩ := List.mem_map.mp hf
      rw [hr] at ho ⊢
      exact h1 k hk o (List.mem_range.mp ho))
    rw [hr] at e
    exact e)
  have e2 := rg_eq (s := s) (p := p) (a := a) (b := b) (rs := rs) (x7 := x7) (x8 := x8) (x9 := x9) (x10 := some (.d (.list ((L1 ++ mdR n (lx r)).map frD)))) (x11 := some (.d (.list (L2.map frD)))) (x13 := x13) (x14 := x14) (x15 := x15) (x17 := x17) (S := S) (f := F_mean_inside) (r := r) (v := fun k => red (sumM M0 (miL n (lx r) k)) M0) h5 (fun k hk => by
    have e := inside_eq (xs := r) (k := k) (M := M0) (S := S) (by omega) (by omega) M0_pos M0_lt (fun f hf => by
      obtain ⟨o, ho, rfl⟩ := List.mem_map.mp hf
      rw [hr] at ho ⊢
      exact h1 o (List.mem_range.mp ho) k hk)
    rw [hr] at e
    exact e)
  have c1 := cat_of (f := eVar 10) (xs := L1.map frD) rfl rfl e1 rfl (by simp; omega)
  have c2 := cat_of (f := eVar 11) (xs := L2.map frD) rfl rfl e2 rfl (by simp; omega)
  rw [← List.map_append] at c1 c2
  exact (seq_nx (set_of c1 rfl)).trans (set_of c2 rfl)
theorem dw_loop (h5 : n ≤ 5) : ∀ (l : List (List Int)) (L1 L2 : List (Nat × Nat)) (x12 : Option Sl), (∀ r ∈ l, r.length = n ∧ ∀ k, k < n → ∀ o, o < n → okF M0 (arM n (lx r) k o)) → L1.length + 5 * l.length ≤ 1000 → L2.length + 5 * l.length ≤ 1000 →
    ∃ y12, forL (gN 12) dwB (l.map rowD) (rE n s p a b rs x7 x8 x9 (some (.d (.list (L1.map frD)))) (some (.d (.list (L2.map frD)))) x12 x13 x14 x15 none x17) S =
      some (.nx (rE n s p a b rs x7 x8 x9 (some (.d (.list ((L1 ++ l.flatMap fun r => mdR n (lx r)).map frD)))) (some (.d (.list ((L2 ++ l.flatMap fun r => miR n (lx r)).map frD)))) y12 x13 x14 x15 none x17) S)
  | [], L1, L2, x12, _, _, _ => ⟨x12, by rw [List.flatMap_nil, List.flatMap_nil, List.append_nil, List.append_nil]; rfl⟩
  | r :: l, L1, L2, x12, h, hl1, hl2 => by
    rw [List.length_cons] at hl1 hl2
    obtain ⟨hr, hk⟩ := h r (by simp)
    have l1 : (mdR n (lx r)).length = n := by simp [mdR]
    have l2 : (miR n (lx r)).length = n := by simp [miR]
    obtain ⟨y12, e⟩ := dw_loop h5 l (L1 ++ mdR n (lx r)) (L2 ++ miR n (lx r)) (some (.d (rowD r))) (fun x hx => h x (List.mem_cons_of_mem _ hx)) (by rw [List.length_append]; omega) (by rw [List.length_append]; omega)
    refine ⟨y12, ?_⟩
    rw [List.flatMap_cons, List.flatMap_cons, ← List.append_assoc, ← List.append_assoc, ← e]
    exact forL_nx (ds := l.map rowD) (ρ1 := rE n s p a b rs x7 x8 x9 (some (.d (.list (L1.map frD)))) (some (.d (.list (L2.map frD)))) (some (.d (rowD r))) x13 x14 x15 none x17) rfl (dw_turn hr h5 hk (by omega) (by omega))
theorem st_dw (H : Stg n s p a b rs) : ∃ y12, (bFor (iSq (eVar 2)) (gN 12) (bSeq (bSet 10 (eAdd (eVar 10) (eLc (iR1 (aCons (eVar 1) aNil)) (gN 16) bYes (eN F_mean_depth (aCons (eVar 12) (aCons (eVar 16) aNil))) [16]))) (bSet 11 (eAdd (eVar 11) (eLc (iR1 (aCons (eVar 1) aNil)) (gN 16) bYes (eN F_mean_inside (aCons (eVar 12) (aCons (eVar 16) aNil))) [16]))))) (rE n s p a b rs x7 x8 x9 (some (.d (.list []))) (some (.d (.list []))) x12 x13 x14 x15 none x17) S =
    some (.nx (rE n s p a b rs x7 x8 x9 (some (.d (.list ((rs.flatMap fun r => mdR n (lx r)).map frD)))) (some (.d (.list ((rs.flatMap fun r => miR n (lx r)).map frD)))) y12 x13 x14 x15 none x17) S) := by
  have ht := tab_len n H.h5
  have hc := H.hR.cnt
  unfold fct at hc
  obtain ⟨y12, e⟩ := dw_loop (s := s) (p := p) (a := a) (b := b) (rs := rs) (x7 := x7) (x8 := x8) (x9 := x9) (x13 := x13) (x14 := x14) (x15 := x15) (x17 := x17) (S := S) H.h5 rs [] [] x12 (fun r hr => ⟨H.hR.len r hr, fun k hk o ho => by
    obtain ⟨r', hr', el⟩ := H.hR.mem r hr
    rw [el]
    exact (tab_ok n H.h5 k hk o ho r' hr').2⟩) (by simp; omega) (by simp; omega)
  exact ⟨y12, for_of (xs := rs.map rowD) (S1 := S) (iSq_of (x := .w (.d (rowsD rs))) rfl rfl rfl) e⟩
theorem md_sum (H : Stg n s p a b rs) : red (sumM M0 (rs.flatMap fun r => mdR n (lx r))) (M0 * fct n) = dpM n ∧ red (sumM M0 (rs.flatMap fun r => miR n (lx r))) (M0 * fct n) = dpM n := by
  have p1 := sum_flat_perm (M := M0) (H.hR.perm (fun r => mdR n (lx r)) fun r r' _ _ _ _ e => by rw [e])
  have p2 := sum_flat_perm (M := M0) (H.hR.perm (fun r => miR n (lx r)) fun r r' _ _ _ _ e => by rw [e])
  rw [p1, p2]
  exact ⟨tab_d n H.h5 H.h1, tab_i n H.h5 H.h1⟩
theorem md_ok (H : Stg n s p a b rs) : (∀ f ∈ (rs.flatMap fun r => mdR n (lx r)), okF M0 f) ∧ (∀ f ∈ (rs.flatMap fun r => miR n (lx r)), okF M0 f) := by
  constructor
  · intro f hf
    obtain ⟨r, hr, hf⟩ := List.mem_flatMap.mp hf
    obtain ⟨k, hk, rfl⟩ := List.mem_map.mp hf
    obtain ⟨r', hr', el⟩ := H.hR.mem r hr
    rw [el]
    exact (tab_di n H.h5 r' hr' k (List.mem_range.mp hk)).1
  · intro f hf
    obtain ⟨r, hr, hf⟩ := List.mem_flatMap.mp hf
    obtain ⟨k, hk, rfl⟩ := List.mem_map.mp hf
    obtain ⟨r', hr', el⟩ := H.hR.mem r hr
    rw [el]
    exact (tab_di n H.h5 r' hr' k (List.mem_range.mp hk)).2
theorem md_len (H : Stg n s p a b rs) : (rs.flatMap fun r => mdR n (lx r)).length ≤ 1000000 ∧ (rs.flatMap fun r => miR n (lx r)).length ≤ 1000000 := by
  have h1 := flat_len (fun r => mdR n (lx r)) 5 rs (fun r _ => by have := H.h5; simpa [mdR] using this)
  have h2 := flat_len (fun r => miR n (lx r)) 5 rs (fun r _ => by have := H.h5; simpa [miR] using this)
  have := H.len
  omega
theorem st_deep (H : Stg n s p a b rs) : (bIf (bNot (bE (eN (F__law_same 4) (aCons (eLst (aCons (eN F__law_mean (aCons (eVar 10) (aCons (eVar 7) aNil))) (aCons (eN F__law_mean (aCons (eVar 11) (aCons (eVar 7) aNil))) aNil))) (aCons (eMul (eLst (aCons (eN F__law_deep (aCons (eVar 1) aNil)) aNil)) (eC (.int 2))) aNil))))) (bRet (eC (.bool false))) bNil)
    (rE n s p a b rs (dI (fct n)) x8 x9 (some (.d (.list ((rs.flatMap fun r => mdR n (lx r)).map frD)))) (some (.d (.list ((rs.flatMap fun r => miR n (lx r)).map frD)))) x12 x13 x14 x15 none x17) S =
    some (.nx (rE n s p a b rs (dI (fct n)) x8 x9 (some (.d (.list ((rs.flatMap fun r => mdR n (lx r)).map frD)))) (some (.d (.list ((rs.flatMap fun r => miR n (lx r)).map frD)))) x12 x13 x14 x15 none x17) S) := by
  have ht := tab_len n H.h5
  have hf : 0 < fct n ∧ fct n ≤ 120 := ⟨ht.2, ht.1⟩
  have hf2 : fct n < 2 ^ 50 := by omega
  have e1 := mean_eq (M := M0) (many := fct n) (S := S) M0_pos M0_lt (md_ok H).1 (md_len H).1 hf.1 hf2
  have e2 := mean_eq (M := M0) (many := fct n) (S := S) M0_pos M0_lt (md_ok H).2 (md_len H).2 hf.1 hf2
  rw [(md_sum H).1] at e1
  rw [(md_sum H).2] at e2
  have e3 := deep_eq (n := n) (S := S) H.h1 H.h5
  generalize (rs.flatMap fun r => mdR n (lx r)) = L1 at *
  generalize (rs.flatMap fun r => miR n (lx r)) = L2 at *
  have o2 := offs_d (S := S) [frD (dpM n), frD (dpM n)]
  have o1 := offs_d (S := S) [frD (dpM n)]
  have k2 : kMul (.d (.list [frD (dpM n)])) (.d (.int 2)) S = some (.fr [frD (dpM n), frD (dpM n)], S) := by
    rw [kMul_list, if_pos ⟨by decide, sz (show 1 * 2 ≤ 1000000 by decide)⟩]
    rfl
  refine same_nx (x := .list [frD (dpM n), frD (dpM n)]) (w := .d (.list [frD (dpM n), frD (dpM n)])) (S1 := S)
    (lst_of (acons_of (call_of (ws := [.d (.list (L1.map frD)), .d (.int ((fct n : Nat) : Int))]) (S1 := S) rfl e1) rfl (acons_of (call_of (ws := [.d (.list (L2.map frD)), .d (.int ((fct n : Nat) : Int))]) (S1 := S) rfl e2) rfl rfl)) o2 (show 2 ≤ 1000000 by decide)) rfl
    (mulL_of (lst_of (acons_of (call_of (ws := [.d (.int (n : Int))]) (S1 := S) rfl e3) rfl rfl) o1 (show 1 ≤ 1000000 by decide)) rfl (y := .w (.d (.int 2))) (S2 := S) rfl rfl k2) rfl (same_d 4 _ S ?_)
  unfold frD
  simp [pl, pls]
end
end K87

set_option Elab.async false
set_option linter.all false
set_option maxRecDepth 100000
set_option maxHeartbeats 4000000
/-! The comparison: who holds whom in how many rows, and all of it. -/
namespace K87
open PySem L2 DL Ct
section
variable {n s p a b : Nat} {rs : List (List Int)} {x7 x8 x9 x10 x11 x12 x13 x14 x15 x16 x17 : Option Sl} {S : Sto}
def gdC (n a b : Nat) (r : List Int) : Bool := decide ((b : Int) ∈ (hld n (lx r) a).map fun i : Nat => (i : Int))
theorem gd_iff {r : List Int} (hb : b < n) : gdC n a b r = (b != a && abv (lx r) b a) := by
  unfold gdC hld
  by_cases h : (b != a && abv (lx r) b a) = true
  · rw [h, decide_eq_true_eq]
    exact List.mem_map.mpr ⟨b, List.mem_filter.mpr ⟨List.mem_range.mpr hb, h⟩, rfl⟩
  · rw [Bool.not_eq_true] at h
    rw [h, decide_eq_false_iff_not]
    rintro h2
    obtain ⟨i, hi, e⟩ := List.mem_map.mp h2
    have hi2 := (List.mem_filter.mp hi).2
    have e : i = b := by omega
    rw [e, h] at hi2
    exact Bool.false_ne_true hi2
theorem kIn_l (x : Int) (own : List Int) (S : Sto) : kIn false (.d (.int x)) (.d (.list (own.map .int))) S = some (.w (.d (.bool (decide (x ∈ own)))), S) := by
  have h := any_ints x own
  have e : oIn false (.int x) (.list (own.map .int)) = some (.bool (decide (x ∈ own))) := by
    unfold oIn
    simp [h, flatD, flat_ints]
  unfold kIn
  rw [k2D_, e]
  rfl
theorem st_good (H : Stg n s p a b rs) : (bSet 13 (eLc (iSq (eVar 2)) (gN 12) (bE (eIn (eVar 6) (eN F_holders (aCons (eVar 12) (aCons (eVar 5) aNil))))) (eVar 12) [12])) (rE n s p a b rs x7 x8 x9 x10 x11 x12 x13 x14 x15 x16 x17) S =
    some (.nx (rE n s p a b rs x7 x8 x9 x10 x11 x12 (some (.d (rowsD (rs.filter (gdC n a b))))) x14 x15 x16 x17) S) := by
  have e := lc_rowsF (t := (bE (eIn (eVar 6) (eN F_holders (aCons (eVar 12) (aCons (eVar 5) aNil)))))) (el := eVar 12) (ρ := rE n s p a b rs x7 x8 x9 x10 x11 x12 x13 x14 x15 x16 x17) (ρ0 := rE n s p a b rs x7 x8 x9 x10 x11 none x13 x14 x15 x16 x17) (S := S) (rs := rs) (c := gdC n a b) (Fd := rowD) rfl rfl H.len (fun r hr => by
    have hl := H.hR.len r hr
    have g := holders_eq (xs := r) (p := a) (S := S) (by rw [hl]; exact H.ha) (by rw [hl]; have := H.h5; omega)
    rw [hl] at g
    have ei : ntD (hld n (lx r) a) = ((hld n (lx r) a).map fun i : Nat => (i : Int)).map .int := by rw [List.map_map]; rfl
    rw [ei] at g
    have k := kIn_l (b : Int) ((hld n (lx r) a).map fun i : Nat => (i : Int)) S
    refine ⟨bE_of' (x := .w (.d (.bool (gdC n a b r)))) (S1 := S) (e2_of (x := .w (.d (.int (b : Int)))) rfl rfl (call_of (ws := [.d (rowD r), .d (.int (a : Int))]) (S1 := S) rfl g) rfl k) rfl, fun _ => ⟨.w (.d (rowD r)), rfl, rfl⟩⟩)
  exact set_of e rfl
def farL (a b : Nat) (rs : List (List Int)) : List D := rs.map fun r => fewM (lx r) a b
theorem st_far (H : Stg n s p a b rs) : (bSet 14 (eLc (iSq (eVar 2)) (gN 12) bYes (eN F_fewest_moves (aCons (eVar 12) (aCons (eVar 5) (aCons (eVar 6) aNil)))) [12])) (rE n s p a b rs x7 x8 x9 x10 x11 x12 x13 x14 x15 x16 x17) S =
    some (.nx (rE n s p a b rs x7 x8 x9 x10 x11 x12 x13 (some (.d (.list (farL a b rs)))) x15 x16 x17) S) := by
  have e := lc_rowsF (t := bYes) (el := (eN F_fewest_moves (aCons (eVar 12) (aCons (eVar 5) (aCons (eVar 6) aNil))))) (ρ := rE n s p a b rs x7 x8 x9 x10 x11 x12 x13 x14 x15 x16 x17) (ρ0 := rE n s p a b rs x7 x8 x9 x10 x11 none x13 x14 x15 x16 x17) (S := S) (rs := rs) (c := fun _ => true) (Fd := fun r => fewM (lx r) a b) rfl rfl H.len (fun r hr => by
    have hl := H.hR.len r hr
    have g := fewest_eq (xs := r) (a := a) (b := b) (S := S) (by rw [hl]; exact H.ha) (by rw [hl]; exact H.hb) (by rw [hl]; have := H.h5; omega)
    exact ⟨rfl, fun _ => ⟨_, call_of (ws := [.d (rowD r), .d (.int (a : Int)), .d (.int (b : Int))]) (S1 := S) rfl g, rfl⟩⟩)
  rw [List.filter_eq_self.mpr (fun _ _ => rfl)] at e
  exact set_of e rfl
theorem pls_rep {k : Nat} {x : D} (h : pl k x = true) : ∀ m, pls k (List.replicate m x) = true
  | 0 => rfl
  | m + 1 => by rw [List.replicate_succ, pls, h, pls_rep h m]; rfl
theorem eq_ints {i j : Int} : kEq (.d (.int i)) (.d (.int j)) S = some (.w (.d (.bool (decide (i = j)))), S) := by
  show k2D (oEq false) _ _ _ = _
  rw [k2D_, oEq_ints, Bool.false_xor]
  rfl
/-- one == other -/
theorem st_self {m : Nat} (hm : m ≤ 1000) (hab : a = b) : (bIf (bE (eEq (eVar 5) (eVar 6))) (bRet (eN (F__law_same 4) (aCons (eLst (aCons (eVar 13) (aCons (eVar 14) aNil))) (aCons (eLst (aCons (eLst aNil) (aCons (eMul (eLst (aCons (eC .none) aNil)) (eVar 7)) aNil))) aNil)))) bNil)
    (rE n s p a b rs (dI m) x8 x9 x10 x11 x12 (some (.d (.list []))) (some (.d (.list (List.replicate m .none)))) x15 x16 x17) S = some (.rt (.w (.d (.bool true))) S) := by
  subst hab
  have t : bE (eEq (eVar 5) (eVar 6)) (rE n s p a a rs (dI m) x8 x9 x10 x11 x12 (some (.d (.list []))) (some (.d (.list (List.replicate m .none)))) x15 x16 x17) S = some (true, S) := by
    refine bE_of' (x := .w (.d (.bool true))) (e2_of (x := .w (.d (.int (a : Int)))) (y := .w (.d (.int (a : Int)))) rfl rfl rfl rfl ?_) rfl
    exact eq_ints.trans (by simp)
  have k2 : kMul (.d (.list [.none])) (.d (.int (m : Int))) S = some (.fr (List.replicate m .none), S) := by
    rw [kMul_list, if_pos ⟨by omega, sz (by rw [List.length_singleton, Int.toNat_natCast]; omega)⟩, Int.toNat_natCast, flat_one]
  have o1 := offs_d (S := S) [PyData.none]
  have o0 := offs_d (S := S) []
  have o2 := offs_d (S := S) [PyData.list [], PyData.list (List.replicate m .none)]
  have hp : pl 4 (.list [PyData.list [], PyData.list (List.replicate m .none)]) = true := by
    have := pls_rep (k := 2) (x := .none) rfl m
    rw [pl, pls, pls, pls, pl, pl, this]
    simp [pls]
    omega
  have hs := same_d 4 _ S hp
  exact if_t t (ret_of (call_of (acons_of (lst_of (ws := [.d (.list []), .d (.list (List.replicate m .none))]) (S1 := S) rfl o2 (show 2 ≤ 1000000 by decide)) rfl
    (acons_of (lst_of (acons_of (lst_of (ws := []) (ds := []) (S1 := S) rfl o0 (show 0 ≤ 1000000 by decide)) rfl (acons_of (mulL_of (lst_of (ws := [.d .none]) (S1 := S) rfl o1 (show 1 ≤ 1000000 by decide)) rfl (y := .w (.d (.int (m : Int)))) (S2 := S) rfl rfl k2) rfl rfl)) o2 (show 2 ≤ 1000000 by decide)) rfl rfl)) hs))
theorem st_notself (hab : a ≠ b) {bb : SD} : (bIf (bE (eEq (eVar 5) (eVar 6))) bb bNil) (rE n s p a b rs x7 x8 x9 x10 x11 x12 x13 x14 x15 x16 x17) S = some (.nx (rE n s p a b rs x7 x8 x9 x10 x11 x12 x13 x14 x15 x16 x17) S) := by
  refine if_f (S1 := S) (bE_of' (x := .w (.d (.bool false))) (e2_of (x := .w (.d (.int (a : Int)))) (y := .w (.d (.int (b : Int)))) rfl rfl rfl rfl ?_) rfl) rfl
  exact eq_ints.trans (by simp; omega)
abbrev far (a b : Nat) : Nat := ((a : Int) - (b : Int)).natAbs
theorem st_size : (bSet 15 (eAdd (eN kAbs (aCons (eSub (eVar 5) (eVar 6)) aNil)) (eC (.int 1)))) (rE n s p a b rs x7 x8 x9 x10 x11 x12 x13 x14 x15 x16 x17) S =
    some (.nx (rE n s p a b rs x7 x8 x9 x10 x11 x12 x13 x14 (some (.d (.int ((far a b : Nat) + 1 : Int)))) x16 x17) S) := by
  have e1 : eSub (eVar 5) (eVar 6) (rE n s p a b rs x7 x8 x9 x10 x11 x12 x13 x14 x15 x16 x17) S = some (.w (.d (.int ((a : Int) - (b : Int)))), S) := sub_of (x := .w (.d (.int (a : Int)))) (y := .w (.d (.int (b : Int)))) rfl rfl rfl rfl
  have e2 : kAbs [.d (.int ((a : Int) - (b : Int)))] S = some (.w (.d (.int ((far a b : Nat) : Int))), S) := by
    show kN1 (k1D oAbs) _ _ = _
    rw [kN1_, k1D_, oAbs_]
    rfl
  exact set_of (add_of (call_of (acons_of e1 rfl rfl) e2) rfl (y := .w (.d (.int 1))) rfl rfl) rfl
theorem filt_none (v : Int) (c : List Int → Bool) : ∀ rs : List (List Int), (rs.map fun r => if c r then PyData.int v else .none).filterMap unNo = List.replicate (rs.filter c).length (.int v)
  | [] => rfl
  | r :: rs => by
    rw [List.map_cons, List.filterMap_cons, List.filter_cons]
    cases h : c r with
    | true =>
      rw [if_pos rfl, if_pos rfl]
      show _ :: _ = _
      rw [filt_none v c rs]
      rfl
    | false =>
      rw [if_neg (by simp), if_neg (by simp)]
      show List.filterMap _ _ = _
      rw [filt_none v c rs]
theorem far_eq (hb : b < n) : farL a b rs = rs.map fun r => if gdC n a b r then .int ((far a b : Nat) : Int) else .none := by
  unfold farL
  refine List.map_congr_left fun r _ => ?_
  rw [gd_iff hb]
  unfold fewM
  have e1 : (a != b) = (b != a) := by rw [bne_comm]
  have e2 : ((b : Int) - (a : Int)).natAbs = far a b := by unfold far; omega
  rw [e1, e2]
theorem st_end {m : Nat} {gs : List (List Int)} {L : List D} (hm : m ≤ 1000) (hF : far a b ≤ 1000) (hg : gs.length * (far a b + 1) = m) (hL : L.length ≤ 1000) (hLi : ∀ x ∈ L, (∃ j, x = .int j) ∨ x = .none)
    (hf : L.filterMap unNo = List.replicate gs.length (.int ((far a b : Nat) : Int))) :
    (bRet (eAndV (eEq (eMul (eN kLen (aCons (eVar 13) aNil)) (eVar 15)) (eVar 7)) (eN (F__law_same 4) (aCons (eLc (iSq (eVar 14)) (gN 17) (bE (eNotN (eVar 17))) (eVar 17) [17]) (aCons (eMul (eLst (aCons (eSub (eVar 15) (eC (.int 1))) aNil)) (eN kLen (aCons (eVar 13) aNil))) aNil)))))
    (rE n s p a b rs (dI m) x8 x9 x10 x11 x12 (some (.d (rowsD gs))) (some (.d (.list L))) (some (.d (.int ((far a b : Nat) + 1 : Int)))) x16 x17) S = some (.rt (.w (.d (.bool true))) S) := by
  have hg1 : gs.length ≤ 1000 := by
    have h : gs.length * 1 ≤ gs.length * (far a b + 1) := Nat.mul_le_mul_left _ (by omega)
    omega
  have eV : ∀ (i : Nat) (w : Sl), (rE n s p a b rs (dI m) x8 x9 x10 x11 x12 (some (.d (rowsD gs))) (some (.d (.list L))) (some (.d (.int ((far a b : Nat) + 1 : Int)))) x16 x17).getD i none = some w → eVar i (rE n s p a b rs (dI m) x8 x9 x10 x11 x12 (some (.d (rowsD gs))) (some (.d (.list L))) (some (.d (.int ((far a b : Nat) + 1 : Int)))) x16 x17) S = some (.w w, S) := fun i w h => by rw [eVar_, h]; rfl
  have v13 := eV 13 _ rfl
  have v14 := eV 14 _ rfl
  have v15 := eV 15 _ rfl
  have v7 := eV 7 _ rfl
  have w17 : wipeE (rE n s p a b rs (dI m) x8 x9 x10 x11 x12 (some (.d (rowsD gs))) (some (.d (.list L))) (some (.d (.int ((far a b : Nat) + 1 : Int)))) x16 x17) [17] = rE n s p a b rs (dI m) x8 x9 x10 x11 x12 (some (.d (rowsD gs))) (some (.d (.list L))) (some (.d (.int ((far a b : Nat) + 1 : Int)))) x16 none := rfl
  have s17 : ∀ x : D, gN 17 x (rE n s p a b rs (dI m) x8 x9 x10 x11 x12 (some (.d (rowsD gs))) (some (.d (.list L))) (some (.d (.int ((far a b : Nat) + 1 : Int)))) x16 none) = some (rE n s p a b rs (dI m) x8 x9 x10 x11 x12 (some (.d (rowsD gs))) (some (.d (.list L))) (some (.d (.int ((far a b : Nat) + 1 : Int)))) x16 (some (.d x))) := fun _ => rfl
  have t17 : ∀ x : D, (rE n s p a b rs (dI m) x8 x9 x10 x11 x12 (some (.d (rowsD gs))) (some (.d (.list L))) (some (.d (.int ((far a b : Nat) + 1 : Int)))) x16 (some (.d x))).getD 17 none = some (.d x) := fun _ => rfl
  have len : eN kLen (aCons (eVar 13) aNil) (rE n s p a b rs (dI m) x8 x9 x10 x11 x12 (some (.d (rowsD gs))) (some (.d (.list L))) (some (.d (.int ((far a b : Nat) + 1 : Int)))) x16 x17) S = some (.w (.d (.int ((gs.length : Nat) : Int))), S) := by
    refine call_of (acons_of v13 rfl rfl) ?_
    show kN1 (k1D oLen) _ _ = _
    rw [frz_w, kN1_, k1D_, rowsD, oLen_l, List.length_map]
    rfl
  generalize rE n s p a b rs (dI m) x8 x9 x10 x11 x12 (some (.d (rowsD gs))) (some (.d (.list L))) (some (.d (.int ((far a b : Nat) + 1 : Int)))) x16 x17 = ρ at *
  have c1 : cMul ((gs.length : Nat) : Int) ((far a b : Nat) + 1 : Int) = true := cMul_sm (by omega) (by omega)
  have em : eMul (eN kLen (aCons (eVar 13) aNil)) (eVar 15) ρ S = some (.w (.d (.int (((gs.length : Nat) : Int) * ((far a b : Nat) + 1 : Int)))), S) := mul_of len rfl v15 rfl c1
  have ee : eEq (eMul (eN kLen (aCons (eVar 13) aNil)) (eVar 15)) (eVar 7) ρ S = some (.w (.d (.bool true)), S) := by
    refine e2_of em rfl v7 rfl ?_
    refine eq_ints.trans ?_
    rw [decide_eq_true (by rw [← hg]; push_cast; rfl)]
  have lc : eLc (iSq (eVar 14)) (gN 17) (bE (eNotN (eVar 17))) (eVar 17) [17] ρ S = some (.fr (List.replicate gs.length (.int ((far a b : Nat) : Int))), S) := by
    have hm := lcL_map (gd := gN 17) (t := bE (eNotN (eVar 17))) (el := eVar 17) (ρ := rE n s p a b rs (dI m) x8 x9 x10 x11 x12 (some (.d (rowsD gs))) (some (.d (.list L))) (some (.d (.int ((far a b : Nat) + 1 : Int)))) x16 none) (S := S) unNo (xs := L) [] (fun x hx => by
      refine ⟨_, s17 x, ?_⟩
      have h := not_none (S := S) (t17 x) (hLi x hx)
      rcases hLi x hx with ⟨j, rfl⟩ | rfl
      · exact .inl ⟨_, .w (.d (.int j)), h, by rw [eVar_, t17]; rfl, rfl, rfl⟩
      · exact .inr ⟨h, rfl⟩) (sz (by simp; omega))
    rw [eLc_, iSq_of (xs := L) v14 rfl rfl, Option.bind_some, w17, hm, hf]
    rfl
  have sb : eSub (eVar 15) (eC (.int 1)) ρ S = some (.w (.d (.int ((far a b : Nat) : Int))), S) := by
    rw [sub_of v15 rfl (y := .w (.d (.int 1))) rfl rfl]
    congr 5
    omega
  have o1 := offs_d (S := S) [PyData.int ((far a b : Nat) : Int)]
  have k2 : kMul (.d (.list [.int ((far a b : Nat) : Int)])) (.d (.int ((gs.length : Nat) : Int))) S = some (.fr (List.replicate gs.length (.int ((far a b : Nat) : Int))), S) := by
    rw [kMul_list, if_pos ⟨by omega, sz (by rw [List.length_singleton, Int.toNat_natCast]; omega)⟩, Int.toNat_natCast, flat_one]
  have ml : eMul (eLst (aCons (eSub (eVar 15) (eC (.int 1))) aNil)) (eN kLen (aCons (eVar 13) aNil)) ρ S = some (.fr (List.replicate gs.length (.int ((far a b : Nat) : Int))), S) :=
    mulL_of (lst_of (acons_of sb rfl rfl) o1 (show 1 ≤ 1000000 by decide)) rfl len rfl k2
  have hs := same_d 4 (.list (List.replicate gs.length (.int ((far a b : Nat) : Int)))) S (by
    rw [pl, pls_rep rfl]
    simp
    omega)
  have hc : eN (F__law_same 4) (aCons (eLc (iSq (eVar 14)) (gN 17) (bE (eNotN (eVar 17))) (eVar 17) [17]) (aCons (eMul (eLst (aCons (eSub (eVar 15) (eC (.int 1))) aNil)) (eN kLen (aCons (eVar 13) aNil))) aNil)) ρ S = some (.w (.d (.bool true)), S) :=
    call_of (acons_of lc rfl (acons_of ml rfl rfl)) hs
  refine ret_of ?_
  rw [eAndV_, ee, Option.bind_some]
  simp only [frz_w, rd_d, Option.bind_some, tsD_, if_true]
  exact hc
end
end K87

set_option Elab.async false
set_option linter.all false
set_option maxRecDepth 100000
set_option maxHeartbeats 4000000
/-! The whole comparison, and the law. -/
namespace K87
open PySem L2 DL Ct
section
variable {n s p a b : Nat} {rs : List (List Int)} {S : Sto}
/-- behind the draws -/
theorem right_rest (H : Stg n s p a b rs) {R3 R4 R5 R6 R7 R8 R9 R10 R11 R12 R13 R14 R15 R16 R17 R18 : SD}
    (d3 : R3 = (bSet 7 (eN kLen (aCons (eVar 2) aNil))))
    (d4 : R4 = (bSet 8 (eLst (aCons (eN kSum (aCons (eLc (iSq (eVar 2)) (gN 12) bYes (eN F_count_nestings (aCons (eVar 12) aNil)) [12]) aNil)) (aCons (eN kSum (aCons (eLc (iSq (eVar 2)) (gN 12) bYes (eN F_count_outer (aCons (eVar 12) (aCons (eVar 3) aNil))) [12]) aNil)) aNil)))))
    (d5 : R5 = (bIf (bNot (bE (eN (F__law_same 4) (aCons (eVar 8) (aCons (eLst (aCons (eN F__law_every (aCons (eVar 1) aNil)) (aCons (eN (F__law_lots 8) (aCons (eVar 1) (aCons (eVar 3) aNil))) aNil))) aNil))))) (bRet (eC (.bool false))) bNil))
    (d6 : R6 = (bSetC 8 (eLst (aCons (eN F__law_mean (aCons (eLc (iSq (eVar 2)) (gN 12) bYes (eTup (aCons (eN F_greatest_depth (aCons (eVar 12) (aCons (eVar 4) aNil))) (aCons (eC (.int 1)) aNil))) [12]) (aCons (eVar 7) aNil))) aNil))))
    (d7 : R7 = (bX (eM kApp (eVar 8) (aCons (eN F__law_mean (aCons (eLc (iSq (eVar 2)) (gN 12) bYes (eN F_holder_chance (aCons (eVar 12) (aCons (eVar 5) (aCons (eVar 6) aNil)))) [12]) (aCons (eVar 7) aNil))) aNil))))
    (d8 : R8 = (bX (eM kApp (eVar 8) (aCons (eN F__law_mean (aCons (eLc (iSq (eVar 2)) (gN 12) bYes (eN F_around_chance (aCons (eVar 12) (aCons (eVar 5) (aCons (eVar 6) aNil)))) [12]) (aCons (eVar 7) aNil))) aNil))))
    (d9 : R9 = (bSet 9 (eLst (aCons (eN F__law_great (aCons (eVar 1) (aCons (eVar 4) aNil))) (aCons (eN (F__law_chance 8) (aCons (eVar 1) (aCons (eVar 5) (aCons (eVar 6) (aCons (eC (.bool true)) aNil))))) (aCons (eN (F__law_chance 8) (aCons (eVar 1) (aCons (eVar 5) (aCons (eVar 6) (aCons (eC (.bool false)) aNil))))) aNil))))))
    (d10 : R10 = (bIf (bNot (bE (eN (F__law_same 4) (aCons (eVar 8) (aCons (eVar 9) aNil))))) (bRet (eC (.bool false))) bNil))
    (d11 : R11 = (bPar 10 11 (aCons (eLst aNil) (aCons (eLst aNil) aNil))))
    (d12 : R12 = (bFor (iSq (eVar 2)) (gN 12) (bSeq (bSet 10 (eAdd (eVar 10) (eLc (iR1 (aCons (eVar 1) aNil)) (gN 16) bYes (eN F_mean_depth (aCons (eVar 12) (aCons (eVar 16) aNil))) [16]))) (bSet 11 (eAdd (eVar 11) (eLc (iR1 (aCons (eVar 1) aNil)) (gN 16) bYes (eN F_mean_inside (aCons (eVar 12) (aCons (eVar 16) aNil))) [16]))))))
    (d13 : R13 = (bIf (bNot (bE (eN (F__law_same 4) (aCons (eLst (aCons (eN F__law_mean (aCons (eVar 10) (aCons (eVar 7) aNil))) (aCons (eN F__law_mean (aCons (eVar 11) (aCons (eVar 7) aNil))) aNil))) (aCons (eMul (eLst (aCons (eN F__law_deep (aCons (eVar 1) aNil)) aNil)) (eC (.int 2))) aNil))))) (bRet (eC (.bool false))) bNil))
    (d14 : R14 = (bSet 13 (eLc (iSq (eVar 2)) (gN 12) (bE (eIn (eVar 6) (eN F_holders (aCons (eVar 12) (aCons (eVar 5) aNil))))) (eVar 12) [12])))
    (d15 : R15 = (bSet 14 (eLc (iSq (eVar 2)) (gN 12) bYes (eN F_fewest_moves (aCons (eVar 12) (aCons (eVar 5) (aCons (eVar 6) aNil)))) [12])))
    (d16 : R16 = (bIf (bE (eEq (eVar 5) (eVar 6))) (bRet (eN (F__law_same 4) (aCons (eLst (aCons (eVar 13) (aCons (eVar 14) aNil))) (aCons (eLst (aCons (eLst aNil) (aCons (eMul (eLst (aCons (eC .none) aNil)) (eVar 7)) aNil))) aNil)))) bNil))
    (d17 : R17 = (bSet 15 (eAdd (eN kAbs (aCons (eSub (eVar 5) (eVar 6)) aNil)) (eC (.int 1)))))
    (d18 : R18 = (bRet (eAndV (eEq (eMul (eN kLen (aCons (eVar 13) aNil)) (eVar 15)) (eVar 7)) (eN (F__law_same 4) (aCons (eLc (iSq (eVar 14)) (gN 17) (bE (eNotN (eVar 17))) (eVar 17) [17]) (aCons (eMul (eLst (aCons (eSub (eVar 15) (eC (.int 1))) aNil)) (eN kLen (aCons (eVar 13) aNil))) aNil)))))) :
    ∃ S', (bSeq R3 (bSeq R4 (bSeq R5 (bSeq R6 (bSeq R7 (bSeq R8 (bSeq R9 (bSeq R10 (bSeq R11 (bSeq R12 (bSeq R13 (bSeq R14 (bSeq R15 (bSeq R16 (bSeq R17 R18))))))))))))))) (rE n s p a b rs none none none none none none none none none none none) S = some (.rt (.w (.d (.bool true))) S') ∧ S.length ≤ S'.length := by
  subst d3 d4 d5 d6 d7 d8 d9 d10 d11 d12 d13 d14 d15 d16 d17 d18
  have hfc : fct n ≤ 1000 := by rw [← H.hR.cnt]; exact H.len
  have i0 : (S ++ [Cel.on [frD (grM M0 n p)]])[S.length]? = some (Cel.on [frD (grM M0 n p)]) := by simp
  have i1 : ((S ++ [Cel.on [frD (grM M0 n p)]]).set S.length (Cel.on [frD (grM M0 n p), frD (chM 8 n a b true)]))[S.length]? = some (Cel.on [frD (grM M0 n p), frD (chM 8 n a b true)]) := List.getElem?_set_self (by simp)
  have i2 : (((S ++ [Cel.on [frD (grM M0 n p)]]).set S.length (Cel.on [frD (grM M0 n p), frD (chM 8 n a b true)])).set S.length (Cel.on (g9 n p a b)))[S.length]? = some (Cel.on (g9 n p a b)) := List.getElem?_set_self (by simp)
  have i3 : [frD (grM M0 n p), frD (chM 8 n a b true), frD (chM 8 n a b false)] = g9 n p a b := rfl
  rw [seq_nx (st7 H), seq_nx (st8 H), seq_nx (st_same8 H), seq_nx (st_great H), seq_nx (st_hold H i0), seq_nx (st_around H i1), i3, seq_nx (st9 H), seq_nx (st_same9 i2), seq_nx st_par]
  obtain ⟨y12, e12⟩ := st_dw (x7 := dI (fct n)) (x8 := some (.c S.length)) (x9 := some (.d (.list (g9 n p a b)))) (x12 := none) (x13 := none) (x14 := none) (x15 := none) (x17 := none) (S := ((((S ++ [Cel.on [frD (grM M0 n p)]]).set S.length (Cel.on [frD (grM M0 n p), frD (chM 8 n a b true)])).set S.length (Cel.on (g9 n p a b))).set S.length (.off (g9 n p a b)))) H
  have hlen : S.length ≤ ((((S ++ [Cel.on [frD (grM M0 n p)]]).set S.length (Cel.on [frD (grM M0 n p), frD (chM 8 n a b true)])).set S.length (Cel.on (g9 n p a b))).set S.length (.off (g9 n p a b))).length := by simp
  generalize ((((S ++ [Cel.on [frD (grM M0 n p)]]).set S.length (Cel.on [frD (grM M0 n p), frD (chM 8 n a b true)])).set S.length (Cel.on (g9 n p a b))).set S.length (.off (g9 n p a b))) = T at *
  rw [seq_nx e12, seq_nx (st_deep H), seq_nx (st_good H), seq_nx (st_far H)]
  refine ⟨T, ?_, hlen⟩
  have hfar := far_eq (a := a) (rs := rs) H.hb
  by_cases hab : a = b
  · have hg : rs.filter (gdC n a b) = [] := by
      rw [List.filter_eq_nil_iff]
      intro r _
      rw [gd_iff H.hb, hab]
      simp
    have hf : farL a b rs = List.replicate (fct n) .none := by
      rw [hfar, ← H.hR.cnt]
      rw [← List.map_const']
      refine List.map_congr_left fun r _ => ?_
      rw [gd_iff H.hb, hab]
      simp
    rw [hg, hf]
    exact seq_rt (st_self hfc hab)
  · rw [seq_nx (st_notself hab), seq_nx st_size]
    have hF : far a b ≤ 1000 := by
      have h1 := H.ha; have h2 := H.hb; have h3 := H.h5
      unfold far
      omega
    have hp := H.hR.perm (gdC n a b) fun r r' _ _ _ _ e => by unfold gdC; rw [e]
    have hcount : (rs.filter (gdC n a b)).length = ((std n).filter (gdC n a b)).length := by
      have h1 := hp.countP_eq (fun x : Bool => x)
      rw [List.countP_map, List.countP_map] at h1
      rw [← List.countP_eq_length_filter, ← List.countP_eq_length_filter]
      exact h1
    have ht := tab_f n H.h5 a H.ha b H.hb hab
    have hgd : ∀ r : List Int, gdC n a b r = decide (b ∈ hld n (lx r) a) := by
      intro r
      unfold gdC
      refine decide_eq_decide.mpr ⟨fun h => ?_, fun h => List.mem_map.mpr ⟨b, h, rfl⟩⟩
      obtain ⟨i, hi, e⟩ := List.mem_map.mp h
      have e : i = b := by omega
      exact e ▸ hi
    rw [← show gdC n a b = (fun r => decide (b ∈ hld n (lx r) a)) from funext hgd, ← hcount] at ht
    refine st_end hfc hF ht (by rw [farL, List.length_map]; exact H.len) (fun x hx => ?_) ?_
    · rw [hfar] at hx
      obtain ⟨r, _, rfl⟩ := List.mem_map.mp hx
      cases gdC n a b r with
      | true => exact .inl ⟨_, rfl⟩
      | false => exact .inr rfl
    · rw [hfar]
      exact filt_none _ _ rs
end
theorem right_eq {x y z : Int} (hb : Bx 0 x y z) : ∃ S', F__law_right [.c 0] [Cel.on (bx x y z)] = some (.w (.d (.bool true)), S') := by
  obtain ⟨t, a1, b1, c1, e1, t0, t1, hb1⟩ := take_eq (S := [Cel.on (bx x y z)]) (i := 0) (s := 5) rfl hb (by omega) (by decide) (by decide)
  obtain ⟨m, rfl⟩ : ∃ m : Nat, t = (m : Int) := ⟨t.toNat, by omega⟩
  have hm : m < 5 := by omega
  obtain ⟨xs, a2, b2, c2, e2, hxl, ⟨zs, hz1, hz2, _⟩, hb2⟩ := row_eq (S := [Cel.on (bx a1 b1 c1)]) (i := 0) (n := 1 + m) rfl hb1 (by omega) (by omega) (by omega)
  have e3 := rows_eq (l := xs) (S := [Cel.on (bx a2 b2 c2)]) (by omega)
  have hR := rws_of hz2 hz1
  rw [hxl] at e3 hR
  obtain ⟨s, a3, b3, c3, e4, s0, s1, hb3⟩ := take_eq (S := [Cel.on (bx a2 b2 c2)]) (i := 0) (s := ((1 + m : Nat) : Int) + 2) rfl hb2 (by omega) (by omega) (by omega)
  obtain ⟨p, a4, b4, c4, e5, p0, p1, hb4⟩ := take_eq (S := [Cel.on (bx a3 b3 c3)]) (i := 0) (s := ((1 + m : Nat) : Int)) rfl hb3 (by omega) (by omega) (by omega)
  obtain ⟨u, a5, b5, c5, e6, u0, u1, hb5⟩ := take_eq (S := [Cel.on (bx a4 b4 c4)]) (i := 0) (s := ((1 + m : Nat) : Int)) rfl hb4 (by omega) (by omega) (by omega)
  obtain ⟨v, a6, b6, c6, e7, v0, v1, hb6⟩ := take_eq (S := [Cel.on (bx a5 b5 c5)]) (i := 0) (s := ((1 + m : Nat) : Int)) rfl hb5 (by omega) (by omega) (by omega)
  obtain ⟨s, rfl⟩ : ∃ m : Nat, s = (m : Int) := ⟨s.toNat, by omega⟩
  obtain ⟨p, rfl⟩ : ∃ m : Nat, p = (m : Int) := ⟨p.toNat, by omega⟩
  obtain ⟨u, rfl⟩ : ∃ m : Nat, u = (m : Int) := ⟨u.toNat, by omega⟩
  obtain ⟨v, rfl⟩ : ∃ m : Nat, v = (m : Int) := ⟨v.toNat, by omega⟩
  have H : Stg (1 + m) s p u v (rwsM xs (1 + m)) := ⟨hR, by omega, by omega, by omega, by omega, by omega, by omega⟩
  obtain ⟨S', e, hS⟩ := right_rest (S := [Cel.on (bx a6 b6 c6)]) H rfl rfl rfl rfl rfl rfl rfl rfl rfl rfl rfl rfl rfl rfl rfl rfl
  refine ⟨S'.take 1, (den_rt (np := 1) (n := 18) (ws := [.c 0]) (r := .w (.d (.bool true))) (S1 := S') rfl ?_).trans rfl⟩
  unfold b__law_right
  have q1 : bSet 1 (eAdd (eC (.int 1)) (eN F__law_take (aCons (eVar 0) (aCons (eC (.int 5)) aNil)))) ([Sl.c 0].map some ++ List.replicate (18 - 1) none) [Cel.on (bx x y z)] =
      some (.nx ([Sl.c 0].map some ++ [some (.d (.int ((1 + m : Nat) : Int)))] ++ List.replicate 16 none) [Cel.on (bx a1 b1 c1)]) := by
    have h := add_of (f := eC (.int 1)) (g := eN F__law_take (aCons (eVar 0) (aCons (eC (.int 5)) aNil))) (ρ := [Sl.c 0].map some ++ List.replicate (18 - 1) none) (S := [Cel.on (bx x y z)]) (x := .w (.d (.int 1))) rfl rfl (call_of (ws := [.c 0, .d (.int 5)]) (S1 := [Cel.on (bx x y z)]) rfl e1) rfl
    have w : (1 : Int) + (m : Int) = ((1 + m : Nat) : Int) := by omega
    rw [w] at h
    exact set_of h rfl
  rw [seq_nx q1]
  have q2 : bSet 2 (eN F__law_rows (aCons (eN F__law_row (aCons (eVar 0) (aCons (eVar 1) aNil))) aNil)) ([Sl.c 0].map some ++ [some (.d (.int ((1 + m : Nat) : Int)))] ++ List.replicate 16 none) [Cel.on (bx a1 b1 c1)] =
      some (.nx ([Sl.c 0].map some ++ [some (.d (.int ((1 + m : Nat) : Int))), some (.d (rowsD (rwsM xs (1 + m))))] ++ List.replicate 15 none) [Cel.on (bx a2 b2 c2)]) :=
    set_of (call_of (acons_of (call_of (ws := [.c 0, .d (.int ((1 + m : Nat) : Int))]) (S1 := [Cel.on (bx a1 b1 c1)]) rfl e2) rfl rfl) e3) rfl
  rw [seq_nx q2]
  have q3 : bUnp [3, 4, 5, 6] (eTup (aCons (eN F__law_take (aCons (eVar 0) (aCons (eAdd (eVar 1) (eC (.int 2))) aNil))) (aCons (eN F__law_take (aCons (eVar 0) (aCons (eVar 1) aNil))) (aCons (eN F__law_take (aCons (eVar 0) (aCons (eVar 1) aNil))) (aCons (eN F__law_take (aCons (eVar 0) (aCons (eVar 1) aNil))) aNil)))))
      ([Sl.c 0].map some ++ [some (.d (.int ((1 + m : Nat) : Int))), some (.d (rowsD (rwsM xs (1 + m))))] ++ List.replicate 15 none) [Cel.on (bx a2 b2 c2)] =
      some (.nx (rE (1 + m) s p u v (rwsM xs (1 + m)) none none none none none none none none none none none) [Cel.on (bx a6 b6 c6)]) := by
    have o := offs_d (S := [Cel.on (bx a6 b6 c6)]) [PyData.int (s : Int), PyData.int (p : Int), PyData.int (u : Int), PyData.int (v : Int)]
    have ad : (aCons (eVar 0) (aCons (eAdd (eVar 1) (eC (.int 2))) aNil)) ([Sl.c 0].map some ++ [some (.d (.int ((1 + m : Nat) : Int))), some (.d (rowsD (rwsM xs (1 + m))))] ++ List.replicate 15 none) [Cel.on (bx a2 b2 c2)] = some ([.c 0, .d (.int (((1 + m : Nat) : Int) + 2))], [Cel.on (bx a2 b2 c2)]) :=
      acons_of (x := .w (.c 0)) rfl rfl (acons_of (add_of (x := .w (.d (.int ((1 + m : Nat) : Int)))) (y := .w (.d (.int 2))) rfl rfl rfl rfl) rfl rfl)
    exact unp_of (tup_of (acons_of (call_of ad e4) rfl
      (acons_of (call_of (ws := [.c 0, .d (.int ((1 + m : Nat) : Int))]) (S1 := [Cel.on (bx a3 b3 c3)]) rfl e5) rfl
      (acons_of (call_of (ws := [.c 0, .d (.int ((1 + m : Nat) : Int))]) (S1 := [Cel.on (bx a4 b4 c4)]) rfl e6) rfl
      (acons_of (call_of (ws := [.c 0, .d (.int ((1 + m : Nat) : Int))]) (S1 := [Cel.on (bx a5 b5 c5)]) rfl e7) rfl rfl)))) o (show 4 ≤ 1000000 by decide)) rfl rfl
  rw [seq_nx q3]
  exact e
theorem main (a : Addr) (ns : List Int) (hl : ns.length ≤ 63) (hb : ∀ z ∈ ns, Builtin.Int.intBits z ≤ 1048576) : F_law a ns [.x a] [] = some (.w (.d (.bool true)), []) := by
  obtain ⟨cs, e1, h1, h2⟩ := cells_eq (a := a) (ns := ns) (t := 1) (by decide) (by decide) hl (fun z hz => bits_M1 (hb z hz))
  obtain ⟨c, cs, rfl⟩ : ∃ c cs', cs = c :: cs' := by
    cases cs with
    | nil => exact absurd rfl h1
    | cons c cs => exact ⟨c, cs, rfl⟩
  obtain ⟨x, y, z, e2, hbx⟩ := box_eq (c := c) (cs := cs) (h2 c (by simp))
  obtain ⟨S', e3⟩ := right_eq hbx
  refine (den_rt (np := 1) (n := 1) (ws := [.x a]) (r := .w (.d (.bool true))) (S1 := S') rfl ?_).trans rfl
  unfold b_law bRetNew
  have q1 : (aCons (eVar 0) (aCons (eC (.int 1)) aNil)) ([Sl.x a].map some ++ List.replicate (1 - 1) none) [] = some ([.x a, .d (.int ((1 : Nat) : Int))], []) := rfl
  have q2 : (eN F__law_box (aCons (eN (F__law_cells a ns) (aCons (eVar 0) (aCons (eC (.int 1)) aNil))) (aCons (eC (.int 0)) aNil))) ([Sl.x a].map some ++ List.replicate (1 - 1) none) [] = some (.fr (bx x y z), []) :=
    call_of (acons_of (call_of q1 e1) rfl (acons_of (x := .w (.d (.int 0))) rfl rfl rfl)) e2
  rw [q2, Option.bind_some]
  show ((F__law_right [.c 0] [Cel.on (bx x y z)]).bind _) = _
  rw [e3]
  rfl
end K87

set_option Elab.async false
set_option linter.all false
set_option maxRecDepth 100000
set_option maxHeartbeats 4000000
namespace K87
open PySem L2 DL Ct
theorem all_mk {l : PySem.W.OpenLaw} {w : World} {K : PySem.W.Frag} {h : Heap} {mg : Str → Option Value} {fa : Addr} (X : K.In h) (G : h.Ns mainGlobals mg) (hfa : mg "law" = some (.ref fa))
    {x_biggest : Addr} {od_biggest an_biggest : Option Addr} {sl_biggest : Array (Option Value)} {oc_biggest kV_biggest dc_biggest pm_biggest cd_biggest ct_biggest : Value} (a_biggest : PySem.W.nsIn K mainGlobals "biggest" = some (some (.ref x_biggest))) (l_biggest : K.lookup x_biggest = some ⟨oc_biggest, od_biggest, .func (PySem.W.fnOf "biggest" "biggest" (defArgs s_biggest) (defBody s_biggest) (defScope s_biggest) .none kV_biggest dc_biggest pm_biggest an_biggest cd_biggest ct_biggest), sl_biggest⟩) (c_biggest : PySem.W.codeIn K cd_biggest "biggest" = true) (k_biggest : PySem.W.keepIn K (.ref x_biggest) = true)
    {x_look_place : Addr} {od_look_place an_look_place : Option Addr} {sl_look_place : Array (Option Value)} {oc_look_place kV_look_place dc_look_place pm_look_place cd_look_place ct_look_place : Value} (a_look_place : PySem.W.nsIn K mainGlobals "look_place" = some (some (.ref x_look_place))) (l_look_place : K.lookup x_look_place = some ⟨oc_look_place, od_look_place, .func (PySem.W.fnOf "look_place" "look_place" (defArgs s_look_place) (defBody s_look_place) (defScope s_look_place) .none kV_look_place dc_look_place pm_look_place an_look_place cd_look_place ct_look_place), sl_look_place⟩) (c_look_place : PySem.W.codeIn K cd_look_place "look_place" = true) (k_look_place : PySem.W.keepIn K (.ref x_look_place) = true)
    {x_between : Addr} {od_between an_between : Option Addr} {sl_between : Array (Option Value)} {oc_between kV_between dc_between pm_between cd_between ct_between : Value} (a_between : PySem.W.nsIn K mainGlobals "between" = some (some (.ref x_between))) (l_between : K.lookup x_between = some ⟨oc_between, od_between, .func (PySem.W.fnOf "between" "between" (defArgs s_between) (defBody s_between) (defScope s_between) .none kV_between dc_between pm_between an_between cd_between ct_between), sl_between⟩) (c_between : PySem.W.codeIn K cd_between "between" = true) (k_between : PySem.W.keepIn K (.ref x_between) = true)
    {x_is_above : Addr} {od_is_above an_is_above : Option Addr} {sl_is_above : Array (Option Value)} {oc_is_above kV_is_above dc_is_above pm_is_above cd_is_above ct_is_above : Value} (a_is_above : PySem.W.nsIn K mainGlobals "is_above" = some (some (.ref x_is_above))) (l_is_above : K.lookup x_is_above = some ⟨oc_is_above, od_is_above, .func (PySem.W.fnOf "is_above" "is_above" (defArgs s_is_above) (defBody s_is_above) (defScope s_is_above) .none kV_is_above dc_is_above pm_is_above an_is_above cd_is_above ct_is_above), sl_is_above⟩) (c_is_above : PySem.W.codeIn K cd_is_above "is_above" = true) (k_is_above : PySem.W.keepIn K (.ref x_is_above) = true)
    {x_holders : Addr} {od_holders an_holders : Option Addr} {sl_holders : Array (Option Value)} {oc_holders kV_holders dc_holders pm_holders cd_holders ct_holders : Value} (a_holders : PySem.W.nsIn K mainGlobals "holders" = some (some (.ref x_holders))) (l_holders : K.lookup x_holders = some ⟨oc_holders, od_holders, .func (PySem.W.fnOf "holders" "holders" (defArgs s_holders) (defBody s_holders) (defScope s_holders) .none kV_holders dc_holders pm_holders an_holders cd_holders ct_holders), sl_holders⟩) (c_holders : PySem.W.codeIn K cd_holders "holders" = true) (k_holders : PySem.W.keepIn K (.ref x_holders) = true)
    {x_count_with : Addr} {od_count_with an_count_with : Option Addr} {sl_count_with : Array (Option Value)} {oc_count_with kV_count_with dc_count_with pm_count_with cd_count_with ct_count_with : Value} (a_count_with : PySem.W.nsIn K mainGlobals "count_with" = some (some (.ref x_count_with))) (l_count_with : K.lookup x_count_with = some ⟨oc_count_with, od_count_with, .func (PySem.W.fnOf "count_with" "count_with" (defArgs s_count_with) (defBody s_count_with) (defScope s_count_with) .none kV_count_with dc_count_with pm_count_with an_count_with cd_count_with ct_count_with), sl_count_with⟩) (c_count_with : PySem.W.codeIn K cd_count_with "count_with" = true) (k_count_with : PySem.W.keepIn K (.ref x_count_with) = true)
    {x_count_nestings : Addr} {od_count_nestings an_count_nestings : Option Addr} {sl_count_nestings : Array (Option Value)} {oc_count_nestings kV_count_nestings dc_count_nestings pm_count_nestings cd_count_nestings ct_count_nestings : Value} (a_count_nestings : PySem.W.nsIn K mainGlobals "count_nestings" = some (some (.ref x_count_nestings))) (l_count_nestings : K.lookup x_count_nestings = some ⟨oc_count_nestings, od_count_nestings, .func (PySem.W.fnOf "count_nestings" "count_nestings" (defArgs s_count_nestings) (defBody s_count_nestings) (defScope s_count_nestings) .none kV_count_nestings dc_count_nestings pm_count_nestings an_count_nestings cd_count_nestings ct_count_nestings), sl_count_nestings⟩) (c_count_nestings : PySem.W.codeIn K cd_count_nestings "count_nestings" = true) (k_count_nestings : PySem.W.keepIn K (.ref x_count_nestings) = true)
    {x_count_outer : Addr} {od_count_outer an_count_outer : Option Addr} {sl_count_outer : Array (Option Value)} {oc_count_outer kV_count_outer dc_count_outer pm_count_outer cd_count_outer ct_count_outer : Value} (a_count_outer : PySem.W.nsIn K mainGlobals "count_outer" = some (some (.ref x_count_outer))) (l_count_outer : K.lookup x_count_outer = some ⟨oc_count_outer, od_count_outer, .func (PySem.W.fnOf "count_outer" "count_outer" (defArgs s_count_outer) (defBody s_count_outer) (defScope s_count_outer) .none kV_count_outer dc_count_outer pm_count_outer an_count_outer cd_count_outer ct_count_outer), sl_count_outer⟩) (c_count_outer : PySem.W.codeIn K cd_count_outer "count_outer" = true) (k_count_outer : PySem.W.keepIn K (.ref x_count_outer) = true)
    {x_gcd : Addr} {od_gcd an_gcd : Option Addr} {sl_gcd : Array (Option Value)} {oc_gcd kV_gcd dc_gcd pm_gcd cd_gcd ct_gcd : Value} (a_gcd : PySem.W.nsIn K mainGlobals "gcd" = some (some (.ref x_gcd))) (l_gcd : K.lookup x_gcd = some ⟨oc_gcd, od_gcd, .func (PySem.W.fnOf "gcd" "gcd" (defArgs s_gcd) (defBody s_gcd) (defScope s_gcd) .none kV_gcd dc_gcd pm_gcd an_gcd cd_gcd ct_gcd), sl_gcd⟩) (c_gcd : PySem.W.codeIn K cd_gcd "gcd" = true) (k_gcd : PySem.W.keepIn K (.ref x_gcd) = true)
    {x_reduced : Addr} {od_reduced an_reduced : Option Addr} {sl_reduced : Array (Option Value)} {oc_reduced kV_reduced dc_reduced pm_reduced cd_reduced ct_reduced : Value} (a_reduced : PySem.W.nsIn K mainGlobals "reduced" = some (some (.ref x_reduced))) (l_reduced : K.lookup x_reduced = some ⟨oc_reduced, od_reduced, .func (PySem.W.fnOf "reduced" "reduced" (defArgs s_reduced) (defBody s_reduced) (defScope s_reduced) .none kV_reduced dc_reduced pm_reduced an_reduced cd_reduced ct_reduced), sl_reduced⟩) (c_reduced : PySem.W.codeIn K cd_reduced "reduced" = true) (k_reduced : PySem.W.keepIn K (.ref x_reduced) = true)
    {x_added : Addr} {od_added an_added : Option Addr} {sl_added : Array (Option Value)} {oc_added kV_added dc_added pm_added cd_added ct_added : Value} (a_added : PySem.W.nsIn K mainGlobals "added" = some (some (.ref x_added))) (l_added : K.lookup x_added = some ⟨oc_added, od_added, .func (PySem.W.fnOf "added" "added" (defArgs s_added) (defBody s_added) (defScope s_added) .none kV_added dc_added pm_added an_added cd_added ct_added), sl_added⟩) (c_added : PySem.W.codeIn K cd_added "added" = true) (k_added : PySem.W.keepIn K (.ref x_added) = true)
    {x_distance_to_bigger : Addr} {od_distance_to_bigger an_distance_to_bigger : Option Addr} {sl_distance_to_bigger : Array (Option Value)} {oc_distance_to_bigger kV_distance_to_bigger dc_distance_to_bigger pm_distance_to_bigger cd_distance_to_bigger ct_distance_to_bigger : Value} (a_distance_to_bigger : PySem.W.nsIn K mainGlobals "distance_to_bigger" = some (some (.ref x_distance_to_bigger))) (l_distance_to_bigger : K.lookup x_distance_to_bigger = some ⟨oc_distance_to_bigger, od_distance_to_bigger, .func (PySem.W.fnOf "distance_to_bigger" "distance_to_bigger" (defArgs s_distance_to_bigger) (defBody s_distance_to_bigger) (defScope s_distance_to_bigger) .none kV_distance_to_bigger dc_distance_to_bigger pm_distance_to_bigger an_distance_to_bigger cd_distance_to_bigger ct_distance_to_bigger), sl_distance_to_bigger⟩) (c_distance_to_bigger : PySem.W.codeIn K cd_distance_to_bigger "distance_to_bigger" = true) (k_distance_to_bigger : PySem.W.keepIn K (.ref x_distance_to_bigger) = true)
    {x_first_of_three : Addr} {od_first_of_three an_first_of_three : Option Addr} {sl_first_of_three : Array (Option Value)} {oc_first_of_three kV_first_of_three dc_first_of_three pm_first_of_three cd_first_of_three ct_first_of_three : Value} (a_first_of_three : PySem.W.nsIn K mainGlobals "first_of_three" = some (some (.ref x_first_of_three))) (l_first_of_three : K.lookup x_first_of_three = some ⟨oc_first_of_three, od_first_of_three, .func (PySem.W.fnOf "first_of_three" "first_of_three" (defArgs s_first_of_three) (defBody s_first_of_three) (defScope s_first_of_three) .none kV_first_of_three dc_first_of_three pm_first_of_three an_first_of_three cd_first_of_three ct_first_of_three), sl_first_of_three⟩) (c_first_of_three : PySem.W.codeIn K cd_first_of_three "first_of_three" = true) (k_first_of_three : PySem.W.keepIn K (.ref x_first_of_three) = true)
    {x_look_both : Addr} {od_look_both an_look_both : Option Addr} {sl_look_both : Array (Option Value)} {oc_look_both kV_look_both dc_look_both pm_look_both cd_look_both ct_look_both : Value} (a_look_both : PySem.W.nsIn K mainGlobals "look_both" = some (some (.ref x_look_both))) (l_look_both : K.lookup x_look_both = some ⟨oc_look_both, od_look_both, .func (PySem.W.fnOf "look_both" "look_both" (defArgs s_look_both) (defBody s_look_both) (defScope s_look_both) .none kV_look_both dc_look_both pm_look_both an_look_both cd_look_both ct_look_both), sl_look_both⟩) (c_look_both : PySem.W.codeIn K cd_look_both "look_both" = true) (k_look_both : PySem.W.keepIn K (.ref x_look_both) = true)
    {x_holder_chance : Addr} {od_holder_chance an_holder_chance : Option Addr} {sl_holder_chance : Array (Option Value)} {oc_holder_chance kV_holder_chance dc_holder_chance pm_holder_chance cd_holder_chance ct_holder_chance : Value} (a_holder_chance : PySem.W.nsIn K mainGlobals "holder_chance" = some (some (.ref x_holder_chance))) (l_holder_chance : K.lookup x_holder_chance = some ⟨oc_holder_chance, od_holder_chance, .func (PySem.W.fnOf "holder_chance" "holder_chance" (defArgs s_holder_chance) (defBody s_holder_chance) (defScope s_holder_chance) .none kV_holder_chance dc_holder_chance pm_holder_chance an_holder_chance cd_holder_chance ct_holder_chance), sl_holder_chance⟩) (c_holder_chance : PySem.W.codeIn K cd_holder_chance "holder_chance" = true) (k_holder_chance : PySem.W.keepIn K (.ref x_holder_chance) = true)
    {x_around_chance : Addr} {od_around_chance an_around_chance : Option Addr} {sl_around_chance : Array (Option Value)} {oc_around_chance kV_around_chance dc_around_chance pm_around_chance cd_around_chance ct_around_chance : Value} (a_around_chance : PySem.W.nsIn K mainGlobals "around_chance" = some (some (.ref x_around_chance))) (l_around_chance : K.lookup x_around_chance = some ⟨oc_around_chance, od_around_chance, .func (PySem.W.fnOf "around_chance" "around_chance" (defArgs s_around_chance) (defBody s_around_chance) (defScope s_around_chance) .none kV_around_chance dc_around_chance pm_around_chance an_around_chance cd_around_chance ct_around_chance), sl_around_chance⟩) (c_around_chance : PySem.W.codeIn K cd_around_chance "around_chance" = true) (k_around_chance : PySem.W.keepIn K (.ref x_around_chance) = true)
    {x_mean_depth : Addr} {od_mean_depth an_mean_depth : Option Addr} {sl_mean_depth : Array (Option Value)} {oc_mean_depth kV_mean_depth dc_mean_depth pm_mean_depth cd_mean_depth ct_mean_depth : Value} (a_mean_depth : PySem.W.nsIn K mainGlobals "mean_depth" = some (some (.ref x_mean_depth))) (l_mean_depth : K.lookup x_mean_depth = some ⟨oc_mean_depth, od_mean_depth, .func (PySem.W.fnOf "mean_depth" "mean_depth" (defArgs s_mean_depth) (defBody s_mean_depth) (defScope s_mean_depth) .none kV_mean_depth dc_mean_depth pm_mean_depth an_mean_depth cd_mean_depth ct_mean_depth), sl_mean_depth⟩) (c_mean_depth : PySem.W.codeIn K cd_mean_depth "mean_depth" = true) (k_mean_depth : PySem.W.keepIn K (.ref x_mean_depth) = true)
    {x_mean_inside : Addr} {od_mean_inside an_mean_inside : Option Addr} {sl_mean_inside : Array (Option Value)} {oc_mean_inside kV_mean_inside dc_mean_inside pm_mean_inside cd_mean_inside ct_mean_inside : Value} (a_mean_inside : PySem.W.nsIn K mainGlobals "mean_inside" = some (some (.ref x_mean_inside))) (l_mean_inside : K.lookup x_mean_inside = some ⟨oc_mean_inside, od_mean_inside, .func (PySem.W.fnOf "mean_inside" "mean_inside" (defArgs s_mean_inside) (defBody s_mean_inside) (defScope s_mean_inside) .none kV_mean_inside dc_mean_inside pm_mean_inside an_mean_inside cd_mean_inside ct_mean_inside), sl_mean_inside⟩) (c_mean_inside : PySem.W.codeIn K cd_mean_inside "mean_inside" = true) (k_mean_inside : PySem.W.keepIn K (.ref x_mean_inside) = true)
    {x_greatest_depth : Addr} {od_greatest_depth an_greatest_depth : Option Addr} {sl_greatest_depth : Array (Option Value)} {oc_greatest_depth kV_greatest_depth dc_greatest_depth pm_greatest_depth cd_greatest_depth ct_greatest_depth : Value} (a_greatest_depth : PySem.W.nsIn K mainGlobals "greatest_depth" = some (some (.ref x_greatest_depth))) (l_greatest_depth : K.lookup x_greatest_depth = some ⟨oc_greatest_depth, od_greatest_depth, .func (PySem.W.fnOf "greatest_depth" "greatest_depth" (defArgs s_greatest_depth) (defBody s_greatest_depth) (defScope s_greatest_depth) .none kV_greatest_depth dc_greatest_depth pm_greatest_depth an_greatest_depth cd_greatest_depth ct_greatest_depth), sl_greatest_depth⟩) (c_greatest_depth : PySem.W.codeIn K cd_greatest_depth "greatest_depth" = true) (k_greatest_depth : PySem.W.keepIn K (.ref x_greatest_depth) = true)
    {x_fewest_moves : Addr} {od_fewest_moves an_fewest_moves : Option Addr} {sl_fewest_moves : Array (Option Value)} {oc_fewest_moves kV_fewest_moves dc_fewest_moves pm_fewest_moves cd_fewest_moves ct_fewest_moves : Value} (a_fewest_moves : PySem.W.nsIn K mainGlobals "fewest_moves" = some (some (.ref x_fewest_moves))) (l_fewest_moves : K.lookup x_fewest_moves = some ⟨oc_fewest_moves, od_fewest_moves, .func (PySem.W.fnOf "fewest_moves" "fewest_moves" (defArgs s_fewest_moves) (defBody s_fewest_moves) (defScope s_fewest_moves) .none kV_fewest_moves dc_fewest_moves pm_fewest_moves an_fewest_moves cd_fewest_moves ct_fewest_moves), sl_fewest_moves⟩) (c_fewest_moves : PySem.W.codeIn K cd_fewest_moves "fewest_moves" = true) (k_fewest_moves : PySem.W.keepIn K (.ref x_fewest_moves) = true)
    {x__law_box : Addr} {od__law_box an__law_box : Option Addr} {sl__law_box : Array (Option Value)} {oc__law_box kV__law_box dc__law_box pm__law_box cd__law_box ct__law_box : Value} (a__law_box : PySem.W.nsIn K mainGlobals "_law_box" = some (some (.ref x__law_box))) (l__law_box : K.lookup x__law_box = some ⟨oc__law_box, od__law_box, .func (PySem.W.fnOf "_law_box" "_law_box" (defArgs s__law_box) (defBody s__law_box) (defScope s__law_box) .none kV__law_box dc__law_box pm__law_box an__law_box cd__law_box ct__law_box), sl__law_box⟩) (c__law_box : PySem.W.codeIn K cd__law_box "_law_box" = true) (k__law_box : PySem.W.keepIn K (.ref x__law_box) = true)
    {x__law_take : Addr} {od__law_take an__law_take : Option Addr} {sl__law_take : Array (Option Value)} {oc__law_take kV__law_take dc__law_take pm__law_take cd__law_take ct__law_take : Value} (a__law_take : PySem.W.nsIn K mainGlobals "_law_take" = some (some (.ref x__law_take))) (l__law_take : K.lookup x__law_take = some ⟨oc__law_take, od__law_take, .func (PySem.W.fnOf "_law_take" "_law_take" (defArgs s__law_take) (defBody s__law_take) (defScope s__law_take) .none kV__law_take dc__law_take pm__law_take an__law_take cd__law_take ct__law_take), sl__law_take⟩) (c__law_take : PySem.W.codeIn K cd__law_take "_law_take" = true) (k__law_take : PySem.W.keepIn K (.ref x__law_take) = true)
    {x__law_cells : Addr} {od__law_cells an__law_cells : Option Addr} {sl__law_cells : Array (Option Value)} {oc__law_cells kV__law_cells dc__law_cells pm__law_cells cd__law_cells ct__law_cells : Value} (a__law_cells : PySem.W.nsIn K mainGlobals "_law_cells" = some (some (.ref x__law_cells))) (l__law_cells : K.lookup x__law_cells = some ⟨oc__law_cells, od__law_cells, .func (PySem.W.fnOf "_law_cells" "_law_cells" (defArgs s__law_cells) (defBody s__law_cells) (defScope s__law_cells) .none kV__law_cells dc__law_cells pm__law_cells an__law_cells cd__law_cells ct__law_cells), sl__law_cells⟩) (c__law_cells : PySem.W.codeIn K cd__law_cells "_law_cells" = true) (k__law_cells : PySem.W.keepIn K (.ref x__law_cells) = true)
    {x__law_same : Addr} {od__law_same an__law_same : Option Addr} {sl__law_same : Array (Option Value)} {oc__law_same kV__law_same dc__law_same pm__law_same cd__law_same ct__law_same : Value} (a__law_same : PySem.W.nsIn K mainGlobals "_law_same" = some (some (.ref x__law_same))) (l__law_same : K.lookup x__law_same = some ⟨oc__law_same, od__law_same, .func (PySem.W.fnOf "_law_same" "_law_same" (defArgs s__law_same) (defBody s__law_same) (defScope s__law_same) .none kV__law_same dc__law_same pm__law_same an__law_same cd__law_same ct__law_same), sl__law_same⟩) (c__law_same : PySem.W.codeIn K cd__law_same "_law_same" = true) (k__law_same : PySem.W.keepIn K (.ref x__law_same) = true)
    {x__law_pick : Addr} {od__law_pick an__law_pick : Option Addr} {sl__law_pick : Array (Option Value)} {oc__law_pick kV__law_pick dc__law_pick pm__law_pick cd__law_pick ct__law_pick : Value} (a__law_pick : PySem.W.nsIn K mainGlobals "_law_pick" = some (some (.ref x__law_pick))) (l__law_pick : K.lookup x__law_pick = some ⟨oc__law_pick, od__law_pick, .func (PySem.W.fnOf "_law_pick" "_law_pick" (defArgs s__law_pick) (defBody s__law_pick) (defScope s__law_pick) .none kV__law_pick dc__law_pick pm__law_pick an__law_pick cd__law_pick ct__law_pick), sl__law_pick⟩) (c__law_pick : PySem.W.codeIn K cd__law_pick "_law_pick" = true) (k__law_pick : PySem.W.keepIn K (.ref x__law_pick) = true)
    {x__law_divisor : Addr} {od__law_divisor an__law_divisor : Option Addr} {sl__law_divisor : Array (Option Value)} {oc__law_divisor kV__law_divisor dc__law_divisor pm__law_divisor cd__law_divisor ct__law_divisor : Value} (a__law_divisor : PySem.W.nsIn K mainGlobals "_law_divisor" = some (some (.ref x__law_divisor))) (l__law_divisor : K.lookup x__law_divisor = some ⟨oc__law_divisor, od__law_divisor, .func (PySem.W.fnOf "_law_divisor" "_law_divisor" (defArgs s__law_divisor) (defBody s__law_divisor) (defScope s__law_divisor) .none kV__law_divisor dc__law_divisor pm__law_divisor an__law_divisor cd__law_divisor ct__law_divisor), sl__law_divisor⟩) (c__law_divisor : PySem.W.codeIn K cd__law_divisor "_law_divisor" = true) (k__law_divisor : PySem.W.keepIn K (.ref x__law_divisor) = true)
    {x__law_part : Addr} {od__law_part an__law_part : Option Addr} {sl__law_part : Array (Option Value)} {oc__law_part kV__law_part dc__law_part pm__law_part cd__law_part ct__law_part : Value} (a__law_part : PySem.W.nsIn K mainGlobals "_law_part" = some (some (.ref x__law_part))) (l__law_part : K.lookup x__law_part = some ⟨oc__law_part, od__law_part, .func (PySem.W.fnOf "_law_part" "_law_part" (defArgs s__law_part) (defBody s__law_part) (defScope s__law_part) .none kV__law_part dc__law_part pm__law_part an__law_part cd__law_part ct__law_part), sl__law_part⟩) (c__law_part : PySem.W.codeIn K cd__law_part "_law_part" = true) (k__law_part : PySem.W.keepIn K (.ref x__law_part) = true)
    {x__law_added : Addr} {od__law_added an__law_added : Option Addr} {sl__law_added : Array (Option Value)} {oc__law_added kV__law_added dc__law_added pm__law_added cd__law_added ct__law_added : Value} (a__law_added : PySem.W.nsIn K mainGlobals "_law_added" = some (some (.ref x__law_added))) (l__law_added : K.lookup x__law_added = some ⟨oc__law_added, od__law_added, .func (PySem.W.fnOf "_law_added" "_law_added" (defArgs s__law_added) (defBody s__law_added) (defScope s__law_added) .none kV__law_added dc__law_added pm__law_added an__law_added cd__law_added ct__law_added), sl__law_added⟩) (c__law_added : PySem.W.codeIn K cd__law_added "_law_added" = true) (k__law_added : PySem.W.keepIn K (.ref x__law_added) = true)
    {x__law_down : Addr} {od__law_down an__law_down : Option Addr} {sl__law_down : Array (Option Value)} {oc__law_down kV__law_down dc__law_down pm__law_down cd__law_down ct__law_down : Value} (a__law_down : PySem.W.nsIn K mainGlobals "_law_down" = some (some (.ref x__law_down))) (l__law_down : K.lookup x__law_down = some ⟨oc__law_down, od__law_down, .func (PySem.W.fnOf "_law_down" "_law_down" (defArgs s__law_down) (defBody s__law_down) (defScope s__law_down) .none kV__law_down dc__law_down pm__law_down an__law_down cd__law_down ct__law_down), sl__law_down⟩) (c__law_down : PySem.W.codeIn K cd__law_down "_law_down" = true) (k__law_down : PySem.W.keepIn K (.ref x__law_down) = true)
    {x__law_row : Addr} {od__law_row an__law_row : Option Addr} {sl__law_row : Array (Option Value)} {oc__law_row kV__law_row dc__law_row pm__law_row cd__law_row ct__law_row : Value} (a__law_row : PySem.W.nsIn K mainGlobals "_law_row" = some (some (.ref x__law_row))) (l__law_row : K.lookup x__law_row = some ⟨oc__law_row, od__law_row, .func (PySem.W.fnOf "_law_row" "_law_row" (defArgs s__law_row) (defBody s__law_row) (defScope s__law_row) .none kV__law_row dc__law_row pm__law_row an__law_row cd__law_row ct__law_row), sl__law_row⟩) (c__law_row : PySem.W.codeIn K cd__law_row "_law_row" = true) (k__law_row : PySem.W.keepIn K (.ref x__law_row) = true)
    {x__law_rows : Addr} {od__law_rows an__law_rows : Option Addr} {sl__law_rows : Array (Option Value)} {oc__law_rows kV__law_rows dc__law_rows pm__law_rows cd__law_rows ct__law_rows : Value} (a__law_rows : PySem.W.nsIn K mainGlobals "_law_rows" = some (some (.ref x__law_rows))) (l__law_rows : K.lookup x__law_rows = some ⟨oc__law_rows, od__law_rows, .func (PySem.W.fnOf "_law_rows" "_law_rows" (defArgs s__law_rows) (defBody s__law_rows) (defScope s__law_rows) .none kV__law_rows dc__law_rows pm__law_rows an__law_rows cd__law_rows ct__law_rows), sl__law_rows⟩) (c__law_rows : PySem.W.codeIn K cd__law_rows "_law_rows" = true) (k__law_rows : PySem.W.keepIn K (.ref x__law_rows) = true)
    {x__law_every : Addr} {od__law_every an__law_every : Option Addr} {sl__law_every : Array (Option Value)} {oc__law_every kV__law_every dc__law_every pm__law_every cd__law_every ct__law_every : Value} (a__law_every : PySem.W.nsIn K mainGlobals "_law_every" = some (some (.ref x__law_every))) (l__law_every : K.lookup x__law_every = some ⟨oc__law_every, od__law_every, .func (PySem.W.fnOf "_law_every" "_law_every" (defArgs s__law_every) (defBody s__law_every) (defScope s__law_every) .none kV__law_every dc__law_every pm__law_every an__law_every cd__law_every ct__law_every), sl__law_every⟩) (c__law_every : PySem.W.codeIn K cd__law_every "_law_every" = true) (k__law_every : PySem.W.keepIn K (.ref x__law_every) = true)
    {x__law_lots : Addr} {od__law_lots an__law_lots : Option Addr} {sl__law_lots : Array (Option Value)} {oc__law_lots kV__law_lots dc__law_lots pm__law_lots cd__law_lots ct__law_lots : Value} (a__law_lots : PySem.W.nsIn K mainGlobals "_law_lots" = some (some (.ref x__law_lots))) (l__law_lots : K.lookup x__law_lots = some ⟨oc__law_lots, od__law_lots, .func (PySem.W.fnOf "_law_lots" "_law_lots" (defArgs s__law_lots) (defBody s__law_lots) (defScope s__law_lots) .none kV__law_lots dc__law_lots pm__law_lots an__law_lots cd__law_lots ct__law_lots), sl__law_lots⟩) (c__law_lots : PySem.W.codeIn K cd__law_lots "_law_lots" = true) (k__law_lots : PySem.W.keepIn K (.ref x__law_lots) = true)
    {x__law_mean : Addr} {od__law_mean an__law_mean : Option Addr} {sl__law_mean : Array (Option Value)} {oc__law_mean kV__law_mean dc__law_mean pm__law_mean cd__law_mean ct__law_mean : Value} (a__law_mean : PySem.W.nsIn K mainGlobals "_law_mean" = some (some (.ref x__law_mean))) (l__law_mean : K.lookup x__law_mean = some ⟨oc__law_mean, od__law_mean, .func (PySem.W.fnOf "_law_mean" "_law_mean" (defArgs s__law_mean) (defBody s__law_mean) (defScope s__law_mean) .none kV__law_mean dc__law_mean pm__law_mean an__law_mean cd__law_mean ct__law_mean), sl__law_mean⟩) (c__law_mean : PySem.W.codeIn K cd__law_mean "_law_mean" = true) (k__law_mean : PySem.W.keepIn K (.ref x__law_mean) = true)
    {x__law_chance : Addr} {od__law_chance an__law_chance : Option Addr} {sl__law_chance : Array (Option Value)} {oc__law_chance kV__law_chance dc__law_chance pm__law_chance cd__law_chance ct__law_chance : Value} (a__law_chance : PySem.W.nsIn K mainGlobals "_law_chance" = some (some (.ref x__law_chance))) (l__law_chance : K.lookup x__law_chance = some ⟨oc__law_chance, od__law_chance, .func (PySem.W.fnOf "_law_chance" "_law_chance" (defArgs s__law_chance) (defBody s__law_chance) (defScope s__law_chance) .none kV__law_chance dc__law_chance pm__law_chance an__law_chance cd__law_chance ct__law_chance), sl__law_chance⟩) (c__law_chance : PySem.W.codeIn K cd__law_chance "_law_chance" = true) (k__law_chance : PySem.W.keepIn K (.ref x__law_chance) = true)
    {x__law_deep : Addr} {od__law_deep an__law_deep : Option Addr} {sl__law_deep : Array (Option Value)} {oc__law_deep kV__law_deep dc__law_deep pm__law_deep cd__law_deep ct__law_deep : Value} (a__law_deep : PySem.W.nsIn K mainGlobals "_law_deep" = some (some (.ref x__law_deep))) (l__law_deep : K.lookup x__law_deep = some ⟨oc__law_deep, od__law_deep, .func (PySem.W.fnOf "_law_deep" "_law_deep" (defArgs s__law_deep) (defBody s__law_deep) (defScope s__law_deep) .none kV__law_deep dc__law_deep pm__law_deep an__law_deep cd__law_deep ct__law_deep), sl__law_deep⟩) (c__law_deep : PySem.W.codeIn K cd__law_deep "_law_deep" = true) (k__law_deep : PySem.W.keepIn K (.ref x__law_deep) = true)
    {x__law_great : Addr} {od__law_great an__law_great : Option Addr} {sl__law_great : Array (Option Value)} {oc__law_great kV__law_great dc__law_great pm__law_great cd__law_great ct__law_great : Value} (a__law_great : PySem.W.nsIn K mainGlobals "_law_great" = some (some (.ref x__law_great))) (l__law_great : K.lookup x__law_great = some ⟨oc__law_great, od__law_great, .func (PySem.W.fnOf "_law_great" "_law_great" (defArgs s__law_great) (defBody s__law_great) (defScope s__law_great) .none kV__law_great dc__law_great pm__law_great an__law_great cd__law_great ct__law_great), sl__law_great⟩) (c__law_great : PySem.W.codeIn K cd__law_great "_law_great" = true) (k__law_great : PySem.W.keepIn K (.ref x__law_great) = true)
    {x__law_right : Addr} {od__law_right an__law_right : Option Addr} {sl__law_right : Array (Option Value)} {oc__law_right kV__law_right dc__law_right pm__law_right cd__law_right ct__law_right : Value} (a__law_right : PySem.W.nsIn K mainGlobals "_law_right" = some (some (.ref x__law_right))) (l__law_right : K.lookup x__law_right = some ⟨oc__law_right, od__law_right, .func (PySem.W.fnOf "_law_right" "_law_right" (defArgs s__law_right) (defBody s__law_right) (defScope s__law_right) .none kV__law_right dc__law_right pm__law_right an__law_right cd__law_right ct__law_right), sl__law_right⟩) (c__law_right : PySem.W.codeIn K cd__law_right "_law_right" = true) (k__law_right : PySem.W.keepIn K (.ref x__law_right) = true)
    {x_law : Addr} {od_law an_law : Option Addr} {sl_law : Array (Option Value)} {oc_law kV_law dc_law pm_law cd_law ct_law : Value} (a_law : PySem.W.nsIn K mainGlobals "law" = some (some (.ref x_law))) (l_law : K.lookup x_law = some ⟨oc_law, od_law, .func (PySem.W.fnOf "law" "law" (defArgs s_law) (defBody s_law) (defScope s_law) .none kV_law dc_law pm_law an_law cd_law ct_law), sl_law⟩) (c_law : PySem.W.codeIn K cd_law "law" = true) (k_law : PySem.W.keepIn K (.ref x_law) = true)
    {xC : Addr} (aC : PySem.W.nsIn K mainGlobals "Counter" = some (some (.ref xC)))
    {xCI : Addr} {odCI anCI : Option Addr} {slCI : Array (Option Value)} {ocCI kVCI dcCI pmCI cdCI ctCI : Value} (aCI : PySem.W.findIn K (.ref xC) "__init__" = some (some (.ref xCI))) (iCI : PySem.W.isFn K (.ref xCI) = true) (lCI : K.lookup xCI = some ⟨ocCI, odCI, .func (PySem.W.fnOf "__init__" "Counter.__init__" (defArgs sInit) (defBody sInit) (defScope sInit) .none kVCI dcCI pmCI anCI cdCI ctCI), slCI⟩) (cCI : PySem.W.codeIn K cdCI "Counter.__init__" = true) (kCI : PySem.W.keepIn K (.ref xCI) = true)
    {xCF : Addr} {odCF anCF : Option Addr} {slCF : Array (Option Value)} {ocCF kVCF dcCF pmCF cdCF ctCF : Value} (aCF : PySem.W.findIn K (.ref xC) "fits" = some (some (.ref xCF))) (iCF : PySem.W.isFn K (.ref xCF) = true) (lCF : K.lookup xCF = some ⟨ocCF, odCF, .func (PySem.W.fnOf "fits" "Counter.fits" (defArgs sFits) (defBody sFits) (defScope sFits) .none kVCF dcCF pmCF anCF cdCF ctCF), slCF⟩) (cCF : PySem.W.codeIn K cdCF "Counter.fits" = true) (kCF : PySem.W.keepIn K (.ref xCF) = true)
    {xCH : Addr} {odCH anCH : Option Addr} {slCH : Array (Option Value)} {ocCH kVCH dcCH pmCH cdCH ctCH : Value} (aCH : PySem.W.findIn K (.ref xC) "held" = some (some (.ref xCH))) (iCH : PySem.W.isFn K (.ref xCH) = true) (lCH : K.lookup xCH = some ⟨ocCH, odCH, .func (PySem.W.fnOf "held" "Counter.held" (defArgs sHeld) (defBody sHeld) (defScope sHeld) .none kVCH dcCH pmCH anCH cdCH ctCH), slCH⟩) (cCH : PySem.W.codeIn K cdCH "Counter.held" = true) (kCH : PySem.W.keepIn K (.ref xCH) = true)
    {xCP : Addr} {odCP anCP : Option Addr} {slCP : Array (Option Value)} {ocCP kVCP dcCP pmCP cdCP ctCP : Value} (aCP : PySem.W.findIn K (.ref xC) "parts" = some (some (.ref xCP))) (iCP : PySem.W.isFn K (.ref xCP) = true) (lCP : K.lookup xCP = some ⟨ocCP, odCP, .func (PySem.W.fnOf "parts" "Counter.parts" (defArgs sParts) (defBody sParts) (defScope sParts) .none kVCP dcCP pmCP anCP cdCP ctCP), slCP⟩) (cCP : PySem.W.codeIn K cdCP "Counter.parts" = true) (kCP : PySem.W.keepIn K (.ref xCP) = true)
    {xCO : Addr} {odCO anCO : Option Addr} {slCO : Array (Option Value)} {ocCO kVCO dcCO pmCO cdCO ctCO : Value} (aCO : PySem.W.findIn K (.ref xC) "outers" = some (some (.ref xCO))) (iCO : PySem.W.isFn K (.ref xCO) = true) (lCO : K.lookup xCO = some ⟨ocCO, odCO, .func (PySem.W.fnOf "outers" "Counter.outers" (defArgs sOuters) (defBody sOuters) (defScope sOuters) .none kVCO dcCO pmCO anCO cdCO ctCO), slCO⟩) (cCO : PySem.W.codeIn K cdCO "Counter.outers" = true) (kCO : PySem.W.keepIn K (.ref xCO) = true)
    (pgC : PySem.W.plainGet K xC Str.empty = true) (hdC : PySem.W.hasDictIn K xC = true) (poC : PySem.W.plainOver K xC = true) (saC : PySem.W.findIn K (.ref xC) "__setattr__" = some (some (.builtin "object.__setattr__"))) (mkC : PySem.W.makesIn K xC = true) (kcC : PySem.W.keepIn K (.ref xC) = true)
    (nC1 : PySem.W.findIn K (.ref xC) "own_row" = some none)
    (nC2 : PySem.W.findIn K (.ref xC) "own_claim" = some none)
    (nC3 : PySem.W.findIn K (.ref xC) "own_known" = some none)
    (nC4 : PySem.W.findIn K (.ref xC) "own_outers" = some none)
    (z_abs : PySem.W.nsIn K mainGlobals "abs" = some none)
    (z_all : PySem.W.nsIn K mainGlobals "all" = some none)
    (z_bool : PySem.W.nsIn K mainGlobals "bool" = some none)
    (z_enumerate : PySem.W.nsIn K mainGlobals "enumerate" = some none)
    (z_int : PySem.W.nsIn K mainGlobals "int" = some none)
    (z_isinstance : PySem.W.nsIn K mainGlobals "isinstance" = some none)
    (z_len : PySem.W.nsIn K mainGlobals "len" = some none)
    (z_list : PySem.W.nsIn K mainGlobals "list" = some none)
    (z_max : PySem.W.nsIn K mainGlobals "max" = some none)
    (z_min : PySem.W.nsIn K mainGlobals "min" = some none)
    (z_range : PySem.W.nsIn K mainGlobals "range" = some none)
    (z_str : PySem.W.nsIn K mainGlobals "str" = some none)
    (z_sum : PySem.W.nsIn K mainGlobals "sum" = some none)
    (z_tuple : PySem.W.nsIn K mainGlobals "tuple" = some none)
    (z_zip : PySem.W.nsIn K mainGlobals "zip" = some none)
    : ∃ fd : FuncData, (∀ (s : Shared) (v : Value), BindsTo s fd ⟨[v], []⟩ [("script", v)]) ∧ ∀ base : Heap, K.In base → base.Ns mainGlobals mg → FnOk l.prog w K mg base CX0 43 fa fd ["script"] (fun vs H Q E => ∃ a0 ns, spS K a0 ns (F_law a0 ns) vs H Q E) := by
  have e := hfa.symm.trans (PySem.W.mg_of X G a_law)
  cases e
  have T : Tx mg := ⟨PySem.W.mg_none_of X G z_abs, PySem.W.mg_none_of X G z_all, PySem.W.mg_none_of X G z_bool, PySem.W.mg_none_of X G z_enumerate, PySem.W.mg_none_of X G z_int, PySem.W.mg_none_of X G z_isinstance, PySem.W.mg_none_of X G z_len, PySem.W.mg_none_of X G z_list, PySem.W.mg_none_of X G z_max, PySem.W.mg_none_of X G z_min, PySem.W.mg_none_of X G z_range, PySem.W.mg_none_of X G z_str, PySem.W.mg_none_of X G z_sum, PySem.W.mg_none_of X G z_tuple, PySem.W.mg_none_of X G z_zip⟩
  have f_biggest := fun_mk (st := s_biggest) l_biggest c_biggest k_biggest
  have b_biggest := f_biggest.binds (ps := ["row", "first", "last"]) fun _ _ _ _ _ _ us hl => match us, hl with | [_, _, _], _ => rfl
  have f_look_place := fun_mk (st := s_look_place) l_look_place c_look_place k_look_place
  have b_look_place := f_look_place.binds (ps := ["row", "place"]) fun _ _ _ _ _ _ us hl => match us, hl with | [_, _], _ => rfl
  have f_between := fun_mk (st := s_between) l_between c_between k_between
  have b_between := f_between.binds (ps := ["one", "other"]) fun _ _ _ _ _ _ us hl => match us, hl with | [_, _], _ => rfl
  have f_is_above := fun_mk (st := s_is_above) l_is_above c_is_above k_is_above
  have b_is_above := f_is_above.binds (ps := ["row", "one", "other"]) fun _ _ _ _ _ _ us hl => match us, hl with | [_, _, _], _ => rfl
  have f_holders := fun_mk (st := s_holders) l_holders c_holders k_holders
  have b_holders := f_holders.binds (ps := ["row", "place"]) fun _ _ _ _ _ _ us hl => match us, hl with | [_, _], _ => rfl
  have f_count_with := fun_mk (st := s_count_with) l_count_with c_count_with k_count_with
  have b_count_with := f_count_with.binds (ps := ["row", "claim"]) fun _ _ _ _ _ _ us hl => match us, hl with | [_, _], _ => rfl
  have f_count_nestings := fun_mk (st := s_count_nestings) l_count_nestings c_count_nestings k_count_nestings
  have b_count_nestings := f_count_nestings.binds (ps := ["row"]) fun _ _ _ _ _ _ us hl => match us, hl with | [_], _ => rfl
  have f_count_outer := fun_mk (st := s_count_outer) l_count_outer c_count_outer k_count_outer
  have b_count_outer := f_count_outer.binds (ps := ["row", "many"]) fun _ _ _ _ _ _ us hl => match us, hl with | [_, _], _ => rfl
  have f_gcd := fun_mk (st := s_gcd) l_gcd c_gcd k_gcd
  have b_gcd := f_gcd.binds (ps := ["one", "other"]) fun _ _ _ _ _ _ us hl => match us, hl with | [_, _], _ => rfl
  have f_reduced := fun_mk (st := s_reduced) l_reduced c_reduced k_reduced
  have b_reduced := f_reduced.binds (ps := ["numerator", "denominator"]) fun _ _ _ _ _ _ us hl => match us, hl with | [_, _], _ => rfl
  have f_added := fun_mk (st := s_added) l_added c_added k_added
  have b_added := f_added.binds (ps := ["fractions"]) fun _ _ _ _ _ _ us hl => match us, hl with | [_], _ => rfl
  have f_distance_to_bigger := fun_mk (st := s_distance_to_bigger) l_distance_to_bigger c_distance_to_bigger k_distance_to_bigger
  have b_distance_to_bigger := f_distance_to_bigger.binds (ps := ["row", "begin", "step", "size"]) fun _ _ _ _ _ _ us hl => match us, hl with | [_, _, _, _], _ => rfl
  have f_first_of_three := fun_mk (st := s_first_of_three) l_first_of_three c_first_of_three k_first_of_three
  have b_first_of_three := f_first_of_three.binds (ps := ["many", "left", "right"]) fun _ _ _ _ _ _ us hl => match us, hl with | [_, _, _], _ => rfl
  have f_look_both := fun_mk (st := s_look_both) l_look_both c_look_both k_look_both
  have b_look_both := f_look_both.binds (ps := ["row", "one", "other"]) fun _ _ _ _ _ _ us hl => match us, hl with | [_, _, _], _ => rfl
  have f_holder_chance := fun_mk (st := s_holder_chance) l_holder_chance c_holder_chance k_holder_chance
  have b_holder_chance := f_holder_chance.binds (ps := ["row", "one", "other"]) fun _ _ _ _ _ _ us hl => match us, hl with | [_, _, _], _ => rfl
  have f_around_chance := fun_mk (st := s_around_chance) l_around_chance c_around_chance k_around_chance
  have b_around_chance := f_around_chance.binds (ps := ["row", "one", "other"]) fun _ _ _ _ _ _ us hl => match us, hl with | [_, _, _], _ => rfl
  have f_mean_depth := fun_mk (st := s_mean_depth) l_mean_depth c_mean_depth k_mean_depth
  have b_mean_depth := f_mean_depth.binds (ps := ["row", "place"]) fun _ _ _ _ _ _ us hl => match us, hl with | [_, _], _ => rfl
  have f_mean_inside := fun_mk (st := s_mean_inside) l_mean_inside c_mean_inside k_mean_inside
  have b_mean_inside := f_mean_inside.binds (ps := ["row", "place"]) fun _ _ _ _ _ _ us hl => match us, hl with | [_, _], _ => rfl
  have f_greatest_depth := fun_mk (st := s_greatest_depth) l_greatest_depth c_greatest_depth k_greatest_depth
  have b_greatest_depth := f_greatest_depth.binds (ps := ["row", "place"]) fun _ _ _ _ _ _ us hl => match us, hl with | [_, _], _ => rfl
  have f_fewest_moves := fun_mk (st := s_fewest_moves) l_fewest_moves c_fewest_moves k_fewest_moves
  have b_fewest_moves := f_fewest_moves.binds (ps := ["row", "one", "other"]) fun _ _ _ _ _ _ us hl => match us, hl with | [_, _, _], _ => rfl
  have f__law_box := fun_mk (st := s__law_box) l__law_box c__law_box k__law_box
  have b__law_box := f__law_box.binds (ps := ["script", "k"]) fun _ _ _ _ _ _ us hl => match us, hl with | [_, _], _ => rfl
  have f__law_take := fun_mk (st := s__law_take) l__law_take c__law_take k__law_take
  have b__law_take := f__law_take.binds (ps := ["box", "size_so"]) fun _ _ _ _ _ _ us hl => match us, hl with | [_, _], _ => rfl
  have f__law_cells := fun_mk (st := s__law_cells) l__law_cells c__law_cells k__law_cells
  have b__law_cells := f__law_cells.binds (ps := ["script", "top_so"]) fun _ _ _ _ _ _ us hl => match us, hl with | [_, _], _ => rfl
  have f__law_same := fun_mk (st := s__law_same) l__law_same c__law_same k__law_same
  have b__law_same := f__law_same.binds (ps := ["got", "due"]) fun _ _ _ _ _ _ us hl => match us, hl with | [_, _], _ => rfl
  have f__law_pick := fun_mk (st := s__law_pick) l__law_pick c__law_pick k__law_pick
  have b__law_pick := f__law_pick.binds (ps := ["box", "goods_so", "count_so"]) fun _ _ _ _ _ _ us hl => match us, hl with | [_, _, _], _ => rfl
  have f__law_divisor := fun_mk (st := s__law_divisor) l__law_divisor c__law_divisor k__law_divisor
  have b__law_divisor := f__law_divisor.binds (ps := ["one", "other"]) fun _ _ _ _ _ _ us hl => match us, hl with | [_, _], _ => rfl
  have f__law_part := fun_mk (st := s__law_part) l__law_part c__law_part k__law_part
  have b__law_part := f__law_part.binds (ps := ["top", "bottom"]) fun _ _ _ _ _ _ us hl => match us, hl with | [_, _], _ => rfl
  have f__law_added := fun_mk (st := s__law_added) l__law_added c__law_added k__law_added
  have b__law_added := f__law_added.binds (ps := ["one", "other"]) fun _ _ _ _ _ _ us hl => match us, hl with | [_, _], _ => rfl
  have f__law_down := fun_mk (st := s__law_down) l__law_down c__law_down k__law_down
  have b__law_down := f__law_down.binds (ps := ["many"]) fun _ _ _ _ _ _ us hl => match us, hl with | [_], _ => rfl
  have f__law_row := fun_mk (st := s__law_row) l__law_row c__law_row k__law_row
  have b__law_row := f__law_row.binds (ps := ["box", "many"]) fun _ _ _ _ _ _ us hl => match us, hl with | [_, _], _ => rfl
  have f__law_rows := fun_mk (st := s__law_rows) l__law_rows c__law_rows k__law_rows
  have b__law_rows := f__law_rows.binds (ps := ["sizes"]) fun _ _ _ _ _ _ us hl => match us, hl with | [_], _ => rfl
  have f__law_every := fun_mk (st := s__law_every) l__law_every c__law_every k__law_every
  have b__law_every := f__law_every.binds (ps := ["many"]) fun _ _ _ _ _ _ us hl => match us, hl with | [_], _ => rfl
  have f__law_lots := fun_mk (st := s__law_lots) l__law_lots c__law_lots k__law_lots
  have b__law_lots := f__law_lots.binds (ps := ["many", "some"]) fun _ _ _ _ _ _ us hl => match us, hl with | [_, _], _ => rfl
  have f__law_mean := fun_mk (st := s__law_mean) l__law_mean c__law_mean k__law_mean
  have b__law_mean := f__law_mean.binds (ps := ["found", "many"]) fun _ _ _ _ _ _ us hl => match us, hl with | [_, _], _ => rfl
  have f__law_chance := fun_mk (st := s__law_chance) l__law_chance c__law_chance k__law_chance
  have b__law_chance := f__law_chance.binds (ps := ["many", "one", "other", "direct"]) fun _ _ _ _ _ _ us hl => match us, hl with | [_, _, _, _], _ => rfl
  have f__law_deep := fun_mk (st := s__law_deep) l__law_deep c__law_deep k__law_deep
  have b__law_deep := f__law_deep.binds (ps := ["many"]) fun _ _ _ _ _ _ us hl => match us, hl with | [_], _ => rfl
  have f__law_great := fun_mk (st := s__law_great) l__law_great c__law_great k__law_great
  have b__law_great := f__law_great.binds (ps := ["many", "place"]) fun _ _ _ _ _ _ us hl => match us, hl with | [_, _], _ => rfl
  have f__law_right := fun_mk (st := s__law_right) l__law_right c__law_right k__law_right
  have b__law_right := f__law_right.binds (ps := ["box"]) fun _ _ _ _ _ _ us hl => match us, hl with | [_], _ => rfl
  have f_law := fun_mk (st := s_law) l_law c_law k_law
  have b_law := f_law.binds (ps := ["script"]) fun _ _ _ _ _ _ us hl => match us, hl with | [_], _ => rfl
  refine ⟨PySem.W.fnOf "law" "law" (defArgs s_law) (defBody s_law) (defScope s_law) .none kV_law dc_law pm_law an_law cd_law ct_law, fun s v => .of_eq rfl, fun base hK hN => ?_⟩
  have fCI := fun_mk (st := sInit) lCI cCI kCI
  have bCI := fCI.binds (ps := ["self", "row", "claim"]) fun _ _ _ _ _ _ us hl => match us, hl with | [_, _, _], _ => rfl
  have fCF := fun_mk (st := sFits) lCF cCF kCF
  have bCF := fCF.binds (ps := ["self", "place", "holder"]) fun _ _ _ _ _ _ us hl => match us, hl with | [_, _, _], _ => rfl
  have fCH := fun_mk (st := sHeld) lCH cCH kCH
  have bCH := fCH.binds (ps := ["self", "first", "last"]) fun _ _ _ _ _ _ us hl => match us, hl with | [_, _, _], _ => rfl
  have fCP := fun_mk (st := sParts) lCP cCP kCP
  have bCP := fCP.binds (ps := ["self", "first", "last", "holder"]) fun _ _ _ _ _ _ us hl => match us, hl with | [_, _, _, _], _ => rfl
  have fCO := fun_mk (st := sOuters) lCO cCO kCO
  have bCO := fCO.binds (ps := ["self", "first", "many"]) fun _ _ _ _ _ _ us hl => match us, hl with | [_, _, _], _ => rfl
  have C_biggest : Cal l.prog w K mg base 1 "biggest" ["row", "first", "last"] F_biggest := cal_biggest T f_biggest (PySem.W.mg_of X G a_biggest) b_biggest
  have C_look_place : Cal l.prog w K mg base 1 "look_place" ["row", "place"] F_look_place := cal_look_place T f_look_place (PySem.W.mg_of X G a_look_place) b_look_place
  have C_between : Cal l.prog w K mg base 1 "between" ["one", "other"] F_between := cal_between T f_between (PySem.W.mg_of X G a_between) b_between
  have C_is_above : Cal l.prog w K mg base 2 "is_above" ["row", "one", "other"] F_is_above := cal_is_above T f_is_above (PySem.W.mg_of X G a_is_above) b_is_above C_between
  have C_holders : Cal l.prog w K mg base 3 "holders" ["row", "place"] F_holders := cal_holders T f_holders (PySem.W.mg_of X G a_holders) b_holders C_look_place C_is_above
  have CN := (⟨⟨⟨pgC, hdC, poC, saC⟩, nC1, nC2, nC3, nC4, PySem.W.mg_of X G aC⟩, C_biggest, PySem.W.mg_none_of X G z_range, PySem.W.mg_none_of X G z_len, fCI, bCI, ⟨mkC, aCI, iCI, kcC⟩, fCF, bCF, ⟨aCF, iCF, kCF⟩, fCH, bCH, ⟨aCH, iCH, kCH⟩, fCP, bCP, ⟨aCP, iCP, kCP⟩, fCO, bCO, ⟨aCO, iCO, kCO⟩⟩ : Cnt l.prog w K mg base xC xCI xCF xCH xCP xCO _ _ _ _ _)
  have C_count_with : Cal l.prog w K mg base 40 "count_with" ["row", "claim"] F_count_with := cal_count_with f_count_with (PySem.W.mg_of X G a_count_with) b_count_with CN
  have C_count_nestings : Cal l.prog w K mg base 41 "count_nestings" ["row"] F_count_nestings := cal_count_nestings T f_count_nestings (PySem.W.mg_of X G a_count_nestings) b_count_nestings C_count_with
  have C_count_outer : Cal l.prog w K mg base 40 "count_outer" ["row", "many"] F_count_outer := cal_count_outer f_count_outer (PySem.W.mg_of X G a_count_outer) b_count_outer CN
  have C_gcd : Cal l.prog w K mg base 1 "gcd" ["one", "other"] F_gcd := cal_gcd T f_gcd (PySem.W.mg_of X G a_gcd) b_gcd
  have C_reduced : Cal l.prog w K mg base 2 "reduced" ["numerator", "denominator"] F_reduced := cal_reduced T f_reduced (PySem.W.mg_of X G a_reduced) b_reduced C_gcd
  have C_added : Cal l.prog w K mg base 3 "added" ["fractions"] F_added := cal_added T f_added (PySem.W.mg_of X G a_added) b_added C_reduced
  have C_distance_to_bigger : Cal l.prog w K mg base 1 "distance_to_bigger" ["row", "begin", "step", "size"] F_distance_to_bigger := cal_distance_to_bigger T f_distance_to_bigger (PySem.W.mg_of X G a_distance_to_bigger) b_distance_to_bigger
  have C_first_of_three : Cal l.prog w K mg base 1 "first_of_three" ["many", "left", "right"] F_first_of_three := cal_first_of_three T f_first_of_three (PySem.W.mg_of X G a_first_of_three) b_first_of_three
  have C_look_both : Cal l.prog w K mg base 2 "look_both" ["row", "one", "other"] F_look_both := cal_look_both T f_look_both (PySem.W.mg_of X G a_look_both) b_look_both C_look_place
  have C_holder_chance : Cal l.prog w K mg base 3 "holder_chance" ["row", "one", "other"] F_holder_chance := cal_holder_chance T f_holder_chance (PySem.W.mg_of X G a_holder_chance) b_holder_chance C_look_both C_is_above C_distance_to_bigger C_first_of_three C_reduced
  have C_around_chance : Cal l.prog w K mg base 3 "around_chance" ["row", "one", "other"] F_around_chance := cal_around_chance T f_around_chance (PySem.W.mg_of X G a_around_chance) b_around_chance C_look_both C_is_above C_distance_to_bigger C_first_of_three C_reduced
  have C_mean_depth : Cal l.prog w K mg base 4 "mean_depth" ["row", "place"] F_mean_depth := cal_mean_depth T f_mean_depth (PySem.W.mg_of X G a_mean_depth) b_mean_depth C_look_place C_around_chance C_added
  have C_mean_inside : Cal l.prog w K mg base 4 "mean_inside" ["row", "place"] F_mean_inside := cal_mean_inside T f_mean_inside (PySem.W.mg_of X G a_mean_inside) b_mean_inside C_look_place C_around_chance C_added
  have C_greatest_depth : Cal l.prog w K mg base 4 "greatest_depth" ["row", "place"] F_greatest_depth := cal_greatest_depth T f_greatest_depth (PySem.W.mg_of X G a_greatest_depth) b_greatest_depth C_holders
  have C_fewest_moves : Cal l.prog w K mg base 3 "fewest_moves" ["row", "one", "other"] F_fewest_moves := cal_fewest_moves T f_fewest_moves (PySem.W.mg_of X G a_fewest_moves) b_fewest_moves C_look_both C_is_above
  have C__law_box : Cal l.prog w K mg base 1 "_law_box" ["script", "k"] F__law_box := cal__law_box T f__law_box (PySem.W.mg_of X G a__law_box) b__law_box
  have C__law_take : Cal l.prog w K mg base 1 "_law_take" ["box", "size_so"] F__law_take := cal__law_take T f__law_take (PySem.W.mg_of X G a__law_take) b__law_take
  have C__law_same : Cal l.prog w K mg base 5 "_law_same" ["got", "due"] (F__law_same 4) := cal__law_same T f__law_same (PySem.W.mg_of X G a__law_same) b__law_same 4
  have C__law_pick : Cal l.prog w K mg base 2 "_law_pick" ["box", "goods_so", "count_so"] F__law_pick := cal__law_pick T f__law_pick (PySem.W.mg_of X G a__law_pick) b__law_pick C__law_take
  have C__law_divisor : Cal l.prog w K mg base 1 "_law_divisor" ["one", "other"] F__law_divisor := cal__law_divisor T f__law_divisor (PySem.W.mg_of X G a__law_divisor) b__law_divisor
  have C__law_part : Cal l.prog w K mg base 2 "_law_part" ["top", "bottom"] F__law_part := cal__law_part T f__law_part (PySem.W.mg_of X G a__law_part) b__law_part C__law_divisor
  have C__law_added : Cal l.prog w K mg base 3 "_law_added" ["one", "other"] F__law_added := cal__law_added T f__law_added (PySem.W.mg_of X G a__law_added) b__law_added C__law_part
  have C__law_down : Cal l.prog w K mg base 1 "_law_down" ["many"] F__law_down := cal__law_down T f__law_down (PySem.W.mg_of X G a__law_down) b__law_down
  have C__law_row : Cal l.prog w K mg base 3 "_law_row" ["box", "many"] F__law_row := cal__law_row T f__law_row (PySem.W.mg_of X G a__law_row) b__law_row C__law_take C__law_pick
  have C__law_rows : Cal l.prog w K mg base 1 "_law_rows" ["sizes"] F__law_rows := cal__law_rows T f__law_rows (PySem.W.mg_of X G a__law_rows) b__law_rows
  have C__law_every : Cal l.prog w K mg base 1 "_law_every" ["many"] F__law_every := cal__law_every T f__law_every (PySem.W.mg_of X G a__law_every) b__law_every
  have C__law_lots : Cal l.prog w K mg base 10 "_law_lots" ["many", "some"] (F__law_lots 8) := cal__law_lots T f__law_lots (PySem.W.mg_of X G a__law_lots) b__law_lots C__law_down C__law_every 8
  have C__law_mean : Cal l.prog w K mg base 4 "_law_mean" ["found", "many"] F__law_mean := cal__law_mean T f__law_mean (PySem.W.mg_of X G a__law_mean) b__law_mean C__law_added C__law_part
  have C__law_chance : Cal l.prog w K mg base 13 "_law_chance" ["many", "one", "other", "direct"] (F__law_chance 8) := cal__law_chance T f__law_chance (PySem.W.mg_of X G a__law_chance) b__law_chance C__law_mean 8
  have C__law_deep : Cal l.prog w K mg base 4 "_law_deep" ["many"] F__law_deep := cal__law_deep T f__law_deep (PySem.W.mg_of X G a__law_deep) b__law_deep C__law_part C__law_added
  have C__law_great : Cal l.prog w K mg base 4 "_law_great" ["many", "place"] F__law_great := cal__law_great T f__law_great (PySem.W.mg_of X G a__law_great) b__law_great C__law_added
  have C__law_right : Cal l.prog w K mg base 42 "_law_right" ["box"] F__law_right := cal__law_right T f__law_right (PySem.W.mg_of X G a__law_right) b__law_right C__law_take C__law_row C__law_rows C_count_outer C_count_nestings C__law_lots C__law_every C__law_same C_greatest_depth C__law_mean C_holder_chance C_around_chance C__law_chance C__law_great C_mean_depth C_mean_inside C__law_deep C_holders C_fewest_moves
  refine fn_ex fun a0 ns => ?_
  have C__law_cells : CalS l.prog w K mg base 1 "_law_cells" ["script", "top_so"] a0 ns (F__law_cells a0 ns) := cal__law_cells T f__law_cells (PySem.W.mg_of X G a__law_cells) b__law_cells
  exact fn_law (a0 := a0) (ns := ns) T f_law C__law_cells C__law_box C__law_right
theorem walk {l : PySem.W.OpenLaw} {q : Program} {loose : List Str} {XP : (Str → Option Value) → Heap → Prop} {YP : World → Heap → Prop} {d : DefRec} {K : Params → PySem.W.Frag} (hn : l.most = some 63) (hdf : d.params.defaults = [])
    (hY : ∀ (w : World) (h : Heap), YP w h → (K w.params).In h)
    (F : ∀ (w : World) (mg : Str → Option Value) (fa : Addr) (h : Heap), (K w.params).In h → h.Ns mainGlobals mg → mg d.name = some (.ref fa) →
      ∃ fd : FuncData, (∀ (s : Shared) (u : Value), BindsTo s fd ⟨[u], []⟩ [("script", u)]) ∧ ∀ base : Heap, (K w.params).In base → base.Ns mainGlobals mg → FnOk l.prog w (K w.params) mg base CX0 43 fa fd ["script"] (fun vs H Q E => ∃ a0 ns, spS (K w.params) a0 ns (F_law a0 ns) vs H Q E)) :
    PySem.W.WalkO q loose XP YP l.row.toRowW d [] (fun f vs => PySem.call f vs) :=
  L2.walk_ofB (n := 63) (k := 43) (x := "script") (CX := fun _ => CX0) (sp := fun w => fun vs H Q E => ∃ a0 ns, spS (K w.params) a0 ns (F_law a0 ns) vs H Q E) hn (by decide) hdf ⟨rfl, by decide, by decide⟩ hY F
    (fun w H a ns hl hb hO hS => law_end hO hS (main a ns hl hb)) fun _ _ _ _ _ z => z
end K87
open PySem PySem.W PyProof.Rows
set_option maxRecDepth 100000 in
set_option maxHeartbeats 0 in
theorem PySem.Challenge.cw_putinside_k87_across_all_orders_of_the_s_holds : PySem.Challenge.rw_putinside_k87_across_all_orders_of_the_s.Holds := by
  w_on; o_law; k_head; (case hw => w_witness2)
  k_fill
  refine K87.walk (l := PySem.Challenge.rw_putinside_k87_across_all_orders_of_the_s) rfl rfl (fun w h Y => PySem.W.kIn_of Y) ?F
  case F =>
    intro w mg fa h KX G hmg
    refine' K87.all_mk KX G hmg ?a_biggest ?l_biggest ?c_biggest ?k_biggest ?a_look_place ?l_look_place ?c_look_place ?k_look_place ?a_between ?l_between ?c_between ?k_between ?a_is_above ?l_is_above ?c_is_above ?k_is_above ?a_holders ?l_holders ?c_holders ?k_holders ?a_count_with ?l_count_with ?c_count_with ?k_count_with ?a_count_nestings ?l_count_nestings ?c_count_nestings ?k_count_nestings ?a_count_outer ?l_count_outer ?c_count_outer ?k_count_outer ?a_gcd ?l_gcd ?c_gcd ?k_gcd ?a_reduced ?l_reduced ?c_reduced ?k_reduced ?a_added ?l_added ?c_added ?k_added ?a_distance_to_bigger ?l_distance_to_bigger ?c_distance_to_bigger ?k_distance_to_bigger ?a_first_of_three ?l_first_of_three ?c_first_of_three ?k_first_of_three ?a_look_both ?l_look_both ?c_look_both ?k_look_both ?a_holder_chance ?l_holder_chance ?c_holder_chance ?k_holder_chance ?a_around_chance ?l_around_chance ?c_around_chance ?k_around_chance ?a_mean_depth ?l_mean_depth ?c_mean_depth ?k_mean_depth ?a_mean_inside ?l_mean_inside ?c_mean_inside ?k_mean_inside ?a_greatest_depth ?l_greatest_depth ?c_greatest_depth ?k_greatest_depth ?a_fewest_moves ?l_fewest_moves ?c_fewest_moves ?k_fewest_moves ?a__law_box ?l__law_box ?c__law_box ?k__law_box ?a__law_take ?l__law_take ?c__law_take ?k__law_take ?a__law_cells ?l__law_cells ?c__law_cells ?k__law_cells ?a__law_same ?l__law_same ?c__law_same ?k__law_same ?a__law_pick ?l__law_pick ?c__law_pick ?k__law_pick ?a__law_divisor ?l__law_divisor ?c__law_divisor ?k__law_divisor ?a__law_part ?l__law_part ?c__law_part ?k__law_part ?a__law_added ?l__law_added ?c__law_added ?k__law_added ?a__law_down ?l__law_down ?c__law_down ?k__law_down ?a__law_row ?l__law_row ?c__law_row ?k__law_row ?a__law_rows ?l__law_rows ?c__law_rows ?k__law_rows ?a__law_every ?l__law_every ?c__law_every ?k__law_every ?a__law_lots ?l__law_lots ?c__law_lots ?k__law_lots ?a__law_mean ?l__law_mean ?c__law_mean ?k__law_mean ?a__law_chance ?l__law_chance ?c__law_chance ?k__law_chance ?a__law_deep ?l__law_deep ?c__law_deep ?k__law_deep ?a__law_great ?l__law_great ?c__law_great ?k__law_great ?a__law_right ?l__law_right ?c__law_right ?k__law_right ?a_law ?l_law ?c_law ?k_law ?aC ?aCI ?iCI ?lCI ?cCI ?kCI ?aCF ?iCF ?lCF ?cCF ?kCF ?aCH ?iCH ?lCH ?cCH ?kCH ?aCP ?iCP ?lCP ?cCP ?kCP ?aCO ?iCO ?lCO ?cCO ?kCO ?pgC ?hdC ?poC ?saC ?mkC ?kcC ?nC1 ?nC2 ?nC3 ?nC4 ?z_abs ?z_all ?z_bool ?z_enumerate ?z_int ?z_isinstance ?z_len ?z_list ?z_max ?z_min ?z_range ?z_str ?z_sum ?z_tuple ?z_zip
    (case a_biggest => k_is)
    (case l_biggest => k_is)
    (case c_biggest => k_is)
    (case k_biggest => k_is)
    (case a_look_place => k_is)
    (case l_look_place => k_is)
    (case c_look_place => k_is)
    (case k_look_place => k_is)
    (case a_between => k_is)
    (case l_between => k_is)
    (case c_between => k_is)
    (case k_between => k_is)
    (case a_is_above => k_is)
    (case l_is_above => k_is)
    (case c_is_above => k_is)
    (case k_is_above => k_is)
    (case a_holders => k_is)
    (case l_holders => k_is)
    (case c_holders => k_is)
    (case k_holders => k_is)
    (case a_count_with => k_is)
    (case l_count_with => k_is)
    (case c_count_with => k_is)
    (case k_count_with => k_is)
    (case a_count_nestings => k_is)
    (case l_count_nestings => k_is)
    (case c_count_nestings => k_is)
    (case k_count_nestings => k_is)
    (case a_count_outer => k_is)
    (case l_count_outer => k_is)
    (case c_count_outer => k_is)
    (case k_count_outer => k_is)
    (case a_gcd => k_is)
    (case l_gcd => k_is)
    (case c_gcd => k_is)
    (case k_gcd => k_is)
    (case a_reduced => k_is)
    (case l_reduced => k_is)
    (case c_reduced => k_is)
    (case k_reduced => k_is)
    (case a_added => k_is)
    (case l_added => k_is)
    (case c_added => k_is)
    (case k_added => k_is)
    (case a_distance_to_bigger => k_is)
    (case l_distance_to_bigger => k_is)
    (case c_distance_to_bigger => k_is)
    (case k_distance_to_bigger => k_is)
    (case a_first_of_three => k_is)
    (case l_first_of_three => k_is)
    (case c_first_of_three => k_is)
    (case k_first_of_three => k_is)
    (case a_look_both => k_is)
    (case l_look_both => k_is)
    (case c_look_both => k_is)
    (case k_look_both => k_is)
    (case a_holder_chance => k_is)
    (case l_holder_chance => k_is)
    (case c_holder_chance => k_is)
    (case k_holder_chance => k_is)
    (case a_around_chance => k_is)
    (case l_around_chance => k_is)
    (case c_around_chance => k_is)
    (case k_around_chance => k_is)
    (case a_mean_depth => k_is)
    (case l_mean_depth => k_is)
    (case c_mean_depth => k_is)
    (case k_mean_depth => k_is)
    (case a_mean_inside => k_is)
    (case l_mean_inside => k_is)
    (case c_mean_inside => k_is)
    (case k_mean_inside => k_is)
    (case a_greatest_depth => k_is)
    (case l_greatest_depth => k_is)
    (case c_greatest_depth => k_is)
    (case k_greatest_depth => k_is)
    (case a_fewest_moves => k_is)
    (case l_fewest_moves => k_is)
    (case c_fewest_moves => k_is)
    (case k_fewest_moves => k_is)
    (case a__law_box => k_is)
    (case l__law_box => k_is)
    (case c__law_box => k_is)
    (case k__law_box => k_is)
    (case a__law_take => k_is)
    (case l__law_take => k_is)
    (case c__law_take => k_is)
    (case k__law_take => k_is)
    (case a__law_cells => k_is)
    (case l__law_cells => k_is)
    (case c__law_cells => k_is)
    (case k__law_cells => k_is)
    (case a__law_same => k_is)
    (case l__law_same => k_is)
    (case c__law_same => k_is)
    (case k__law_same => k_is)
    (case a__law_pick => k_is)
    (case l__law_pick => k_is)
    (case c__law_pick => k_is)
    (case k__law_pick => k_is)
    (case a__law_divisor => k_is)
    (case l__law_divisor => k_is)
    (case c__law_divisor => k_is)
    (case k__law_divisor => k_is)
    (case a__law_part => k_is)
    (case l__law_part => k_is)
    (case c__law_part => k_is)
    (case k__law_part => k_is)
    (case a__law_added => k_is)
    (case l__law_added => k_is)
    (case c__law_added => k_is)
    (case k__law_added => k_is)
    (case a__law_down => k_is)
    (case l__law_down => k_is)
    (case c__law_down => k_is)
    (case k__law_down => k_is)
    (case a__law_row => k_is)
    (case l__law_row => k_is)
    (case c__law_row => k_is)
    (case k__law_row => k_is)
    (case a__law_rows => k_is)
    (case l__law_rows => k_is)
    (case c__law_rows => k_is)
    (case k__law_rows => k_is)
    (case a__law_every => k_is)
    (case l__law_every => k_is)
    (case c__law_every => k_is)
    (case k__law_every => k_is)
    (case a__law_lots => k_is)
    (case l__law_lots => k_is)
    (case c__law_lots => k_is)
    (case k__law_lots => k_is)
    (case a__law_mean => k_is)
    (case l__law_mean => k_is)
    (case c__law_mean => k_is)
    (case k__law_mean => k_is)
    (case a__law_chance => k_is)
    (case l__law_chance => k_is)
    (case c__law_chance => k_is)
    (case k__law_chance => k_is)
    (case a__law_deep => k_is)
    (case l__law_deep => k_is)
    (case c__law_deep => k_is)
    (case k__law_deep => k_is)
    (case a__law_great => k_is)
    (case l__law_great => k_is)
    (case c__law_great => k_is)
    (case k__law_great => k_is)
    (case a__law_right => k_is)
    (case l__law_right => k_is)
    (case c__law_right => k_is)
    (case k__law_right => k_is)
    (case a_law => k_is)
    (case l_law => k_is)
    (case c_law => k_is)
    (case k_law => k_is)
    (case aC => k_is)
    (case aCI => k_is)
    (case iCI => k_is)
    (case lCI => k_is)
    (case cCI => k_is)
    (case kCI => k_is)
    (case aCF => k_is)
    (case iCF => k_is)
    (case lCF => k_is)
    (case cCF => k_is)
    (case kCF => k_is)
    (case aCH => k_is)
    (case iCH => k_is)
    (case lCH => k_is)
    (case cCH => k_is)
    (case kCH => k_is)
    (case aCP => k_is)
    (case iCP => k_is)
    (case lCP => k_is)
    (case cCP => k_is)
    (case kCP => k_is)
    (case aCO => k_is)
    (case iCO => k_is)
    (case lCO => k_is)
    (case cCO => k_is)
    (case kCO => k_is)
    (case pgC => k_is)
    (case hdC => k_is)
    (case poC => k_is)
    (case saC => k_is)
    (case mkC => k_is)
    (case kcC => k_is)
    (case nC1 => k_is)
    (case nC2 => k_is)
    (case nC3 => k_is)
    (case nC4 => k_is)
    (case z_abs => k_is)
    (case z_all => k_is)
    (case z_bool => k_is)
    (case z_enumerate => k_is)
    (case z_int => k_is)
    (case z_isinstance => k_is)
    (case z_len => k_is)
    (case z_list => k_is)
    (case z_max => k_is)
    (case z_min => k_is)
    (case z_range => k_is)
    (case z_str => k_is)
    (case z_sum => k_is)
    (case z_tuple => k_is)
    (case z_zip => k_is)
