import PyProof.Rows.All
import Wide.All
import OpenK.AllK
import Wide.FinOn
import HandS.ForMost
import HandS.Walk
import HandS.Star
import HandS.TupAny
import HandS.IsInst
import HandS.Zip
import HandS.Defaults
import HandS.WordsExc
import KE.GoesEnum
import KE.GoesZip
import KE.KeyNested
import HandS.TupSets
import HandS.Sort
import KE.SortData
import HandS.DeepEq
import HandS.Flow
import HandS.ExcSuper
import KE.KExcSuper
import KE.KExcInit
import HandS.ExcIs
import HandS.ExcOwn
import KE.KExcIs
import HandS.New
import HandS.Style
import KE.KStateDown
import HandS.Ends
import HandS.Words
import HandS.Head0
import HandS.Head1
import HandS.Head2
import HandS.HeadEnd
import HandS.HeadHook1
import HandS.HeadHook2
import PySem.Challenge.RW_landpoints_k30_whole_deeds_in_worlds
set_option Elab.async false
set_option linter.all false
set_option maxRecDepth 100000
set_option maxHeartbeats 1000000
/-! A layer over data: what a reading evaluates to, the heap of still data hidden. -/
namespace K30
open PySem PySem.Spec PyProof.Rows L2
theorem sqL_up {K : PySem.W.Frag} {C C' : Hp} {a : Addr} {xs : List V} (e : Same C C') (h : SqL K C a xs) : SqL K C' a xs := by
  rcases h with (h | ⟨o, h⟩) | h
  · exact .inl (.inl (e _ _ h))
  · exact .inl (.inr ⟨o, e _ _ h⟩)
  · exact .inr h
theorem sqT_up {K : PySem.W.Frag} {C C' : Hp} {a : Addr} {xs : List V} (e : Same C C') (h : SqT K C a xs) : SqT K C' a xs := by
  rcases h with (h | ⟨o, h⟩) | h
  · exact .inl (.inl (e _ _ h))
  · exact .inl (.inr ⟨o, e _ _ h⟩)
  · exact .inr h
mutual
/-- the value v reads as the data d, all of it within C -/
inductive Dt (K : PySem.W.Frag) (C : Hp) : V → PyData → Prop
  | non : Dt K C .non .none
  | bl (b : Bool) : Dt K C (.bl b) (.bool b)
  | int (i : Int) : Dt K C (.int i) (.int i)
  | str (x : Str) : Dt K C (.str x) (.str x)
  | lst {a : Addr} {xs : List V} {ds : List PyData} : C a = some (.lst xs) → DtAll K C xs ds → Dt K C (.ref a) (.list ds)
  | tup {a : Addr} {xs : List V} {ds : List PyData} : SqT K C a xs → DtAll K C xs ds → Dt K C (.ref a) (.tuple ds)
inductive DtAll (K : PySem.W.Frag) (C : Hp) : List V → List PyData → Prop
  | nil : DtAll K C [] []
  | cons {v : V} {vs : List V} {d : PyData} {ds : List PyData} : Dt K C v d → DtAll K C vs ds → DtAll K C (v :: vs) (d :: ds)
end
section
variable {K : PySem.W.Frag} {C C' : Hp}
mutual
theorem Dt.up (e : Same C C') : ∀ (d : PyData) (v : V), Dt K C v d → Dt K C' v d
  | .none, _, h => by cases h; exact .non
  | .bool b, _, h => by cases h; exact .bl b
  | .int i, _, h => by cases h; exact .int i
  | .str x, _, h => by cases h; exact .str x
  | .list ds, _, h => by
    cases h with
    | lst h1 h2 => exact .lst (e _ _ h1) (DtAll.up e ds _ h2)
  | .tuple ds, _, h => by
    cases h with
    | tup h1 h2 => exact .tup (sqT_up e h1) (DtAll.up e ds _ h2)
  | .dict _, _, h => by cases h
theorem DtAll.up (e : Same C C') : ∀ (ds : List PyData) (vs : List V), DtAll K C vs ds → DtAll K C' vs ds
  | [], _, h => by cases h; exact .nil
  | d :: ds, _, h => by
    cases h with
    | cons h1 h2 => exact .cons (Dt.up e d _ h1) (DtAll.up e ds _ h2)
end
mutual
theorem Dt.dp : ∀ (d : PyData) (v : V), Dt K C v d → Dp K C v d
  | .none, _, h => by cases h; exact .non
  | .bool b, _, h => by cases h; exact .bl b
  | .int i, _, h => by cases h; exact .int i
  | .str x, _, h => by cases h; exact .str x
  | .list ds, _, h => by
    cases h with
    | lst h1 h2 => exact .lst (SqL.of h1) (DtAll.dp ds _ h2)
  | .tuple ds, _, h => by
    cases h with
    | tup h1 h2 => exact .tup h1 (DtAll.dp ds _ h2)
  | .dict _, _, h => by cases h
theorem DtAll.dp : ∀ (ds : List PyData) (vs : List V), DtAll K C vs ds → DpAll K C vs ds
  | [], _, h => by cases h; exact .nil
  | d :: ds, _, h => by
    cases h with
    | cons h1 h2 => exact .cons (Dt.dp d _ h1) (DtAll.dp ds _ h2)
end
theorem DtAll.length : ∀ {ds : List PyData} {vs : List V}, DtAll K C vs ds → vs.length = ds.length
  | [], _, h => by cases h; rfl
  | _ :: ds, _, h => by
    cases h with
    | cons _ h2 => simp only [List.length_cons, DtAll.length h2]
theorem DtAll.get : ∀ {ds : List PyData} {vs : List V} {i : Nat} {d : PyData}, DtAll K C vs ds → ds[i]? = some d → ∃ v, vs[i]? = some v ∧ Dt K C v d
  | [], _, _, _, h, e => by simp at e
  | d0 :: ds, _, 0, d, h, e => by
    cases h with
    | cons h1 _ =>
      have e' : d0 = d := by simpa using e
      subst e'
      exact ⟨_, rfl, h1⟩
  | d0 :: ds, _, i + 1, d, h, e => by
    cases h with
    | cons _ h2 =>
      obtain ⟨v, h3, h4⟩ := DtAll.get (i := i) h2 (by simpa using e)
      exact ⟨v, by simpa using h3, h4⟩
theorem DtAll.get' : ∀ {ds : List PyData} {vs : List V} {i : Nat} {v : V}, DtAll K C vs ds → vs[i]? = some v → ∃ d, ds[i]? = some d ∧ Dt K C v d
  | [], _, _, _, h, e => by cases h; simp at e
  | d0 :: ds, _, 0, v, h, e => by
    cases h with
    | cons h1 _ =>
      have e' := Option.some.inj e
      subst e'
      exact ⟨_, rfl, h1⟩
  | d0 :: ds, _, i + 1, v, h, e => by
    cases h with
    | cons _ h2 =>
      obtain ⟨d, h3, h4⟩ := DtAll.get' (i := i) h2 (by simpa using e)
      exact ⟨d, by simpa using h3, h4⟩
theorem DtAll.append : ∀ {ds es : List PyData} {vs us : List V}, DtAll K C vs ds → DtAll K C us es → DtAll K C (vs ++ us) (ds ++ es)
  | [], _, _, _, h, k => by cases h; exact k
  | _ :: ds, _, _, _, h, k => by
    cases h with
    | cons h1 h2 => exact .cons h1 (DtAll.append h2 k)
theorem DtAll.take : ∀ {ds : List PyData} {vs : List V} (n : Nat), DtAll K C vs ds → DtAll K C (vs.take n) (ds.take n)
  | _, _, 0, _ => by simpa using DtAll.nil
  | [], _, n + 1, h => by cases h; exact .nil
  | _ :: ds, _, n + 1, h => by
    cases h with
    | cons h1 h2 => exact .cons h1 (DtAll.take n h2)
theorem DtAll.drop : ∀ {ds : List PyData} {vs : List V} (n : Nat), DtAll K C vs ds → DtAll K C (vs.drop n) (ds.drop n)
  | _, _, 0, h => h
  | [], _, n + 1, h => by cases h; exact .nil
  | _ :: ds, _, n + 1, h => by
    cases h with
    | cons _ h2 => exact DtAll.drop n h2
/-- flat data: told by the value alone -/
def toV : PyData → V
  | .bool b => .bl b
  | .int i => .int i
  | .str x => .str x
  | _ => .non
def flatD : PyData → Bool
  | .none => true
  | .bool _ => true
  | .int _ => true
  | .str _ => true
  | _ => false
theorem Dt.flat {d : PyData} {v : V} (f : flatD d = true) (h : Dt K C v d) : v = toV d := by
  cases h <;> first | rfl | cases f
theorem Dt.ofFlat {d : PyData} (f : flatD d = true) : Dt K C (toV d) d := by
  cases d with
  | none => exact .non
  | bool b => exact .bl b
  | int i => exact .int i
  | str x => exact .str x
  | _ => cases f
theorem flat_toV {d : PyData} (f : flatD d = true) : flatV (toV d) = true := by
  cases d <;> first | rfl | cases f
theorem DtAll.flat : ∀ {ds : List PyData} {vs : List V}, (∀ d ∈ ds, flatD d = true) → DtAll K C vs ds → vs = ds.map toV
  | [], _, _, h => by cases h; rfl
  | d :: ds, _, f, h => by
    cases h with
    | cons h1 h2 => rw [Dt.flat (f d List.mem_cons_self) h1, DtAll.flat (fun x hx => f x (List.mem_cons_of_mem _ hx)) h2, List.map_cons]
end
/-- what a slot (a value) holds: anything; data; an address; a tuple that begins with data and has k further items -/
inductive Sl where
  | emp
  | dat (d : PyData)
  | adr (a : Addr)
  | row (k : Nat) (l : List PyData)
  | ty (n : String)
  | tys (l : List String)
  | scr (ns : List Int)
def Vl (K : PySem.W.Frag) (C : Hp) (v : V) : Sl → Prop
  | .emp => True
  | .dat d => Dt K C v d
  | .adr a => v = .ref a
  | .row k l => ∃ a xs ys, v = .ref a ∧ SqT K C a (xs ++ ys) ∧ DtAll K C xs l ∧ ys.length = k
  | .ty n => v = .ty n
  | .tys l => ∃ a, v = .ref a ∧ C a = some (.tup (l.map V.ty))
  | .scr ns => ∃ a, v = .ref a ∧ SqL K C a (ns.map V.int)
theorem Vl.up {K : PySem.W.Frag} {C C' : Hp} {v : V} (e : Same C C') : ∀ {s : Sl}, Vl K C v s → Vl K C' v s
  | .emp, _ => trivial
  | .dat d, h => Dt.up e d v h
  | .adr _, h => h
  | .row k l, ⟨a, xs, ys, h1, h2, h3, h4⟩ => ⟨a, xs, ys, h1, sqT_up e h2, DtAll.up e _ _ h3, h4⟩
  | .ty _, h => h
  | .tys _, ⟨a, h1, h2⟩ => ⟨a, h1, e _ _ h2⟩
  | .scr _, ⟨a, h1, h2⟩ => ⟨a, h1, sqL_up e h2⟩
inductive VlAll (K : PySem.W.Frag) (C : Hp) : List V → List Sl → Prop
  | nil : VlAll K C [] []
  | cons {v : V} {vs : List V} {s : Sl} {ss : List Sl} : Vl K C v s → VlAll K C vs ss → VlAll K C (v :: vs) (s :: ss)
theorem VlAll.up {K : PySem.W.Frag} {C C' : Hp} (e : Same C C') : ∀ {vs : List V} {ss : List Sl}, VlAll K C vs ss → VlAll K C' vs ss
  | _, _, .nil => .nil
  | _, _, .cons h t => .cons (Vl.up e h) (VlAll.up e t)
theorem VlAll.dats {K : PySem.W.Frag} {C : Hp} : ∀ {vs : List V} {ds : List PyData}, VlAll K C vs (ds.map .dat) → DtAll K C vs ds
  | _, [], h => by cases h; exact .nil
  | _, d :: ds, h => by
    cases h with
    | cons h1 h2 => exact .cons h1 (VlAll.dats h2)
/-- the box at b: three ints, the last not below 0, and n more draws are let; or a dict, and n more entries are let -/
def BoxAt (H0 : Hp) (b : Addr) (o : HO) (n : Nat) : Prop := ((∃ x y z : Int, o = .lst [.int x, .int y, .int z] ∧ 0 ≤ z ∧ z + n ≤ 4611686018427387904) ∧ ∀ q, H0 b ≠ some (.dK q)) ∨ ((∃ ps, o = .dK ps ∧ ps.length + n ≤ 1000) ∧ ∃ q, H0 b = some (.dK q))
def BoxOk (H0 H : Hp) (b : Addr) (n : Nat) : Prop := ∃ o, H b = some o ∧ BoxAt H0 b o n
theorem BoxOk.le {H0 H : Hp} {b : Addr} {n m : Nat} (h : BoxOk H0 H b n) (k : m ≤ n) : BoxOk H0 H b m := by
  obtain ⟨o, h1, ⟨⟨x, y, z, h2, h3, h4⟩, h5⟩ | ⟨⟨ps, h2, h3⟩, h5⟩⟩ := h
  · exact ⟨o, h1, .inl ⟨⟨x, y, z, h2, h3, by omega⟩, h5⟩⟩
  · exact ⟨o, h1, .inr ⟨⟨ps, h2, by omega⟩, h5⟩⟩
/-- the box alone -/
def BoxIs (H : Hp) (b : Addr) (n : Nat) : Prop := ∃ x y z : Int, H b = some (.lst [.int x, .int y, .int z]) ∧ 0 ≤ z ∧ z + n ≤ 4611686018427387904
theorem BoxIs.ok {H : Hp} {b : Addr} {n : Nat} (h : BoxIs H b n) : BoxOk H H b n := by
  obtain ⟨x, y, z, h1, h2, h3⟩ := h
  exact ⟨_, h1, .inl ⟨⟨x, y, z, rfl, h2, h3⟩, fun q e => by rw [h1] at e; cases e⟩⟩
theorem BoxOk.is {H0 H : Hp} {b : Addr} {n : Nat} (h : BoxOk H0 H b n) (k : ∀ q, H0 b ≠ some (.dK q)) : BoxIs H b n := by
  obtain ⟨o, h1, ⟨⟨x, y, z, h2, h3, h4⟩, h5⟩ | ⟨⟨ps, h2, h3⟩, q, h5⟩⟩ := h
  · subst h2
    exact ⟨x, y, z, h1, h3, h4⟩
  · exact absurd h5 (k q)
theorem BoxIs.to {H0 H : Hp} {b : Addr} {n : Nat} (h : BoxIs H b n) (k : ∀ q, H0 b ≠ some (.dK q)) : BoxOk H0 H b n := by
  obtain ⟨x, y, z, h1, h2, h3⟩ := h
  exact ⟨_, h1, .inl ⟨⟨x, y, z, rfl, h2, h3⟩, k⟩⟩
/-- C: the data that stands still; the slots hold rho; the lists mu may change; beta: the box -/
structure Bx where
  K : PySem.W.Frag
  beta : Option Addr
  C0 : Hp
  H0 : Hp
structure Okk (B : Bx) (rho : List Sl) (mu : List (Addr × List PyData)) (n : Nat) (C : Hp) (σ : L2.St) (H : Hp) : Prop where
  sub : Same C H
  len : σ.length = rho.length
  env : ∀ (i : Nat) (s : Sl), rho[i]? = some s → s ≠ .emp → ∃ v, σ[i]? = some (some v) ∧ Vl B.K C v s
  hot : ∀ m ∈ mu, C m.1 = none ∧ (B.beta ≠ some m.1 ∧ B.H0 m.1 = none) ∧ ∃ vs, H m.1 = some (.lst vs) ∧ DtAll B.K C vs m.2
  nd : (mu.map Prod.fst).Nodup
  box : ∀ b, B.beta = some b → C b = none ∧ BoxOk B.H0 H b n
  old : Same B.C0 C
  keep : ∀ a o, B.H0 a = some o → C a = B.C0 a ∧ (B.beta ≠ some a → H a = some o)
def Up (T : Hp → Prop) : Prop := ∀ C C' : Hp, Same C C' → T C → T C'
def Holds (B : Bx) (rho : List Sl) (mu : List (Addr × List PyData)) (T : Hp → Prop) (n : Nat) (σ : L2.St) (H : Hp) : Prop := ∃ C, Okk B rho mu n C σ H ∧ T C
/-- the box of B stands at b -/
def IsBox (B : Bx) (b : Addr) : Prop := B.beta = some b ∧ ∀ q, B.H0 b ≠ some (.dK q)
/-- T and: v is s -/
abbrev AndV (K : PySem.W.Frag) (T : Hp → Prop) (v : V) (s : Sl) : Hp → Prop := fun C => T C ∧ Vl K C v s
abbrev AndA (K : PySem.W.Frag) (T : Hp → Prop) (vs : List V) (ss : List Sl) : Hp → Prop := fun C => T C ∧ VlAll K C vs ss
section
variable {B : Bx} {rho rho' : List Sl} {mu : List (Addr × List PyData)} {T T' : Hp → Prop} {n m : Nat} {σ σ' : L2.St} {H H' : Hp}
theorem Up.andV {v : V} {s : Sl} (u : Up T) : Up (AndV B.K T v s) := fun C C' e h => ⟨u C C' e h.1, Vl.up e h.2⟩
theorem Up.andA {vs : List V} {ss : List Sl} (u : Up T) : Up (AndA B.K T vs ss) := fun C C' e h => ⟨u C C' e h.1, VlAll.up e h.2⟩
theorem Up.tt : Up fun _ => True := fun _ _ _ _ => trivial
theorem Holds.imp (h : Holds B rho mu T n σ H) (k : ∀ C, T C → T' C) : Holds B rho mu T' n σ H := by
  obtain ⟨C, a, b⟩ := h
  exact ⟨C, a, k C b⟩
theorem Holds.fst {P : Hp → Prop} (h : Holds B rho mu (fun C => T C ∧ P C) n σ H) : Holds B rho mu T n σ H := h.imp fun _ q => q.1
theorem Holds.le (h : Holds B rho mu T n σ H) (k : m ≤ n) : Holds B rho mu T m σ H := by
  obtain ⟨C, a, b⟩ := h
  exact ⟨C, ⟨a.sub, a.len, a.env, a.hot, a.nd, fun c e => ⟨(a.box c e).1, (a.box c e).2.le k⟩, a.old, a.keep⟩, b⟩
theorem Okk.free {C : Hp} (h : Okk B rho mu n C σ H) {p : Addr} (hp : H p = none) : C p = none := Same.free h.sub hp
theorem Okk.h0 {C : Hp} (h : Okk B rho mu n C σ H) {p : Addr} (hp : H p = none) : B.H0 p = none := by
  cases q : B.H0 p with
  | none => rfl
  | some o =>
    by_cases x : B.beta = some p
    · obtain ⟨_, o1, h3, _⟩ := h.box p x
      rw [hp] at h3
      cases h3
    · have e := (h.keep p o q).2 x
      rw [hp] at e
      cases e
theorem same_new {G : Hp} {p : Addr} {o : HO} (h : G p = none) : Same G (upd G p o) := fun b u e => by
  rw [upd_ne (ne_of_none e h)]
  exact e
theorem Okk.cold {C : Hp} (h : Okk B rho mu n C σ H) {p : Addr} (hp : H p = none) (o : HO) : Okk B rho mu n (upd C p o) σ (upd H p o) := by
  have hc := h.free hp
  have sc : Same C (upd C p o) := same_new hc
  have ne : ∀ a u, H a = some u → a ≠ p := fun a u e => ne_of_none e hp
  refine ⟨fun a u e => ?_, h.len, fun i s e k => ?_, fun q hq => ?_, h.nd, fun b e => ?_, h.old.trans sc, fun a o e => ?_⟩
  · by_cases x : a = p
    · subst x
      rw [upd_same] at e ⊢
      exact e
    · rw [upd_ne x] at e ⊢
      exact h.sub a u e
  · obtain ⟨v, h1, h2⟩ := h.env i s e k
    exact ⟨v, h1, Vl.up sc h2⟩
  · obtain ⟨h1, h2, vs, h3, h4⟩ := h.hot q hq
    have x := ne _ _ h3
    exact ⟨by rw [upd_ne x]; exact h1, h2, vs, by rw [upd_ne x]; exact h3, DtAll.up sc _ _ h4⟩
  · obtain ⟨h1, o1, h3, h4⟩ := h.box b e
    have q := ne _ _ h3
    exact ⟨by rw [upd_ne q]; exact h1, o1, by rw [upd_ne q]; exact h3, h4⟩
  · have q : a ≠ p := fun z => by rw [z, h.h0 hp] at e; cases e
    rw [upd_ne q, upd_ne q]
    exact h.keep a o e
/-- a new object is laid, told as data -/
theorem Holds.cold (h : Holds B rho mu T n σ H) (u : Up T) {p : Addr} (hp : H p = none) (o : HO) {P : Hp → Prop} (k : ∀ C, T C → T (upd C p o) → Same C (upd C p o) → P (upd C p o)) : Holds B rho mu (fun C => T C ∧ P C) n σ (upd H p o) := by
  obtain ⟨C, a, b⟩ := h
  have sc : Same C (upd C p o) := same_new (a.free hp)
  exact ⟨upd C p o, a.cold hp o, u _ _ sc b, k C b (u _ _ sc b) sc⟩
/-- a new list that may change -/
theorem Holds.hotNew (h : Holds B rho mu T n σ H) {p : Addr} (hp : H p = none) : Holds B rho ((p, []) :: mu) T n σ (upd H p (.lst [])) := by
  obtain ⟨C, a, b⟩ := h
  have ne : ∀ q u, H q = some u → q ≠ p := fun q u e => ne_of_none e hp
  refine ⟨C, ⟨fun q u e => ?_, a.len, a.env, fun q hq => ?_, ?_, fun c e => ?_, a.old, fun q o e => ?_⟩, b⟩
  · rw [upd_ne (ne _ _ (a.sub q u e))]
    exact a.sub q u e
  · rcases List.mem_cons.mp hq with e | hq
    · subst e
      refine ⟨a.free hp, ⟨fun e => ?_, a.h0 hp⟩, [], upd_same, .nil⟩
      obtain ⟨_, o1, h3, _⟩ := a.box p e
      rw [hp] at h3
      cases h3
    · obtain ⟨h1, h2, vs, h3, h4⟩ := a.hot q hq
      exact ⟨h1, h2, vs, by rw [upd_ne (ne _ _ h3)]; exact h3, h4⟩
  · rw [List.map_cons]
    refine List.nodup_cons.mpr ⟨fun hm => ?_, a.nd⟩
    obtain ⟨q, hq, e⟩ := List.mem_map.mp hm
    obtain ⟨_, _, vs, h3, _⟩ := a.hot q hq
    rw [show q.1 = p from e, hp] at h3
    cases h3
  · obtain ⟨h1, o1, h3, h4⟩ := a.box c e
    exact ⟨h1, o1, by rw [upd_ne (ne _ _ h3)]; exact h3, h4⟩
  · have x : q ≠ p := fun z => by rw [z, a.h0 hp] at e; cases e
    rw [upd_ne x]
    exact a.keep q o e
/-- a list that may change gets an item -/
theorem Holds.push {l : Addr} {ds : List PyData} {v : V} {d : PyData} (h : Holds B rho ((l, ds) :: mu) (AndV B.K T v (.dat d)) n σ H) :
    ∃ vs, H l = some (.lst vs) ∧ vs.length = ds.length ∧ Holds B rho ((l, ds ++ [d]) :: mu) T n σ (upd H l (.lst (vs ++ [v]))) := by
  obtain ⟨C, a, b, hv⟩ := h
  obtain ⟨g1, g2, vs, g3, g4⟩ := a.hot (l, ds) List.mem_cons_self
  have nd := List.nodup_cons.mp (show ((l :: mu.map Prod.fst)).Nodup from a.nd)
  refine ⟨vs, g3, g4.length, C, ⟨fun q u e => ?_, a.len, a.env, fun q hq => ?_, a.nd, fun c e => ?_, a.old, fun q o e => ?_⟩, b⟩
  · have x : q ≠ l := fun z => by rw [z, g1] at e; cases e
    rw [upd_ne x]
    exact a.sub q u e
  · rcases List.mem_cons.mp hq with e | hq
    · subst e
      exact ⟨g1, g2, _, upd_same, g4.append (.cons hv .nil)⟩
    · obtain ⟨h1, h2, us, h3, h4⟩ := a.hot q (List.mem_cons_of_mem _ hq)
      have x : q.1 ≠ l := fun z => nd.1 (List.mem_map.mpr ⟨q, hq, z⟩)
      exact ⟨h1, h2, us, by rw [upd_ne x]; exact h3, h4⟩
  · obtain ⟨h1, o1, h3, h4⟩ := a.box c e
    have q : c ≠ l := fun z => g2.1 (by rw [e, z])
    exact ⟨h1, o1, by rw [upd_ne q]; exact h3, h4⟩
  · have x : q ≠ l := fun z => by rw [z, show B.H0 l = none from g2.2] at e; cases e
    rw [upd_ne x]
    exact a.keep q o e
/-- a list changes no more: it is data from now on -/
theorem Holds.freeze {l : Addr} {ds : List PyData} (h : Holds B rho ((l, ds) :: mu) T n σ H) (u : Up T) : Holds B rho mu (AndV B.K T (.ref l) (.dat (.list ds))) n σ H := by
  obtain ⟨C, a, b⟩ := h
  obtain ⟨g1, g2, vs, g3, g4⟩ := a.hot (l, ds) List.mem_cons_self
  have nd := List.nodup_cons.mp (show ((l :: mu.map Prod.fst)).Nodup from a.nd)
  have sc : Same C (upd C l (.lst vs)) := same_new g1
  refine ⟨upd C l (.lst vs), ⟨fun q o e => ?_, a.len, fun i s e k => ?_, fun q hq => ?_, nd.2, fun c e => ?_, a.old.trans sc, fun q o e => ?_⟩, u _ _ sc b, .lst upd_same (DtAll.up sc _ _ g4)⟩
  · by_cases x : q = l
    · subst x
      rw [upd_same] at e
      rw [← e]
      exact g3
    · rw [upd_ne x] at e
      exact a.sub q o e
  · obtain ⟨v, h1, h2⟩ := a.env i s e k
    exact ⟨v, h1, Vl.up sc h2⟩
  · obtain ⟨h1, h2, us, h3, h4⟩ := a.hot q (List.mem_cons_of_mem _ hq)
    have x : q.1 ≠ l := fun z => nd.1 (List.mem_map.mpr ⟨q, hq, z⟩)
    exact ⟨by rw [upd_ne x]; exact h1, h2, us, h3, DtAll.up sc _ _ h4⟩
  · obtain ⟨h1, h2⟩ := a.box c e
    have q : c ≠ l := fun z => g2.1 (by rw [e, z])
    exact ⟨by rw [upd_ne q]; exact h1, h2⟩
  · have x : q ≠ l := fun z => by rw [z, show B.H0 l = none from g2.2] at e; cases e
    rw [upd_ne x]
    exact a.keep q o e
/-- a slot is set -/
theorem Holds.set {i : Nat} {v : V} {s : Sl} (h : Holds B rho mu (AndV B.K T v s) n σ H) : Holds B (rho.set i s) mu T n (σ.set i (some v)) H := by
  obtain ⟨C, a, b, hv⟩ := h
  refine ⟨C, ⟨a.sub, by rw [List.length_set, List.length_set]; exact a.len, fun j t e k => ?_, a.hot, a.nd, a.box, a.old, a.keep⟩, b⟩
  by_cases x : i = j
  · subst x
    by_cases y : i < rho.length
    · rw [List.getElem?_set_self y] at e
      have e' : s = t := Option.some.inj e
      subst e'
      exact ⟨v, List.getElem?_set_self (by rw [a.len]; exact y), hv⟩
    · rw [List.getElem?_eq_none (by rw [List.length_set]; omega)] at e
      cases e
  · rw [List.getElem?_set_ne x] at e ⊢
    exact a.env j t e k
/-- slots forgotten, or told less -/
theorem Holds.less (h : Holds B rho mu T n σ H) (hl : rho'.length = rho.length) (k : ∀ (i : Nat) (s : Sl), rho'[i]? = some s → s = .emp ∨ rho[i]? = some s) : Holds B rho' mu T n σ H := by
  obtain ⟨C, a, b⟩ := h
  refine ⟨C, ⟨a.sub, a.len.trans hl.symm, fun i s e q => ?_, a.hot, a.nd, a.box, a.old, a.keep⟩, b⟩
  rcases k i s e with z | z
  · exact absurd z q
  · exact a.env i s z q
/-- what stood at an address slot is told otherwise -/
theorem Holds.reslot {i : Nat} {a : Addr} {s : Sl} (h : Holds B rho mu (AndV B.K T (.ref a) s) n σ H) (hi : rho[i]? = some (.adr a)) : Holds B (rho.set i s) mu T n σ H := by
  obtain ⟨C, q, b, hv⟩ := h
  obtain ⟨v, h1, h2⟩ := q.env i _ hi (by intro z; cases z)
  have h3 := Holds.set (i := i) (s := s) (v := .ref a) ⟨C, q, b, hv⟩
  have e : σ.set i (some (.ref a)) = σ := by
    have h4 : v = .ref a := h2
    rw [h4] at h1
    obtain ⟨hl, he⟩ := List.getElem?_eq_some_iff.mp h1
    exact List.ext_getElem? fun j => by
      by_cases x : i = j
      · subst x
        rw [List.getElem?_set_self hl, h1]
      · rw [List.getElem?_set_ne x]
  rw [e] at h3
  exact h3
end
end K30
set_option Elab.async false
set_option linter.all false
set_option maxRecDepth 100000
set_option maxHeartbeats 1000000
namespace K30
open PySem PySem.Spec PyProof.Rows L2
/-- te, over slots rho, at a cost of c draws, comes to some value that S tells; nothing that was told changes -/
def EvR (B : Bx) (c : Nat) (te : TE) (rho : List Sl) (S : Sl → Prop) : Prop :=
  ∀ (mu : List (Addr × List PyData)) (T : Hp → Prop) (n : Nat) (σ : L2.St) (H : Hp), Up T → Holds B rho mu T (n + c) σ H → ∀ Q : VK, (∀ v H' s, S s → Holds B rho mu (AndV B.K T v s) n σ H' → Q v H') → te σ H Q
abbrev EvD (B : Bx) (c : Nat) (te : TE) (rho : List Sl) (s : Sl) : Prop := EvR B c te rho (fun z => z = s)
def EvT (B : Bx) (c : Nat) (tt : TT) (rho : List Sl) (b : Bool) : Prop :=
  ∀ (mu : List (Addr × List PyData)) (T : Hp → Prop) (n : Nat) (σ : L2.St) (H : Hp), Up T → Holds B rho mu T (n + c) σ H → ∀ Q : Bool → Hp → Prop, (∀ H', Holds B rho mu T n σ H' → Q b H') → tt σ H Q
def EvA (B : Bx) (c : Nat) (ta : TA) (rho : List Sl) (S : List Sl → Prop) : Prop :=
  ∀ (mu : List (Addr × List PyData)) (T : Hp → Prop) (n : Nat) (σ : L2.St) (H : Hp), Up T → Holds B rho mu T (n + c) σ H → ∀ Q : List V → Hp → Prop, (∀ vs H' ss, S ss → Holds B rho mu (AndA B.K T vs ss) n σ H' → Q vs H') → ta σ H Q
/-- an operation on values -/
def OpS (B : Bx) (r : R2) (s1 s2 : Sl) (S : Sl → Prop) : Prop :=
  ∀ (rho : List Sl) (mu : List (Addr × List PyData)) (T : Hp → Prop) (n : Nat) (σ : L2.St) (H : Hp) (x y : V), Up T → Holds B rho mu (AndV B.K (AndV B.K T x s1) y s2) n σ H → ∀ Q : VK, (∀ v H' s, S s → Holds B rho mu (AndV B.K T v s) n σ H' → Q v H') → r x y H Q
/-- a call on values, at a cost -/
def ClS (B : Bx) (c : Nat) (r : List V → Hp → VK → Prop) (ss : List Sl) (S : Sl → Prop) : Prop :=
  ∀ (rho : List Sl) (mu : List (Addr × List PyData)) (T : Hp → Prop) (n : Nat) (σ : L2.St) (H : Hp) (vs : List V), Up T → Holds B rho mu (AndA B.K T vs ss) (n + c) σ H → ∀ Q : VK, (∀ v H' s, S s → Holds B rho mu (AndV B.K T v s) n σ H' → Q v H') → r vs H Q
section
variable {B : Bx} {rho rho' : List Sl} {c c1 c2 c3 : Nat} {te ta tb : TE} {tt t u : TT} {tA tB' : TA} {S S1 S2 : Sl → Prop} {s s1 s2 : Sl}
theorem EvR.imp (h : EvR B c te rho S) (k : ∀ s, S s → S1 s) : EvR B c te rho S1 := fun mu T n σ H u hh Q q => h mu T n σ H u hh Q fun v H' s hs => q v H' s (k s hs)
theorem EvR.to (h : EvD B c te rho s) (e : s = s1) : EvD B c te rho s1 := e ▸ h
theorem EvR.le (h : EvR B c te rho S) (k : c ≤ c1) : EvR B c1 te rho S := fun mu T n σ H u hh Q q => h mu T n σ H u (hh.le (by omega)) Q q
theorem EvT.to {b b' : Bool} (h : EvT B c tt rho b) (e : b = b') : EvT B c tt rho b' := e ▸ h
theorem EvT.le {b : Bool} (h : EvT B c tt rho b) (k : c ≤ c1) : EvT B c1 tt rho b := fun mu T n σ H u hh Q q => h mu T n σ H u (hh.le (by omega)) Q q
theorem EvA.le {S : List Sl → Prop} (h : EvA B c tA rho S) (k : c ≤ c1) : EvA B c1 tA rho S := fun mu T n σ H u hh Q q => h mu T n σ H u (hh.le (by omega)) Q q
theorem EvA.imp {S S1 : List Sl → Prop} (h : EvA B c tA rho S) (k : ∀ s, S s → S1 s) : EvA B c tA rho S1 := fun mu T n σ H u hh Q q => h mu T n σ H u hh Q fun v H' s hs => q v H' s (k s hs)
/-! ### names and constants -/
theorem ed_var {i : Nat} (h : rho[i]? = some s) (ne : s ≠ .emp := by intro z; cases z) : EvD B 0 (tVar i) rho s := fun mu T n σ H u hh Q q => by
  obtain ⟨C, a, b⟩ := hh
  obtain ⟨v, h1, h2⟩ := a.env i s h ne
  exact ⟨v, h1, q v H s rfl ⟨C, a, b, h2⟩⟩
theorem ed_val {v : V} (h : ∀ C, Vl B.K C v s) : EvD B 0 (tC v) rho s := fun mu T n σ H u hh Q q => q v H s rfl (hh.imp fun C t => ⟨t, h C⟩)
theorem ed_int {i : Int} : EvD B 0 (tC (.int i)) rho (.dat (.int i)) := ed_val fun _ => .int i
theorem ed_str {x : Str} : EvD B 0 (tC (.str x)) rho (.dat (.str x)) := ed_val fun _ => .str x
theorem ed_bl {b : Bool} : EvD B 0 (tC (.bl b)) rho (.dat (.bool b)) := ed_val fun _ => .bl b
theorem ed_non : EvD B 0 (tC .non) rho (.dat .none) := ed_val fun _ => .non
theorem ed_ty {x : String} : EvD B 0 (tC (.ty x)) rho (.ty x) := ed_val fun _ => rfl
/-! ### arguments -/
theorem ea_nil : EvA B 0 tNil rho (fun l => l = []) := fun mu T n σ H u hh Q q => q [] H [] rfl (hh.imp fun _ t => ⟨t, .nil⟩)
theorem ea_consR {S' : List Sl → Prop} (h : EvR B c1 te rho S) (k : EvA B c2 tA rho S') : EvA B (c1 + c2) (tCons te tA) rho (fun l => ∃ s ss, S s ∧ S' ss ∧ l = s :: ss) := fun mu T n σ H u hh Q q =>
  h mu T (n + c2) σ H u (hh.le (by omega)) _ fun v H1 s hs h1 => k mu _ n σ H1 u.andV h1 _ fun vs H2 ss hss h2 => q (v :: vs) H2 (s :: ss) ⟨s, ss, hs, hss, rfl⟩ (h2.imp fun _ z => ⟨z.1.1, .cons z.1.2 z.2⟩)
theorem ea_cons {ss : List Sl} (h : EvD B c1 te rho s) (k : EvA B c2 tA rho (fun l => l = ss)) : EvA B (c1 + c2) (tCons te tA) rho (fun l => l = s :: ss) :=
  (ea_consR h k).imp fun l ⟨a, b, e1, e2, e⟩ => by rw [e, e1, e2]
theorem ea_one (h : EvD B c te rho s) : EvA B c (tCons te tNil) rho (fun l => l = [s]) := ea_cons h ea_nil
theorem ea_oneR (h : EvR B c te rho S) : EvA B c (tCons te tNil) rho (fun l => ∃ s, S s ∧ l = [s]) := (ea_consR h ea_nil).imp fun l ⟨a, b, e1, e2, e⟩ => ⟨a, e1, by rw [e, e2]⟩
/-- *e, e a tuple or a list -/
theorem ea_star {ss : List Sl} {ds : List PyData} (h : EvD B c1 te rho s) (hs : s = .dat (.tuple ds) ∨ s = .dat (.list ds)) (k : EvA B c2 tA rho (fun l => l = ss)) : EvA B (c1 + c2) (StX.tStar B.K te tA) rho (fun l => l = ds.map .dat ++ ss) := fun mu T n σ H u hh Q q =>
  h mu T (n + c2) σ H u (hh.le (by omega)) _ fun v H1 s' es h1 => by
    have all : ∀ {C : Hp} {xs : List V} {ds : List PyData}, DtAll B.K C xs ds → ∀ {us : List V} {ss : List Sl}, VlAll B.K C us ss → VlAll B.K C (xs ++ us) (ds.map .dat ++ ss) := by
      intro C xs ds
      induction ds generalizing xs with
      | nil => intro a us ss b; cases a; exact b
      | cons d ds ih =>
        intro a us ss b
        cases a with
        | cons a1 a2 => exact .cons a1 (ih a2 b)
    obtain ⟨C, a, b, hv⟩ := h1
    rw [es] at hv
    rcases hs with z | z
    · rw [z] at hv
      cases hv with
      | @tup p xs _ h3 h4 =>
        refine ⟨p, xs, rfl, .inl (sqT_up a.sub h3), k mu (fun C => T C ∧ DtAll B.K C xs ds) n σ H1 (fun C C' e y => ⟨u C C' e y.1, DtAll.up e _ _ y.2⟩) ⟨C, a, b, h4⟩ _ fun us H2 ss2 e2 h2 => ?_⟩
        refine q _ H2 (ds.map .dat ++ ss) rfl (h2.imp fun C y => ⟨y.1.1, ?_⟩)
        rw [← e2]
        exact all y.1.2 y.2
    · rw [z] at hv
      cases hv with
      | @lst p xs _ h3 h4 =>
        refine ⟨p, xs, rfl, .inr (SqL.of (a.sub _ _ h3)), k mu (fun C => T C ∧ DtAll B.K C xs ds) n σ H1 (fun C C' e y => ⟨u C C' e y.1, DtAll.up e _ _ y.2⟩) ⟨C, a, b, h4⟩ _ fun us H2 ss2 e2 h2 => ?_⟩
        refine q _ H2 (ds.map .dat ++ ss) rfl (h2.imp fun C y => ⟨y.1.1, ?_⟩)
        rw [← e2]
        exact all y.1.2 y.2
/-! ### displays -/
theorem vl_dats {C : Hp} : ∀ {ds : List PyData} {vs : List V}, VlAll B.K C vs (ds.map .dat) → DtAll B.K C vs ds := fun h => VlAll.dats h
theorem VlAll.len {C : Hp} : ∀ {vs : List V} {ss : List Sl}, VlAll B.K C vs ss → vs.length = ss.length
  | _, _, .nil => rfl
  | _, _, .cons _ t => by simp only [List.length_cons, VlAll.len t]
theorem er_tup {S' : List PyData → Prop} (h : EvA B c tA rho (fun l => ∃ ds, S' ds ∧ l = ds.map .dat)) (hl : ∀ ds, S' ds → ds.length ≤ 1000) : EvR B c (tTup tA) rho (fun s => ∃ ds, S' ds ∧ s = .dat (.tuple ds)) := fun mu T n σ H u hh Q q =>
  h mu T n σ H u hh _ fun vs H1 ss ⟨ds, hs, es⟩ h1 => by
    have len : vs.length = ds.length := by
      obtain ⟨C, a, b, hv⟩ := h1
      rw [VlAll.len hv, es, List.length_map]
    refine ⟨by rw [len]; exact Nat.le_of_lt (small1000 (hl ds hs)), fun p hp => q _ _ _ ⟨ds, hs, rfl⟩ ?_⟩
    have z := h1.cold (u.andA) hp (.tup vs) (P := fun C => Vl B.K C (.ref p) (.dat (.tuple ds))) fun C t t2 sc => .tup (.inl (.inl upd_same)) (DtAll.up sc _ _ (vl_dats (es ▸ t.2)))
    exact z.imp fun C y => ⟨y.1.1, y.2⟩
theorem ed_tup {ds : List PyData} (h : EvA B c tA rho (fun l => l = ds.map .dat)) (hl : ds.length ≤ 1000 := by exact Nat.le_of_ble_eq_true rfl) : EvD B c (tTup tA) rho (.dat (.tuple ds)) :=
  (er_tup (S' := fun z => z = ds) (h.imp fun l e => ⟨ds, rfl, e⟩) fun _ e => e ▸ hl).imp fun s ⟨_, e1, e2⟩ => by rw [e2, e1]
theorem er_lst {S' : List PyData → Prop} (h : EvA B c tA rho (fun l => ∃ ds, S' ds ∧ l = ds.map .dat)) (hl : ∀ ds, S' ds → ds.length ≤ 1000) : EvR B c (tLst tA) rho (fun s => ∃ ds, S' ds ∧ s = .dat (.list ds)) := fun mu T n σ H u hh Q q =>
  h mu T n σ H u hh _ fun vs H1 ss ⟨ds, hs, es⟩ h1 => by
    have len : vs.length = ds.length := by
      obtain ⟨C, a, b, hv⟩ := h1
      rw [VlAll.len hv, es, List.length_map]
    refine ⟨by rw [len]; exact Nat.le_of_lt (small1000 (hl ds hs)), fun p hp => q _ _ _ ⟨ds, hs, rfl⟩ ?_⟩
    have z := h1.cold (u.andA) hp (.lst vs) (P := fun C => Vl B.K C (.ref p) (.dat (.list ds))) fun C t t2 sc => .lst upd_same (DtAll.up sc _ _ (vl_dats (es ▸ t.2)))
    exact z.imp fun C y => ⟨y.1.1, y.2⟩
theorem ed_lst {ds : List PyData} (h : EvA B c tA rho (fun l => l = ds.map .dat)) (hl : ds.length ≤ 1000 := by exact Nat.le_of_ble_eq_true rfl) : EvD B c (tLst tA) rho (.dat (.list ds)) :=
  (er_lst (S' := fun z => z = ds) (h.imp fun l e => ⟨ds, rfl, e⟩) fun _ e => e ▸ hl).imp fun s ⟨_, e1, e2⟩ => by rw [e2, e1]
/-! ### operators by values -/
theorem er_op {r : R2} (ha : EvR B c1 ta rho S1) (hb : EvR B c2 tb rho S2) (hr : ∀ s1 s2, S1 s1 → S2 s2 → OpS B r s1 s2 S) : EvR B (c1 + c2) (tOp r ta tb) rho S := fun mu T n σ H u hh Q q =>
  ha mu T (n + c2) σ H u (hh.le (by omega)) _ fun x H1 s1 e1 h1 => hb mu _ n σ H1 u.andV h1 _ fun y H2 s2 e2 h2 => hr s1 s2 e1 e2 rho mu T n σ H2 x y u h2 Q q
theorem ed_op {r : R2} (ha : EvD B c1 ta rho s1) (hb : EvD B c2 tb rho s2) (hr : OpS B r s1 s2 (fun z => z = s)) : EvD B (c1 + c2) (tOp r ta tb) rho s := er_op ha hb fun a b e1 e2 => by
  have e1' : a = s1 := e1
  have e2' : b = s2 := e2
  subst e1' e2'
  exact hr
theorem OpS.ofInt {g : Int → Int → V} {f : Int → Int → PyData} {i j : Int} (e : g i j = toV (f i j)) (fl : flatD (f i j) = true) : OpS B (rI0 g) (.dat (.int i)) (.dat (.int j)) (fun z => z = .dat (f i j)) := fun rho mu T n σ H x y u hh Q q => by
  obtain ⟨C, a, ⟨b, hx⟩, hy⟩ := hh
  cases hx
  cases hy
  refine ⟨i, j, rfl, rfl, q _ H _ rfl ⟨C, a, b, ?_⟩⟩
  rw [e]
  exact Dt.ofFlat fl
theorem OpS.ofIntC {C : Int → Int → Prop} {g : Int → Int → V} {f : Int → Int → PyData} {i j : Int} (hc : C i j) (e : g i j = toV (f i j)) (fl : flatD (f i j) = true) : OpS B (rI C g) (.dat (.int i)) (.dat (.int j)) (fun z => z = .dat (f i j)) := fun rho mu T n σ H x y u hh Q q => by
  obtain ⟨C, a, ⟨b, hx⟩, hy⟩ := hh
  cases hx
  cases hy
  refine ⟨i, j, rfl, rfl, hc, q _ H _ rfl ⟨C, a, b, ?_⟩⟩
  rw [e]
  exact Dt.ofFlat fl
theorem os_eq {d e : PyData} (hd : SeqAt.shaped d = true) (he : SeqAt.shaped e = true) : OpS B (rEqD B.K) (.dat d) (.dat e) (fun z => z = .dat (.bool (PyData.eqv d e))) := fun rho mu T n σ H x y u hh Q q => by
  obtain ⟨C, a, ⟨b, hx⟩, hy⟩ := hh
  exact ⟨d, e, Dt.dp _ _ (Dt.up a.sub _ _ hx), Dt.dp _ _ (Dt.up a.sub _ _ hy), hd, he, q _ H _ rfl ⟨C, a, b, .bl _⟩⟩
theorem os_ne {d e : PyData} (hd : SeqAt.shaped d = true) (he : SeqAt.shaped e = true) : OpS B (rNeD B.K) (.dat d) (.dat e) (fun z => z = .dat (.bool (!PyData.eqv d e))) := fun rho mu T n σ H x y u hh Q q => by
  obtain ⟨C, a, ⟨b, hx⟩, hy⟩ := hh
  exact ⟨d, e, Dt.dp _ _ (Dt.up a.sub _ _ hx), Dt.dp _ _ (Dt.up a.sub _ _ hy), hd, he, q _ H _ rfl ⟨C, a, b, .bl _⟩⟩
/-- == of flat data -/
theorem os_eqF {d e : PyData} (hd : flatD d = true) (he : flatD e = true) (hs : scal (toV d) (toV e) = true) : OpS B rEq (.dat d) (.dat e) (fun z => z = .dat (.bool (decide (toV d = toV e)))) := fun rho mu T n σ H x y u hh Q q => by
  obtain ⟨C, a, ⟨b, hx⟩, hy⟩ := hh
  have e1 := Dt.flat hd hx
  have e2 := Dt.flat he hy
  subst e1 e2
  exact ⟨hs, q _ H _ rfl ⟨C, a, b, .bl _⟩⟩
theorem os_neF {d e : PyData} (hd : flatD d = true) (he : flatD e = true) (hs : scal (toV d) (toV e) = true) : OpS B rNe (.dat d) (.dat e) (fun z => z = .dat (.bool (!decide (toV d = toV e)))) := fun rho mu T n σ H x y u hh Q q => by
  obtain ⟨C, a, ⟨b, hx⟩, hy⟩ := hh
  have e1 := Dt.flat hd hx
  have e2 := Dt.flat he hy
  subst e1 e2
  exact ⟨hs, q _ H _ rfl ⟨C, a, b, .bl _⟩⟩
theorem dec_str (x y : Str) : decide (V.str x = V.str y) = decide (x = y) := decide_eq_decide.mpr ⟨fun e => V.str.inj e, fun e => e ▸ rfl⟩
theorem dec_int (x y : Int) : decide (V.int x = V.int y) = decide (x = y) := decide_eq_decide.mpr ⟨fun e => V.int.inj e, fun e => e ▸ rfl⟩
theorem dec_bl (x y : Bool) : decide (V.bl x = V.bl y) = (x == y) := by cases x <;> cases y <;> decide
theorem os_eqS {x y : Str} : OpS B rEq (.dat (.str x)) (.dat (.str y)) (fun z => z = .dat (.bool (decide (x = y)))) := by
  have h := os_eqF (B := B) (d := .str x) (e := .str y) rfl rfl rfl
  rw [show decide (toV (.str x) = toV (.str y)) = decide (x = y) from dec_str x y] at h
  exact h
theorem os_neS {x y : Str} : OpS B rNe (.dat (.str x)) (.dat (.str y)) (fun z => z = .dat (.bool (!decide (x = y)))) := by
  have h := os_neF (B := B) (d := .str x) (e := .str y) rfl rfl rfl
  rw [show decide (toV (.str x) = toV (.str y)) = decide (x = y) from dec_str x y] at h
  exact h
theorem os_eqB {x y : Bool} : OpS B rEq (.dat (.bool x)) (.dat (.bool y)) (fun z => z = .dat (.bool (x == y))) := by
  have h := os_eqF (B := B) (d := .bool x) (e := .bool y) rfl rfl rfl
  rw [show decide (toV (.bool x) = toV (.bool y)) = (x == y) from dec_bl x y] at h
  exact h
theorem os_neB {x y : Bool} : OpS B rNe (.dat (.bool x)) (.dat (.bool y)) (fun z => z = .dat (.bool (!(x == y)))) := by
  have h := os_neF (B := B) (d := .bool x) (e := .bool y) rfl rfl rfl
  rw [show decide (toV (.bool x) = toV (.bool y)) = (x == y) from dec_bl x y] at h
  exact h
theorem os_eqI {x y : Int} : OpS B rEq (.dat (.int x)) (.dat (.int y)) (fun z => z = .dat (.bool (decide (x = y)))) := by
  have h := os_eqF (B := B) (d := .int x) (e := .int y) rfl rfl rfl
  rw [show decide (toV (.int x) = toV (.int y)) = decide (x = y) from dec_int x y] at h
  exact h
/-- x in xs -/
def inD (x : PyData) (ds : List PyData) : Bool := inV (toV x) (ds.map toV)
theorem os_in {neg : Bool} {x : PyData} {ds : List PyData} {d : PyData} (hx : flatD x = true) (hds : ∀ y ∈ ds, flatD y = true) (hd : d = .list ds ∨ d = .tuple ds) : OpS B (rIn B.K neg) (.dat x) (.dat d) (fun z => z = .dat (.bool (if neg then !inD x ds else inD x ds))) := fun rho mu T n σ H v w u hh Q q => by
  obtain ⟨C, a, ⟨b, h1⟩, h2⟩ := hh
  have e1 := Dt.flat hx h1
  have fl : (ds.map toV).all flatV = true := List.all_eq_true.mpr fun z hz => by
    obtain ⟨y, hy, e⟩ := List.mem_map.mp hz
    rw [← e]
    exact flat_toV (hds y hy)
  have fin := q (.bl (if neg then !inD x ds else inD x ds)) H _ rfl ⟨C, a, b, .bl _⟩
  rcases hd with e | e
  · subst e
    cases h2 with
    | @lst p xs _ h3 h4 =>
      have e2 := DtAll.flat hds h4
      subst e1 e2
      exact ⟨p, _, rfl, .inl (SqL.of (a.sub _ _ h3)), flat_toV hx, fl, fin⟩
  · subst e
    cases h2 with
    | @tup p xs _ h3 h4 =>
      have e2 := DtAll.flat hds h4
      subst e1 e2
      exact ⟨p, _, rfl, .inr (sqT_up a.sub h3), flat_toV hx, fl, fin⟩
/-- xs[i] -/
theorem os_ix {i : Int} {ds : List PyData} {d e : PyData} (hd : d = .list ds ∨ d = .tuple ds) (he : atI ds i = some e) : OpS B (rIx B.K) (.dat d) (.dat (.int i)) (fun z => z = .dat e) := fun rho mu T n σ H v w u hh Q q => by
  obtain ⟨C, a, ⟨b, h1⟩, h2⟩ := hh
  cases h2
  have get : ∀ {xs : List V}, DtAll B.K C xs ds → ∃ z, atI xs i = some z ∧ Dt B.K C z e := fun {xs} h4 => by
    unfold atI at he ⊢
    rw [h4.length]
    cases hj : ixN ds.length i with
    | none => rw [hj] at he; cases he
    | some j =>
      rw [hj] at he
      exact h4.get (show ds[j]? = some e from he)
  rcases hd with x | x
  · subst x
    cases h1 with
    | @lst p xs _ h3 h4 =>
      obtain ⟨z, h5, h6⟩ := get h4
      exact .inl ⟨p, xs, i, z, rfl, rfl, SqL.of (a.sub _ _ h3), h5, q z H _ rfl ⟨C, a, b, h6⟩⟩
  · subst x
    cases h1 with
    | @tup p xs _ h3 h4 =>
      obtain ⟨z, h5, h6⟩ := get h4
      exact .inr (.inl ⟨p, xs, i, z, rfl, rfl, sqT_up a.sub h3, h5, q z H _ rfl ⟨C, a, b, h6⟩⟩)
/-- xs[i] of a tuple whose first items are known -/
theorem os_ixRow {i k : Nat} {ds : List PyData} {e : PyData} (he : ds[i]? = some e) : OpS B (rIx B.K) (.row k ds) (.dat (.int (i : Int))) (fun z => z = .dat e) := fun rho mu T n σ H v w u hh Q q => by
  obtain ⟨C, a, ⟨b, p, xs, ys, h1, h2, h3, h4⟩, h5⟩ := hh
  cases h5
  subst h1
  obtain ⟨z, h6, h7⟩ := h3.get he
  have hl : i < xs.length := (List.getElem?_eq_some_iff.mp h6).1
  exact .inr (.inl ⟨p, xs ++ ys, i, z, rfl, rfl, sqT_up a.sub h2, atI_nat (by rw [List.getElem?_append_left hl]; exact h6), q z H _ rfl ⟨C, a, b, h7⟩⟩)
/-- list + list -/
theorem os_cat {ds es : List PyData} (hl : ds.length + es.length ≤ 1000) : OpS B rCat (.dat (.list ds)) (.dat (.list es)) (fun z => z = .dat (.list (ds ++ es))) := fun rho mu T n σ H v w u hh Q q => by
  have hh' := hh
  obtain ⟨C, a, ⟨b, h1⟩, h2⟩ := hh
  cases h1 with
  | @lst p xs _ h3 h4 =>
    cases h2 with
    | @lst p' ys _ h5 h6 =>
      refine ⟨p, p', xs, ys, rfl, rfl, a.sub _ _ h3, a.sub _ _ h5, by rw [h4.length, h6.length]; exact Nat.le_of_lt (small1000 hl), fun o ho => q _ _ _ rfl ?_⟩
      have z := Holds.cold (T := fun C => T C ∧ DtAll B.K C xs ds ∧ DtAll B.K C ys es) ⟨C, a, b, h4, h6⟩ (fun C C' e y => ⟨u C C' e y.1, DtAll.up e _ _ y.2.1, DtAll.up e _ _ y.2.2⟩) ho (.lst (xs ++ ys)) (P := fun C => Vl B.K C (.ref o) (.dat (.list (ds ++ es)))) fun C t t2 sc => .lst upd_same (t2.2.1.append t2.2.2)
      exact z.imp fun C y => ⟨y.1.1, y.2⟩
/-- list * k -/
theorem os_rep {ds : List PyData} {k : Nat} (hl : ds.length * k ≤ 1000) (hk : k ≤ 1000) : OpS B rRep (.dat (.list ds)) (.dat (.int (k : Int))) (fun z => z = .dat (.list (List.replicate k ds).flatten)) := fun rho mu T n σ H v w u hh Q q => by
  obtain ⟨C, a, ⟨b, h1⟩, h2⟩ := hh
  cases h2
  cases h1 with
  | @lst p xs _ h3 h4 =>
    refine ⟨p, (k : Int), xs, rfl, rfl, a.sub _ _ h3, by omega, by omega, by rw [h4.length, Int.toNat_natCast]; exact Nat.le_of_lt (small1000 hl), fun o ho => q _ _ _ rfl ?_⟩
    rw [Int.toNat_natCast]
    have all : ∀ {C : Hp}, DtAll B.K C xs ds → ∀ j, DtAll B.K C (List.replicate j xs).flatten (List.replicate j ds).flatten := fun {C} h j => by
      induction j with
      | zero => exact .nil
      | succ j ih =>
        rw [List.replicate_succ, List.replicate_succ, List.flatten_cons, List.flatten_cons]
        exact h.append ih
    have z := Holds.cold (T := fun C => T C ∧ DtAll B.K C xs ds) ⟨C, a, b, h4⟩ (fun C C' e y => ⟨u C C' e y.1, DtAll.up e _ _ y.2⟩) ho (.lst (List.replicate k xs).flatten) (P := fun C => Vl B.K C (.ref o) (.dat (.list (List.replicate k ds).flatten))) fun C t t2 sc => .lst upd_same (all t2.2 k)
    exact z.imp fun C y => ⟨y.1.1, y.2⟩
/-- tuple + tuple -/
theorem os_catT {ds es : List PyData} (hl : ds.length + es.length ≤ 1000) : OpS B (rCatA B.K) (.dat (.tuple ds)) (.dat (.tuple es)) (fun z => z = .dat (.tuple (ds ++ es))) := fun rho mu T n σ H v w u hh Q q => by
  obtain ⟨C, a, ⟨b, h1⟩, h2⟩ := hh
  cases h1 with
  | @tup p xs _ h3 h4 =>
    cases h2 with
    | @tup p' ys _ h5 h6 =>
      have l1 := h4.length
      have l2 := h6.length
      refine ⟨p, p', xs, ys, rfl, rfl, sqT_up a.sub h3, sqT_up a.sub h5, by rw [l1, l2]; exact Nat.le_of_lt (small1000 hl), fun e => q _ _ _ rfl ⟨C, a, b, ?_⟩, fun _ e => q _ _ _ rfl ⟨C, a, b, ?_⟩, fun _ _ o ho => q _ _ _ rfl ?_⟩
      · subst e
        cases h4
        exact .tup h5 h6
      · subst e
        cases h6
        rw [List.append_nil]
        exact .tup h3 h4
      · have z := Holds.cold (T := fun C => T C ∧ DtAll B.K C xs ds ∧ DtAll B.K C ys es) ⟨C, a, b, h4, h6⟩ (fun C C' e y => ⟨u C C' e y.1, DtAll.up e _ _ y.2.1, DtAll.up e _ _ y.2.2⟩) ho (.tup (xs ++ ys)) (P := fun C => Vl B.K C (.ref o) (.dat (.tuple (ds ++ es)))) fun C t t2 sc => .tup (.inl (.inl upd_same)) (t2.2.1.append t2.2.2)
        exact z.imp fun C y => ⟨y.1.1, y.2⟩
end
end K30
set_option Elab.async false
set_option linter.all false
set_option maxRecDepth 100000
set_option maxHeartbeats 1000000
namespace K30
open PySem PySem.Spec PyProof.Rows L2
section
variable {B : Bx} {rho rho' : List Sl} {c c1 c2 c3 : Nat} {te ta tb : TE} {tt t u : TT} {tA tB' : TA} {S S1 S2 : Sl → Prop} {s s1 s2 : Sl}
/-! ### tests -/
theorem et_val {b : Bool} (h : EvD B c te rho (.dat (.bool b))) : EvT B c (tB te) rho b := fun mu T n σ H u hh Q q => h mu T n σ H u hh _ fun v H1 s e h1 => by
  obtain ⟨C, a, b1, hv⟩ := h1
  have e' : s = .dat (.bool b) := e
  subst e'
  cases hv
  exact ⟨b, rfl, q H1 ⟨C, a, b1⟩⟩
theorem et_test {b : Bool} (h : EvD B c te rho (.dat (.bool b))) : EvT B c (tTest te) rho b := fun mu T n σ H u hh Q q => h mu T n σ H u hh _ fun v H1 s e h1 => by
  obtain ⟨C, a, b1, hv⟩ := h1
  have e' : s = .dat (.bool b) := e
  subst e'
  cases hv
  exact ⟨b, rfl, q H1 ⟨C, a, b1⟩⟩
theorem et_not {b : Bool} (h : EvT B c tt rho b) : EvT B c (tNot tt) rho (!b) := fun mu T n σ H u hh Q q => h mu T n σ H u hh _ fun H1 h1 => q H1 h1
theorem et_and {a b : Bool} (h1 : EvT B c1 t rho a) (h2 : a = true → EvT B c2 u rho b) : EvT B (c1 + c2) (tAnd t u) rho (a && b) := fun mu T n σ H up hh Q q => h1 mu T (n + c2) σ H up (hh.le (by omega)) _ fun H1 k1 => by
  cases a with
  | true =>
    show u σ H1 Q
    exact h2 rfl mu T n σ H1 up k1 Q fun H2 k2 => q H2 k2
  | false =>
    show Q false H1
    exact q H1 (k1.le (by omega))
theorem et_or {a b : Bool} (h1 : EvT B c1 t rho a) (h2 : a = false → EvT B c2 u rho b) : EvT B (c1 + c2) (tOr t u) rho (a || b) := fun mu T n σ H up hh Q q => h1 mu T (n + c2) σ H up (hh.le (by omega)) _ fun H1 k1 => by
  cases a with
  | false =>
    show u σ H1 Q
    exact h2 rfl mu T n σ H1 up k1 Q fun H2 k2 => q H2 k2
  | true =>
    show Q true H1
    exact q H1 (k1.le (by omega))
theorem er_if {b : Bool} (h : EvT B c1 t rho b) (h1 : b = true → EvR B c2 ta rho S) (h2 : b = false → EvR B c2 tb rho S) : EvR B (c1 + c2) (tIf t ta tb) rho S := fun mu T n σ H up hh Q q => h mu T (n + c2) σ H up (hh.le (by omega)) _ fun H1 k1 => by
  cases b with
  | true =>
    show ta σ H1 Q
    exact h1 rfl mu T n σ H1 up k1 Q q
  | false =>
    show tb σ H1 Q
    exact h2 rfl mu T n σ H1 up k1 Q q
theorem ed_andV {a b : Bool} (h1 : EvD B c1 ta rho (.dat (.bool a))) (h2 : a = true → EvD B c2 tb rho (.dat (.bool b))) : EvD B (c1 + c2) (tAndV ta tb) rho (.dat (.bool (a && b))) := fun mu T n σ H up hh Q q => h1 mu T (n + c2) σ H up (hh.le (by omega)) _ fun v H1 s e k1 => by
  obtain ⟨C, x, b1, hv⟩ := k1
  have e' : s = .dat (.bool a) := e
  subst e'
  cases hv
  refine ⟨a, rfl, ?_⟩
  cases a with
  | true =>
    show tb σ H1 Q
    exact h2 rfl mu T n σ H1 up ⟨C, x, b1⟩ Q fun v H2 s e k2 => q v H2 s (by rw [e]; rfl) k2
  | false =>
    show Q (.bl false) H1
    exact q _ H1 _ rfl (Holds.le ⟨C, x, b1, .bl _⟩ (by omega))
theorem ed_orV {a b : Bool} (h1 : EvD B c1 ta rho (.dat (.bool a))) (h2 : a = false → EvD B c2 tb rho (.dat (.bool b))) : EvD B (c1 + c2) (tOrV ta tb) rho (.dat (.bool (a || b))) := fun mu T n σ H up hh Q q => h1 mu T (n + c2) σ H up (hh.le (by omega)) _ fun v H1 s e k1 => by
  obtain ⟨C, x, b1, hv⟩ := k1
  have e' : s = .dat (.bool a) := e
  subst e'
  cases hv
  refine ⟨a, rfl, ?_⟩
  cases a with
  | false =>
    show tb σ H1 Q
    exact h2 rfl mu T n σ H1 up ⟨C, x, b1⟩ Q fun v H2 s e k2 => q v H2 s (by rw [e]; rfl) k2
  | true =>
    show Q (.bl true) H1
    exact q _ H1 _ rfl (Holds.le ⟨C, x, b1, .bl _⟩ (by omega))
theorem ed_notV {a : Bool} (h1 : EvD B c ta rho (.dat (.bool a))) : EvD B c (tNotV ta) rho (.dat (.bool (!a))) := fun mu T n σ H up hh Q q => h1 mu T n σ H up hh _ fun v H1 s e k1 => by
  obtain ⟨C, x, b1, hv⟩ := k1
  have e' : s = .dat (.bool a) := e
  subst e'
  cases hv
  exact ⟨a, rfl, q _ H1 _ rfl ⟨C, x, b1, .bl _⟩⟩
/-! ### calls of built-ins by values -/
theorem er_cb {r : List V → Hp → VK → Prop} {SA : List Sl → Prop} (h : EvA B c1 tA rho SA) (hr : ∀ ss, SA ss → ClS B c2 r ss S) : EvR B (c1 + c2) (tCB r tA) rho S := fun mu T n σ H u hh Q q =>
  h mu T (n + c2) σ H u (hh.le (by omega)) _ fun vs H1 ss e h1 => hr ss e rho mu T n σ H1 vs u h1 Q q
theorem ed_cb {r : List V → Hp → VK → Prop} {ss : List Sl} (h : EvA B c1 tA rho (fun l => l = ss)) (hr : ClS B c2 r ss S) : EvR B (c1 + c2) (tCB r tA) rho S := er_cb h fun l e => by
  have e' : l = ss := e
  subst e'
  exact hr
theorem one_dat {C : Hp} {vs : List V} {s : Sl} (h : VlAll B.K C vs [s]) : ∃ v, vs = [v] ∧ Vl B.K C v s := by
  cases h with
  | cons h1 h2 => cases h2; exact ⟨_, rfl, h1⟩
theorem dt_bools {C : Hp} : ∀ {bs : List Bool} {xs : List V}, DtAll B.K C xs (bs.map .bool) → xs = bs.map V.bl
  | [], _, h => by cases h; rfl
  | b :: bs, _, h => by
    cases h with
    | cons h1 h2 => cases h1; rw [dt_bools h2, List.map_cons]
theorem cl_all {bs : List Bool} : ClS B 0 (rAll B.K) [.dat (.list (bs.map .bool))] (fun z => z = .dat (.bool (bs.all id))) := fun rho mu T n σ H vs u hh Q q => by
  obtain ⟨C, a, b, hv⟩ := hh
  obtain ⟨v, e, h1⟩ := one_dat hv
  cases h1 with
  | @lst p xs _ h3 h4 => exact ⟨p, bs, e, by rw [← dt_bools h4]; exact SqL.of (a.sub _ _ h3), q _ H _ rfl ⟨C, a, b, .bl _⟩⟩
theorem cl_any {bs : List Bool} : ClS B 0 (rAny B.K) [.dat (.list (bs.map .bool))] (fun z => z = .dat (.bool (bs.any id))) := fun rho mu T n σ H vs u hh Q q => by
  obtain ⟨C, a, b, hv⟩ := hh
  obtain ⟨v, e, h1⟩ := one_dat hv
  cases h1 with
  | @lst p xs _ h3 h4 => exact ⟨p, bs, e, by rw [← dt_bools h4]; exact SqL.of (a.sub _ _ h3), q _ H _ rfl ⟨C, a, b, .bl _⟩⟩
/-- tuple(xs) -/
def rTupleOf (K : PySem.W.Frag) : List V → Hp → VK → Prop := fun xs H Q => ∃ p ys, xs = [.ref p] ∧ ((SqL K H p ys ∧ ∀ l, H l = none → Q (.ref l) (upd H l (.tup ys))) ∨ (SqT K H p ys ∧ Q (.ref p) H))
theorem cr_tupleOf {X : Cx} : CallR X (.type "tuple") (rTupleOf X.K) := call_tuple_of
theorem cl_tuple {ds : List PyData} {d : PyData} (hd : d = .list ds ∨ d = .tuple ds) : ClS B 0 (rTupleOf B.K) [.dat d] (fun z => z = .dat (.tuple ds)) := fun rho mu T n σ H vs u hh Q q => by
  obtain ⟨C, a, b, hv⟩ := hh
  obtain ⟨v, e, h1⟩ := one_dat hv
  rcases hd with x | x
  · subst x
    cases h1 with
    | @lst p xs _ h3 h4 =>
      refine ⟨p, xs, e, .inl ⟨SqL.of (a.sub _ _ h3), fun o ho => q _ _ _ rfl ?_⟩⟩
      have z := Holds.cold (T := fun C => T C ∧ DtAll B.K C xs ds) ⟨C, a, b, h4⟩ (fun C C' e y => ⟨u C C' e y.1, DtAll.up e _ _ y.2⟩) ho (.tup xs) (P := fun C => Vl B.K C (.ref o) (.dat (.tuple ds))) fun C t t2 sc => .tup (.inl (.inl upd_same)) t2.2
      exact z.imp fun C y => ⟨y.1.1, y.2⟩
  · subst x
    cases h1 with
    | @tup p xs _ h3 h4 => exact ⟨p, xs, e, .inr ⟨sqT_up a.sub h3, q _ H _ rfl ⟨C, a, b, .tup h3 h4⟩⟩⟩
/-- list(xs) as data -/
def rListOf (K : PySem.W.Frag) : List V → Hp → VK → Prop := fun xs H Q => ∃ p ys, xs = [.ref p] ∧ (SqL K H p ys ∨ SqT K H p ys) ∧ ∀ l, H l = none → Q (.ref l) (upd H l (.lst ys))
theorem cr_listOf {X : Cx} : CallR X (.type "list") (rListOf X.K) := call_list_of
theorem cl_list {ds : List PyData} {d : PyData} (hd : d = .list ds ∨ d = .tuple ds) : ClS B 0 (rListOf B.K) [.dat d] (fun z => z = .dat (.list ds)) := fun rho mu T n σ H vs u hh Q q => by
  obtain ⟨C, a, b, hv⟩ := hh
  obtain ⟨v, e, h1⟩ := one_dat hv
  have fin : ∀ {xs : List V}, DtAll B.K C xs ds → ∀ o, H o = none → Q (.ref o) (upd H o (.lst xs)) := fun {xs} h4 o ho => by
    have z := Holds.cold (T := fun C => T C ∧ DtAll B.K C xs ds) ⟨C, a, b, h4⟩ (fun C C' e y => ⟨u C C' e y.1, DtAll.up e _ _ y.2⟩) ho (.lst xs) (P := fun C => Vl B.K C (.ref o) (.dat (.list ds))) fun C t t2 sc => .lst upd_same t2.2
    exact q _ _ _ rfl (z.imp fun C y => ⟨y.1.1, y.2⟩)
  rcases hd with x | x
  · subst x
    cases h1 with
    | @lst p xs _ h3 h4 => exact ⟨p, xs, e, .inl (SqL.of (a.sub _ _ h3)), fin h4⟩
  · subst x
    cases h1 with
    | @tup p xs _ h3 h4 => exact ⟨p, xs, e, .inr (sqT_up a.sub h3), fin h4⟩
/-- len(xs) -/
def rLenOf (K : PySem.W.Frag) : List V → Hp → VK → Prop := fun xs H Q => ∃ p ys, xs = [.ref p] ∧ (SqL K H p ys ∨ SqT K H p ys) ∧ Q (.int ys.length) H
theorem cr_lenOf {X : Cx} : CallR X (.builtin "len") (rLenOf X.K) := call_len_seq
theorem cl_len {ds : List PyData} {d : PyData} (hd : d = .list ds ∨ d = .tuple ds) : ClS B 0 (rLenOf B.K) [.dat d] (fun z => z = .dat (.int (ds.length : Int))) := fun rho mu T n σ H vs u hh Q q => by
  obtain ⟨C, a, b, hv⟩ := hh
  obtain ⟨v, e, h1⟩ := one_dat hv
  rcases hd with x | x
  · subst x
    cases h1 with
    | @lst p xs _ h3 h4 =>
      have h5 := q (.int (xs.length : Int)) H _ rfl (by rw [h4.length]; exact ⟨C, a, b, .int _⟩)
      exact ⟨p, xs, e, .inl (SqL.of (a.sub _ _ h3)), h5⟩
  · subst x
    cases h1 with
    | @tup p xs _ h3 h4 =>
      have h5 := q (.int (xs.length : Int)) H _ rfl (by rw [h4.length]; exact ⟨C, a, b, .int _⟩)
      exact ⟨p, xs, e, .inr (sqT_up a.sub h3), h5⟩
/-- int(i), int(b) -/
def rIntOf : List V → Hp → VK → Prop := fun xs H Q => (∃ i, xs = [.int i] ∧ Q (.int i) H) ∨ ∃ k, xs = [.bl k] ∧ Q (.int (if k then 1 else 0)) H
theorem cr_intOf {X : Cx} : CallR X (.type "int") rIntOf := call_int1
theorem cl_int {i : Int} : ClS B 0 rIntOf [.dat (.int i)] (fun z => z = .dat (.int i)) := fun rho mu T n σ H vs u hh Q q => by
  obtain ⟨C, a, b, hv⟩ := hh
  obtain ⟨v, e, h1⟩ := one_dat hv
  cases h1
  exact .inl ⟨i, e, q _ H _ rfl ⟨C, a, b, .int _⟩⟩
theorem cl_intB {k : Bool} : ClS B 0 rIntOf [.dat (.bool k)] (fun z => z = .dat (.int (if k then 1 else 0))) := fun rho mu T n σ H vs u hh Q q => by
  obtain ⟨C, a, b, hv⟩ := hh
  obtain ⟨v, e, h1⟩ := one_dat hv
  cases h1
  exact .inr ⟨k, e, q _ H _ rfl ⟨C, a, b, .int _⟩⟩
def rAbsOf : List V → Hp → VK → Prop := fun xs H Q => ∃ i, xs = [.int i] ∧ Q (.int (if i < 0 then -i else i)) H
theorem cr_absOf {X : Cx} : CallR X (.builtin "abs") rAbsOf := call_abs
theorem cl_abs {i : Int} : ClS B 0 rAbsOf [.dat (.int i)] (fun z => z = .dat (.int (if i < 0 then -i else i))) := fun rho mu T n σ H vs u hh Q q => by
  obtain ⟨C, a, b, hv⟩ := hh
  obtain ⟨v, e, h1⟩ := one_dat hv
  cases h1
  exact ⟨i, e, q _ H _ rfl ⟨C, a, b, .int _⟩⟩
/-! ### slices of tuples -/
def EvO (B : Bx) (to : TO) (rho : List Sl) (o : Option Int) : Prop :=
  ∀ (mu : List (Addr × List PyData)) (T : Hp → Prop) (n : Nat) (σ : L2.St) (H : Hp), Up T → Holds B rho mu T n σ H → ∀ Q : Option Int → Hp → Prop, (∀ H', Holds B rho mu T n σ H' → Q o H') → to σ H Q
theorem eo_none : EvO B tNoPart rho none := fun mu T n σ H u hh Q q => q H hh
theorem eo_some {i : Int} (h : EvD B 0 te rho (.dat (.int i))) : EvO B (tPart te) rho (some i) := fun mu T n σ H u hh Q q => h mu T n σ H u hh _ fun v H1 s e h1 => by
  obtain ⟨C, a, b, hv⟩ := h1
  have e' : s = .dat (.int i) := e
  subst e'
  cases hv
  exact ⟨i, rfl, q H1 ⟨C, a, b⟩⟩
def cutD (ds : List PyData) (lo hi : Option Int) : List PyData := (ds.drop (HT.sIx ds.length 0 lo)).take (HT.sIx ds.length ds.length hi - HT.sIx ds.length 0 lo)
theorem dt_cut {C : Hp} {xs : List V} {ds : List PyData} (h : DtAll B.K C xs ds) (lo hi : Option Int) : DtAll B.K C (cutV xs lo hi) (cutD ds lo hi) := by
  unfold cutV cutD
  rw [h.length]
  exact (h.drop _).take _
theorem cut_all {ds : List PyData} {lo hi : Option Int} (h : HT.sIx ds.length 0 lo = 0 ∧ HT.sIx ds.length ds.length hi = ds.length) : cutD ds lo hi = ds := by
  unfold cutD
  rw [h.1, h.2, List.drop_zero, Nat.sub_zero, List.take_length]
theorem ed_slT {tl th : TO} {lo hi : Option Int} {ds : List PyData} (h : EvD B c te rho (.dat (.tuple ds))) (h1 : EvO B tl rho lo) (h2 : EvO B th rho hi) : EvD B c (tSl (rSlA B.K) te tl th) rho (.dat (.tuple (cutD ds lo hi))) := fun mu T n σ H u hh Q q =>
  h mu T n σ H u hh _ fun v H1 s e k1 => h1 mu _ n σ H1 u.andV k1 _ fun H2 k2 => h2 mu _ n σ H2 u.andV k2 _ fun H3 k3 => by
    obtain ⟨C, a, b, hv⟩ := k3
    have e' : s = .dat (.tuple ds) := e
    subst e'
    cases hv with
    | @tup p xs _ h3 h4 =>
      refine ⟨p, xs, rfl, sqT_up a.sub h3, fun z => q _ H3 _ rfl ⟨C, a, b, ?_⟩, fun z o ho => q _ _ _ rfl ?_⟩
      · rw [h4.length] at z
        rw [cut_all z]
        exact .tup h3 h4
      · have z := Holds.cold (T := fun C => T C ∧ DtAll B.K C xs ds) ⟨C, a, b, h4⟩ (fun C C' e y => ⟨u C C' e y.1, DtAll.up e _ _ y.2⟩) ho (.tup (cutV xs lo hi)) (P := fun C => Vl B.K C (.ref o) (.dat (.tuple (cutD ds lo hi)))) fun C t t2 sc => .tup (.inl (.inl upd_same)) (dt_cut t2.2 lo hi)
        exact z.imp fun C y => ⟨y.1.1, y.2⟩
theorem ed_slL {tl th : TO} {lo hi : Option Int} {ds : List PyData} (h : EvD B c te rho (.dat (.list ds))) (h1 : EvO B tl rho lo) (h2 : EvO B th rho hi) : EvD B c (tSl (rSlL B.K) te tl th) rho (.dat (.list (cutD ds lo hi))) := fun mu T n σ H u hh Q q =>
  h mu T n σ H u hh _ fun v H1 s e k1 => h1 mu _ n σ H1 u.andV k1 _ fun H2 k2 => h2 mu _ n σ H2 u.andV k2 _ fun H3 k3 => by
    obtain ⟨C, a, b, hv⟩ := k3
    have e' : s = .dat (.list ds) := e
    subst e'
    cases hv with
    | @lst p xs _ h3 h4 =>
      refine ⟨p, xs, rfl, SqL.of (a.sub _ _ h3), fun o ho => q _ _ _ rfl ?_⟩
      have z := Holds.cold (T := fun C => T C ∧ DtAll B.K C xs ds) ⟨C, a, b, h4⟩ (fun C C' e y => ⟨u C C' e y.1, DtAll.up e _ _ y.2⟩) ho (.lst (cutV xs lo hi)) (P := fun C => Vl B.K C (.ref o) (.dat (.list (cutD ds lo hi)))) fun C t t2 sc => .lst upd_same (dt_cut t2.2 lo hi)
      exact z.imp fun C y => ⟨y.1.1, y.2⟩
/-! ### calls of defs -/
/-- a pure def: from a's data it hands back what res tells, and nothing else changes -/
def spP (K : PySem.W.Frag) {α : Type} (enc : α → List PyData) (ok : α → Prop) (res : α → PyData → Prop) : Sp := fun vs H Q _ => ∃ C a, Same C H ∧ DtAll K C vs (enc a) ∧ ok a ∧
  ∀ v C' H' d, Same H H' → Same C C' → Same C' H' → (∀ a o, H a = some o → C' a = C a) → res a d → Dt K C' v d → Q v H'
/-- a def that draws from the box, its first argument, at most cost times -/
def spB (K : PySem.W.Frag) (cost : Nat) {α : Type} (enc : α → List PyData) (ok : α → Prop) (res : α → PyData → Prop) : Sp := fun vs H Q _ => ∃ C a b ws n, vs = .ref b :: ws ∧ Same C H ∧ C b = none ∧ BoxIs H b (n + cost) ∧ DtAll K C ws (enc a) ∧ ok a ∧
  ∀ v C' H' d, (∀ x o, x ≠ b → H x = some o → H' x = some o) → BoxIs H' b n → Same C C' → Same C' H' → (∀ a o, H a = some o → C' a = C a) → res a d → Dt K C' v d → Q v H'
theorem Okk.ext {mu : List (Addr × List PyData)} {n : Nat} {C C' H H' : Hp} {σ : L2.St} (h : Okk B rho mu n C σ H) (s1 : Same H H') (s2 : Same C C') (s3 : Same C' H') (s4 : ∀ a o, H a = some o → C' a = C a) : Okk B rho mu n C' σ H' :=
  ⟨s3, h.len, fun i s e k => (h.env i s e k).elim fun v q => ⟨v, q.1, Vl.up s2 q.2⟩, fun m hm => by
    obtain ⟨h1, h2, vs, h3, h4⟩ := h.hot m hm
    exact ⟨(s4 _ _ h3).trans h1, h2, vs, s1 _ _ h3, DtAll.up s2 _ _ h4⟩, h.nd, fun b e => by
    obtain ⟨h1, o1, h3, h4⟩ := h.box b e
    exact ⟨(s4 _ _ h3).trans h1, o1, s1 _ _ h3, h4⟩, h.old.trans s2, fun a o e => by
    by_cases x : B.beta = some a
    · obtain ⟨_, o1, h3, _⟩ := h.box a x
      exact ⟨(s4 _ _ h3).trans (h.keep a o e).1, fun z => absurd x z⟩
    · have q := h.keep a o e
      exact ⟨(s4 _ _ (q.2 x)).trans q.1, fun z => s1 _ _ (q.2 z)⟩⟩
theorem er_call {α : Type} {enc : α → List PyData} {ok : α → Prop} {res : α → PyData → Prop} {E : XK} (a : α) (h : EvA B c tA rho (fun l => l = (enc a).map .dat)) (hp : ok a) : EvR B c (tCall (spP B.K enc ok res) [] E tA) rho (fun s => ∃ d, res a d ∧ s = .dat d) := fun mu T n σ H u hh Q q =>
  h mu T n σ H u hh _ fun vs H1 ss e h1 => by
    obtain ⟨C, x, b, hv⟩ := h1
    have e' : ss = (enc a).map .dat := e
    subst e'
    exact ⟨C, a, x.sub, by rw [List.append_nil]; exact VlAll.dats hv, hp, fun v C' H' d s1 s2 s3 s4 hd hv' => q v H' (.dat d) ⟨d, hd, rfl⟩ ⟨C', x.ext s1 s2 s3 s4, u _ _ s2 b, hv'⟩⟩
theorem ed_call {α : Type} {enc : α → List PyData} {ok : α → Prop} {f : α → PyData} {E : XK} (a : α) (h : EvA B c tA rho (fun l => l = (enc a).map .dat)) (hp : ok a) : EvD B c (tCall (spP B.K enc ok fun a d => d = f a) [] E tA) rho (.dat (f a)) :=
  (er_call (res := fun a d => d = f a) a h hp).imp fun s ⟨d, e1, e2⟩ => by rw [e2, e1]
theorem Okk.extB {mu : List (Addr × List PyData)} {n m : Nat} {C C' H H' : Hp} {σ : L2.St} {b : Addr} (h : Okk B rho mu n C σ H) (hb : B.beta = some b) (s1 : ∀ x o, x ≠ b → H x = some o → H' x = some o) (hx : BoxOk B.H0 H' b m) (s2 : Same C C') (s3 : Same C' H') (s4 : ∀ a o, H a = some o → C' a = C a) : Okk B rho mu m C' σ H' :=
  ⟨s3, h.len, fun i s e k => (h.env i s e k).elim fun v q => ⟨v, q.1, Vl.up s2 q.2⟩, fun m hm => by
    obtain ⟨h1, h2, vs, h3, h4⟩ := h.hot m hm
    have ne : m.1 ≠ b := fun z => h2.1 (by rw [hb, z])
    exact ⟨(s4 _ _ h3).trans h1, h2, vs, s1 _ _ ne h3, DtAll.up s2 _ _ h4⟩, h.nd, fun b' e => by
    have eb : b' = b := by rw [hb] at e; exact (Option.some.inj e).symm
    subst eb
    obtain ⟨h1, o1, h3, h4⟩ := h.box b' e
    exact ⟨(s4 _ _ h3).trans h1, hx⟩, h.old.trans s2, fun a o e => by
    by_cases x : B.beta = some a
    · obtain ⟨_, o1, h3, _⟩ := h.box a x
      exact ⟨(s4 _ _ h3).trans (h.keep a o e).1, fun z => absurd x z⟩
    · have q := h.keep a o e
      exact ⟨(s4 _ _ (q.2 x)).trans q.1, fun z => s1 _ _ (fun y => x (by rw [hb, y])) (q.2 z)⟩⟩
/-- a call of a def that draws, the box its first argument -/
theorem er_callB {α : Type} {cost : Nat} {enc : α → List PyData} {ok : α → Prop} {res : α → PyData → Prop} {E : XK} {b : Addr} (hb : IsBox B b) (a : α) (h : EvA B c tA rho (fun l => l = .adr b :: (enc a).map .dat)) (hp : ok a) :
    EvR B (c + cost) (tCall (spB B.K cost enc ok res) [] E tA) rho (fun s => ∃ d, res a d ∧ s = .dat d) := fun mu T n σ H u hh Q q =>
  h mu T (n + cost) σ H u (hh.le (by omega)) _ fun vs H1 ss e h1 => by
    obtain ⟨C, x, t, hv⟩ := h1
    have e' : ss = .adr b :: (enc a).map .dat := e
    subst e'
    cases hv with
    | @cons v ws _ _ hv1 hws =>
      have hv1 : v = .ref b := hv1
      subst hv1
      obtain ⟨g1, g2⟩ := x.box b hb.1
      exact ⟨C, a, b, ws, n, by rw [List.append_nil], x.sub, g1, g2.is hb.2, VlAll.dats hws, hp, fun v C' H' d s1 hx s2 s3 s4 hd hv' => q v H' (.dat d) ⟨d, hd, rfl⟩ ⟨C', x.extB hb.1 s1 (hx.to hb.2) s2 s3 s4, u _ _ s2 t, hv'⟩⟩
end
end K30
namespace K30
open PySem PySem.Spec PyProof.Rows L2
/-! ### isinstance -/
def tyD : PyData → String
  | .none => "NoneType"
  | .bool _ => "bool"
  | .int _ => "int"
  | .str _ => "str"
  | .list _ => "list"
  | .tuple _ => "tuple"
  | .dict _ => "dict"
def isB (a b : String) : Bool := a == b || (a == "bool" && b == "int")
def tyOk (b : String) : Bool := b == "list" || b == "tuple" || b == "bool" || b == "str" || b == "int"
end K30
namespace K30
open PySem PySem.Spec PyProof.Rows L2
theorem kit_NoneType_list (K : PySem.W.Frag) : PySem.W.kitOne K (.type "NoneType") (.type "list") = some false := kit_ty (by decide +kernel)
theorem kit_NoneType_tuple (K : PySem.W.Frag) : PySem.W.kitOne K (.type "NoneType") (.type "tuple") = some false := kit_ty (by decide +kernel)
theorem kit_NoneType_bool (K : PySem.W.Frag) : PySem.W.kitOne K (.type "NoneType") (.type "bool") = some false := kit_ty (by decide +kernel)
theorem kit_NoneType_str (K : PySem.W.Frag) : PySem.W.kitOne K (.type "NoneType") (.type "str") = some false := kit_ty (by decide +kernel)
theorem kit_NoneType_int (K : PySem.W.Frag) : PySem.W.kitOne K (.type "NoneType") (.type "int") = some false := kit_ty (by decide +kernel)
theorem kit_bool_list (K : PySem.W.Frag) : PySem.W.kitOne K (.type "bool") (.type "list") = some false := kit_ty (by decide +kernel)
theorem kit_bool_tuple (K : PySem.W.Frag) : PySem.W.kitOne K (.type "bool") (.type "tuple") = some false := kit_ty (by decide +kernel)
theorem kit_bool_bool (K : PySem.W.Frag) : PySem.W.kitOne K (.type "bool") (.type "bool") = some true := kit_ty (by decide +kernel)
theorem kit_bool_str (K : PySem.W.Frag) : PySem.W.kitOne K (.type "bool") (.type "str") = some false := kit_ty (by decide +kernel)
theorem kit_bool_int (K : PySem.W.Frag) : PySem.W.kitOne K (.type "bool") (.type "int") = some true := kit_ty (by decide +kernel)
theorem kit_int_list (K : PySem.W.Frag) : PySem.W.kitOne K (.type "int") (.type "list") = some false := kit_ty (by decide +kernel)
theorem kit_int_tuple (K : PySem.W.Frag) : PySem.W.kitOne K (.type "int") (.type "tuple") = some false := kit_ty (by decide +kernel)
theorem kit_int_bool (K : PySem.W.Frag) : PySem.W.kitOne K (.type "int") (.type "bool") = some false := kit_ty (by decide +kernel)
theorem kit_int_str (K : PySem.W.Frag) : PySem.W.kitOne K (.type "int") (.type "str") = some false := kit_ty (by decide +kernel)
theorem kit_int_int (K : PySem.W.Frag) : PySem.W.kitOne K (.type "int") (.type "int") = some true := kit_ty (by decide +kernel)
theorem kit_str_list (K : PySem.W.Frag) : PySem.W.kitOne K (.type "str") (.type "list") = some false := kit_ty (by decide +kernel)
theorem kit_str_tuple (K : PySem.W.Frag) : PySem.W.kitOne K (.type "str") (.type "tuple") = some false := kit_ty (by decide +kernel)
theorem kit_str_bool (K : PySem.W.Frag) : PySem.W.kitOne K (.type "str") (.type "bool") = some false := kit_ty (by decide +kernel)
theorem kit_str_str (K : PySem.W.Frag) : PySem.W.kitOne K (.type "str") (.type "str") = some true := kit_ty (by decide +kernel)
theorem kit_str_int (K : PySem.W.Frag) : PySem.W.kitOne K (.type "str") (.type "int") = some false := kit_ty (by decide +kernel)
theorem kit_list_list (K : PySem.W.Frag) : PySem.W.kitOne K (.type "list") (.type "list") = some true := kit_ty (by decide +kernel)
theorem kit_list_tuple (K : PySem.W.Frag) : PySem.W.kitOne K (.type "list") (.type "tuple") = some false := kit_ty (by decide +kernel)
theorem kit_list_bool (K : PySem.W.Frag) : PySem.W.kitOne K (.type "list") (.type "bool") = some false := kit_ty (by decide +kernel)
theorem kit_list_str (K : PySem.W.Frag) : PySem.W.kitOne K (.type "list") (.type "str") = some false := kit_ty (by decide +kernel)
theorem kit_list_int (K : PySem.W.Frag) : PySem.W.kitOne K (.type "list") (.type "int") = some false := kit_ty (by decide +kernel)
theorem kit_tuple_list (K : PySem.W.Frag) : PySem.W.kitOne K (.type "tuple") (.type "list") = some false := kit_ty (by decide +kernel)
theorem kit_tuple_tuple (K : PySem.W.Frag) : PySem.W.kitOne K (.type "tuple") (.type "tuple") = some true := kit_ty (by decide +kernel)
theorem kit_tuple_bool (K : PySem.W.Frag) : PySem.W.kitOne K (.type "tuple") (.type "bool") = some false := kit_ty (by decide +kernel)
theorem kit_tuple_str (K : PySem.W.Frag) : PySem.W.kitOne K (.type "tuple") (.type "str") = some false := kit_ty (by decide +kernel)
theorem kit_tuple_int (K : PySem.W.Frag) : PySem.W.kitOne K (.type "tuple") (.type "int") = some false := kit_ty (by decide +kernel)
theorem kit_of_ty (K : PySem.W.Frag) (d : PyData) (b : String) (hb : tyOk b = true) (hd : ∀ l, d ≠ .dict l) : PySem.W.kitOne K (.type (tyD d)) (.type b) = some (isB (tyD d) b) := by
  have hb' : b = "list" ∨ b = "tuple" ∨ b = "bool" ∨ b = "str" ∨ b = "int" := by simpa [tyOk, or_assoc] using hb
  cases d with
  | none =>
    rcases hb' with rfl | rfl | rfl | rfl | rfl
    · exact kit_NoneType_list K
    · exact kit_NoneType_tuple K
    · exact kit_NoneType_bool K
    · exact kit_NoneType_str K
    · exact kit_NoneType_int K
  | bool _ =>
    rcases hb' with rfl | rfl | rfl | rfl | rfl
    · exact kit_bool_list K
    · exact kit_bool_tuple K
    · exact kit_bool_bool K
    · exact kit_bool_str K
    · exact kit_bool_int K
  | int _ =>
    rcases hb' with rfl | rfl | rfl | rfl | rfl
    · exact kit_int_list K
    · exact kit_int_tuple K
    · exact kit_int_bool K
    · exact kit_int_str K
    · exact kit_int_int K
  | str _ =>
    rcases hb' with rfl | rfl | rfl | rfl | rfl
    · exact kit_str_list K
    · exact kit_str_tuple K
    · exact kit_str_bool K
    · exact kit_str_str K
    · exact kit_str_int K
  | list _ =>
    rcases hb' with rfl | rfl | rfl | rfl | rfl
    · exact kit_list_list K
    · exact kit_list_tuple K
    · exact kit_list_bool K
    · exact kit_list_str K
    · exact kit_list_int K
  | tuple _ =>
    rcases hb' with rfl | rfl | rfl | rfl | rfl
    · exact kit_tuple_list K
    · exact kit_tuple_tuple K
    · exact kit_tuple_bool K
    · exact kit_tuple_str K
    · exact kit_tuple_int K
  | dict l => exact absurd rfl (hd l)
theorem tyx_of {K : PySem.W.Frag} {C H : Hp} {v : V} {d : PyData} (s : Same C H) (h : Dt K C v d) : TyX K H v (.type (tyD d)) := by
  cases h with
  | non => exact .base .non
  | bl b => exact .base (.bl b)
  | int i => exact .base (.int i)
  | str x => exact .base (.str x)
  | lst h1 h2 => exact .base (.lst (s _ _ h1))
  | tup h1 h2 =>
    rcases h1 with (h1 | ⟨o, h1⟩) | ⟨o, its, n, h1, hc, _⟩
    · exact .base (.tup (s _ _ h1))
    · exact .fTuple (s _ _ h1)
    · exact .kTuple h1 hc
theorem dt_nodict {K : PySem.W.Frag} {C : Hp} {v : V} {d : PyData} (h : Dt K C v d) : ∀ l, d ≠ .dict l := by
  intro l e
  subst e
  cases h
section
variable {B : Bx} {rho : List Sl} {c c1 c2 : Nat} {te ta tb : TE}
theorem vl_two {K : PySem.W.Frag} {C : Hp} {vs : List V} {s1 s2 : Sl} (h : VlAll K C vs [s1, s2]) : ∃ v u, vs = [v, u] ∧ Vl K C v s1 ∧ Vl K C u s2 := by
  cases h with
  | cons h1 h2 =>
    cases h2 with
    | cons h3 h4 =>
      cases h4
      exact ⟨_, _, rfl, h1, h3⟩
theorem cl_isi {d : PyData} {b : String} (hb : tyOk b = true) : ClS B 0 (rIsi B.K) [.dat d, .ty b] (fun z => z = .dat (.bool (isB (tyD d) b))) := fun rho mu T n σ H vs u hh Q q => by
  obtain ⟨C, a, t, hv⟩ := hh
  obtain ⟨v, w, e, h1, h2⟩ := vl_two hv
  have h2' : w = .ty b := h2
  subst h2'
  exact ⟨v, .ty b, _, _, _, e, .ty b, tyx_of a.sub h1, kit_of_ty _ d b hb (dt_nodict h1), q _ H _ rfl ⟨C, a, t, .bl _⟩⟩
theorem cl_isiT {d : PyData} {b1 b2 : String} (hb1 : tyOk b1 = true) (hb2 : tyOk b2 = true) : ClS B 0 (rIsiT B.K) [.dat d, .tys [b1, b2]] (fun z => z = .dat (.bool (isB (tyD d) b1 || isB (tyD d) b2))) := fun rho mu T n σ H vs u hh Q q => by
  obtain ⟨C, a, t, hv⟩ := hh
  obtain ⟨v, w, e, h1, p, h2, h3⟩ := vl_two hv
  subst h2
  refine ⟨v, p, [.ty b1, .ty b2], _, [.type b1, .type b2], isB (tyD d) b1 || isB (tyD d) b2, e, a.sub _ _ h3, .cons (.ty b1) (.cons (.ty b2) .nil), tyx_of a.sub h1, ?_, q _ H _ rfl ⟨C, a, t, .bl _⟩⟩
  refine kitAny_cons (kit_of_ty _ d b1 hb1 (dt_nodict h1)) (fun e1 => ?_) (fun e1 => by rw [e1]; rfl)
  rw [e1, Bool.false_or]
  exact kitAny_cons (kit_of_ty _ d b2 hb2 (dt_nodict h1)) (fun e2 => by rw [e2]; exact kitAny_nil) (fun e2 => e2)
theorem ed_tys {b1 b2 : String} : EvD B 0 (tTup (tCons (tC (.ty b1)) (tCons (tC (.ty b2)) tNil))) rho (.tys [b1, b2]) := fun mu T n σ H u hh Q q => by
  refine ⟨by show 2 ≤ sizeLine; decide, fun p hp => q _ _ _ rfl ?_⟩
  have z := hh.cold u hp (.tup [.ty b1, .ty b2]) (P := fun C => Vl B.K C (.ref p) (.tys [b1, b2])) fun C t t2 sc => ⟨p, rfl, upd_same⟩
  exact z
end
end K30
set_option Elab.async false
set_option linter.all false
set_option maxRecDepth 100000
set_option maxHeartbeats 1000000
namespace K30
open PySem PySem.Spec PyProof.Rows L2
/-! ### slots forgotten -/
def wipeR (rho : List Sl) : List Nat → List Sl
  | [] => rho
  | v :: vs => (wipeR rho vs).set v .emp
theorem set_comm' {α : Type} (l : List α) {i j : Nat} (h : i ≠ j) (x y : α) : (l.set i x).set j y = (l.set j y).set i x := List.set_comm x y h
theorem wipe_set {σ : L2.St} {i : Nat} {y : Option V} : ∀ {vs : List Nat}, i ∈ vs → wipe (σ.set i y) vs = wipe σ vs := by
  have out : ∀ {vs : List Nat}, i ∉ vs → wipe (σ.set i y) vs = (wipe σ vs).set i y := by
    intro vs
    induction vs with
    | nil => intro _; rfl
    | cons v vs ih =>
      intro h
      rw [List.mem_cons, not_or] at h
      unfold wipe
      rw [ih h.2, set_comm' _ h.1]
  intro vs
  induction vs with
  | nil => intro h; cases h
  | cons v vs ih =>
    intro h
    unfold wipe
    by_cases k : i ∈ vs
    · rw [ih k]
    · rcases List.mem_cons.mp h with e | e
      · rw [out k, ← e, List.set_set]
      · exact absurd e k
theorem wipe_wipe {σ : L2.St} : ∀ (vs ws : List Nat), (∀ v ∈ vs, v ∈ ws) → wipe (wipe σ vs) ws = wipe σ ws
  | [], _, _ => rfl
  | v :: vs, ws, h => by
    show wipe ((wipe σ vs).set v none) ws = _
    rw [wipe_set (h v List.mem_cons_self)]
    exact wipe_wipe vs ws fun x hx => h x (List.mem_cons_of_mem _ hx)
theorem wipeR_len (rho : List Sl) : ∀ vs, (wipeR rho vs).length = rho.length
  | [] => rfl
  | v :: vs => by unfold wipeR; rw [List.length_set, wipeR_len rho vs]
section
variable {B : Bx} {rho rho' : List Sl} {mu : List (Addr × List PyData)} {T : Hp → Prop} {n : Nat} {σ σ' : L2.St} {H : Hp}
/-- the slots of rho, as a fact of C -/
def SlotsOf (K : PySem.W.Frag) (rho : List Sl) (σ : L2.St) : Hp → Prop := fun C => σ.length = rho.length ∧ ∀ (i : Nat) (s : Sl), rho[i]? = some s → s ≠ .emp → ∃ v, σ[i]? = some (some v) ∧ Vl K C v s
theorem slotsUp {K : PySem.W.Frag} : Up (SlotsOf K rho σ) := fun C C' e h => ⟨h.1, fun i s a b => (h.2 i s a b).elim fun v q => ⟨v, q.1, Vl.up e q.2⟩⟩
theorem Holds.save (h : Holds B rho mu T n σ H) : Holds B rho mu (fun C => T C ∧ SlotsOf B.K rho σ C) n σ H := by
  obtain ⟨C, a, b⟩ := h
  exact ⟨C, a, b, a.len, a.env⟩
theorem Holds.back (h : Holds B rho' mu (fun C => T C ∧ SlotsOf B.K rho σ C) n σ' H) : Holds B rho mu T n σ H := by
  obtain ⟨C, a, b, c⟩ := h
  exact ⟨C, ⟨a.sub, c.1, c.2, a.hot, a.nd, a.box, a.old, a.keep⟩, b⟩
theorem Holds.wipe (h : Holds B rho mu T n σ H) : ∀ vs, Holds B (wipeR rho vs) mu T n (L2.wipe σ vs) H := by
  intro vs
  obtain ⟨C, a, b⟩ := h
  suffices q : SlotsOf B.K (wipeR rho vs) (L2.wipe σ vs) C from ⟨C, ⟨a.sub, q.1, q.2, a.hot, a.nd, a.box, a.old, a.keep⟩, b⟩
  induction vs with
  | nil => exact ⟨a.len, a.env⟩
  | cons v vs ih =>
    refine ⟨?_, fun i s e k => ?_⟩
    · show ((L2.wipe σ vs).set v none).length = ((wipeR rho vs).set v .emp).length
      rw [List.length_set, List.length_set]
      exact ih.1
    · have e : ((wipeR rho vs).set v .emp)[i]? = some s := e
      show ∃ u, ((L2.wipe σ vs).set v none)[i]? = some (some u) ∧ _
      by_cases x : v = i
      · subst x
        by_cases y : v < (wipeR rho vs).length
        · rw [List.getElem?_set_self y] at e
          exact absurd (Option.some.inj e).symm k
        · rw [List.getElem?_eq_none (by rw [List.length_set]; omega)] at e
          cases e
      · rw [List.getElem?_set_ne x] at e ⊢
        exact ih.2 i s e k
end
/-! ### targets -/
def EvG (B : Bx) (g : TG) (vs : List Nat) (s : Sl) (rho rho' : List Sl) : Prop :=
  ∀ (mu : List (Addr × List PyData)) (T : Hp → Prop) (n : Nat) (σ : L2.St) (H : Hp) (x : V), Up T → Holds B rho mu (AndV B.K T x s) n σ H → ∀ k : L2.St → Hp → Prop, (∀ σ', wipe σ' vs = wipe σ vs → Holds B rho' mu T n σ' H → k σ' H) → g x σ H k
def EvGs (B : Bx) (g : TGs) (vs : List Nat) (ss : List Sl) (rho rho' : List Sl) : Prop :=
  ∀ (mu : List (Addr × List PyData)) (T : Hp → Prop) (n : Nat) (σ : L2.St) (H : Hp) (xs : List V), Up T → Holds B rho mu (AndA B.K T xs ss) n σ H → ∀ k : L2.St → Hp → Prop, (∀ σ', wipe σ' vs = wipe σ vs → Holds B rho' mu T n σ' H → k σ' H) → g xs σ H k
section
variable {B : Bx} {rho rho' rho2 : List Sl} {vs : List Nat} {s : Sl} {ss : List Sl} {g : TG} {gs : TGs} {ds : List PyData}
theorem eg_name {i : Nat} (hi : i ∈ vs := by decide) : EvG B (gName i) vs s rho (rho.set i s) := fun mu T n σ H x u hh k q => q _ (wipe_set hi) hh.set
theorem egs_nil : EvGs B gNil vs [] rho rho := fun mu T n σ H xs u hh k q => by
  obtain ⟨C, a, b, hv⟩ := hh
  cases hv
  exact ⟨rfl, q σ rfl ⟨C, a, b⟩⟩
theorem egs_cons (h : EvG B g vs s rho rho') (h2 : EvGs B gs vs ss rho' rho2) : EvGs B (gCons g gs) vs (s :: ss) rho rho2 := fun mu T n σ H xs u hh k q => by
  have hh' := hh
  obtain ⟨C0, _, _, hv⟩ := hh
  cases hv with
  | @cons v r _ _ _ _ =>
    refine ⟨v, r, rfl, h mu (AndA B.K T r ss) n σ H v u.andA (hh'.imp fun C z => ?_) _ fun σ1 e1 h1 => h2 mu T n σ1 H r u h1 k fun σ2 e2 => q σ2 (e2.trans e1)⟩
    cases z.2 with
    | cons a b => exact ⟨⟨z.1, b⟩, a⟩
theorem vl_of_dats {K : PySem.W.Frag} {C : Hp} : ∀ {ds : List PyData} {vs : List V}, DtAll K C vs ds → VlAll K C vs (ds.map .dat)
  | [], _, h => by cases h; exact .nil
  | _ :: _, _, h => by
    cases h with
    | cons a b => exact .cons a (vl_of_dats b)
theorem eg_tup {m : Nat} (h : EvGs B gs vs (ds.map .dat) rho rho') (hm : ds.length = m := by rfl) : EvG B (gTup B.K m gs) vs (.dat (.tuple ds)) rho rho' := fun mu T n σ H x u hh k q => by
  obtain ⟨C, a, b, hv⟩ := hh
  cases hv with
  | @tup p xs _ h3 h4 => exact ⟨p, xs, rfl, sqT_up a.sub h3, by rw [h4.length, hm], h mu T n σ H xs u ⟨C, a, b, vl_of_dats h4⟩ k q⟩
/-- a tuple whose first items alone are known -/
theorem eg_row {j m : Nat} (h : EvGs B gs vs (ds.map .dat ++ List.replicate j .emp) rho rho') (hm : ds.length + j = m := by rfl) : EvG B (gTup B.K m gs) vs (.row j ds) rho rho' := fun mu T n σ H x u hh k q => by
  obtain ⟨C, a, b, p, xs, ys, h1, h2, h3, h4⟩ := hh
  have all : ∀ {us : List V} {ss : List Sl}, VlAll B.K C us ss → ∀ zs : List V, VlAll B.K C (us ++ zs) (ss ++ List.replicate zs.length .emp) := by
    intro us ss w
    induction w with
    | nil =>
      intro zs
      induction zs with
      | nil => exact .nil
      | cons z zs ih => exact .cons trivial ih
    | cons a _ ih => intro zs; exact .cons a (ih zs)
  refine ⟨p, xs ++ ys, h1, sqT_up a.sub h2, by rw [List.length_append, h3.length, h4, hm], h mu T n σ H (xs ++ ys) u ⟨C, a, b, ?_⟩ k q⟩
  have z := all (vl_of_dats h3) ys
  rw [h4] at z
  exact z
end
/-! ### walks -/
def itemS (L : List PyData) (i : Nat) : Sl := match L[i]? with
  | some d => .dat d
  | none => .emp
/-- what wi walks: the items of some L that SL tells -/
def EvW (B : Bx) (c : Nat) (wi : TI) (rho : List Sl) (SL : List PyData → Prop) : Prop :=
  ∀ (mu : List (Addr × List PyData)) (T : Hp → Prop) (m : Nat) (σ : L2.St) (H : Hp), Up T → Holds B rho mu T (m + c) σ H → ∀ R : It → Hp → Prop,
    (∀ (J : It) (H1 : Hp) (W : Hp → Prop) (L : List PyData), SL L → Up W → Holds B rho mu (fun C => T C ∧ W C) m σ H1 →
      (∀ rho' mu' T' m' σ' H', Up T' → Holds B rho' mu' (fun C => T' C ∧ W C) m' σ' H' → J.stop L.length H' ∧ ∀ i d, L[i]? = some d → J.go i H' ∧ ∀ x H2, J.yld i H' x H2 → Holds B rho' mu' (AndV B.K (fun C => T' C ∧ W C) x (.dat d)) m' σ' H2) → R J H1) → wi σ H R
section
variable {B : Bx} {rho : List Sl} {c : Nat} {te : TE} {ta : TA} {ds : List PyData} {SL : List PyData → Prop}
theorem ew_list (h : EvD B c te rho (.dat (.list ds))) : EvW B c (iList B.K te) rho (fun L => L = ds) := fun mu T m σ H u hh R q => h mu T m σ H u hh _ fun v H1 s e h1 => by
  have e' : s = .dat (.list ds) := e
  subst e'
  obtain ⟨C, a, b, hv⟩ := h1
  cases hv with
  | @lst p xs _ h3 h4 =>
    refine ⟨p, rfl, ⟨xs, SqL.of (a.sub _ _ h3)⟩, q _ H1 (fun C => C p = some (.lst xs) ∧ DtAll B.K C xs ds) ds rfl (fun C C' e z => ⟨e _ _ z.1, DtAll.up e _ _ z.2⟩) ⟨C, a, b, h3, h4⟩ fun rho' mu' T' m' σ' H' up hh' => ?_⟩
    obtain ⟨C', a', b', h5, h6⟩ := hh'
    have sq : SqL B.K H' p xs := SqL.of (a'.sub _ _ h5)
    refine ⟨⟨xs, sq, by rw [h6.length]; exact Nat.le_refl _⟩, fun i d hd => ?_⟩
    obtain ⟨z, hz, hz2⟩ := h6.get hd
    refine ⟨⟨xs, z, sq, hz⟩, fun x H2 y => ?_⟩
    obtain ⟨e1, e2⟩ := y
    subst e1
    have e3 := e2 xs sq
    rw [hz] at e3
    have e4 := Option.some.inj e3
    subst e4
    exact ⟨C', a', ⟨b', h5, h6⟩, hz2⟩
theorem ew_tup (h : EvD B c te rho (.dat (.tuple ds))) : EvW B c (iTup B.K te) rho (fun L => L = ds) := fun mu T m σ H u hh R q => h mu T m σ H u hh _ fun v H1 s e h1 => by
  have e' : s = .dat (.tuple ds) := e
  subst e'
  obtain ⟨C, a, b, hv⟩ := h1
  cases hv with
  | @tup p xs _ h3 h4 =>
    refine ⟨p, rfl, ⟨xs, sqT_up a.sub h3⟩, q _ H1 (fun C => SqT B.K C p xs ∧ DtAll B.K C xs ds) ds rfl (fun C C' e z => ⟨sqT_up e z.1, DtAll.up e _ _ z.2⟩) ⟨C, a, b, h3, h4⟩ fun rho' mu' T' m' σ' H' up hh' => ?_⟩
    obtain ⟨C', a', b', h5, h6⟩ := hh'
    have sq : SqT B.K H' p xs := sqT_up a'.sub h5
    refine ⟨⟨xs, sq, by rw [h6.length]; exact Nat.le_refl _⟩, fun i d hd => ?_⟩
    obtain ⟨z, hz, hz2⟩ := h6.get hd
    refine ⟨⟨xs, z, sq, hz⟩, fun x H2 y => ?_⟩
    obtain ⟨e1, e2⟩ := y
    subst e1
    have e3 := e2 xs sq
    rw [hz] at e3
    have e4 := Option.some.inj e3
    subst e4
    exact ⟨C', a', ⟨b', h5, h6⟩, hz2⟩
def rangeD (n : Nat) : List PyData := (List.range n).map fun i : Nat => .int (i : Int)
theorem ew_range {S : Nat → Prop} (h : EvA B c ta rho (fun l => ∃ i : Int, S i.toNat ∧ 0 ≤ i ∧ i ≤ 1000 ∧ l = [.dat (.int i)])) : EvW B c (iRng1 ta) rho (fun L => ∃ n, S n ∧ n ≤ 1000 ∧ L = rangeD n) := fun mu T m σ H u hh R q => h mu T m σ H u hh _ fun vs H1 ss ⟨i, hs, h0, h9, e⟩ h1 => by
  subst e
  obtain ⟨C, a, b, hv⟩ := h1
  obtain ⟨v, e, hv⟩ := one_dat hv
  cases hv
  refine ⟨i, e, by omega, by omega, q _ H1 (fun _ => True) (rangeD i.toNat) ⟨_, hs, by omega, rfl⟩ Up.tt ⟨C, a, b, trivial⟩ fun rho' mu' T' m' σ' H' up hh' => ⟨?_, fun j d hd => ?_⟩⟩
  · show i.toNat ≤ (rangeD i.toNat).length
    unfold rangeD
    rw [List.length_map, List.length_range]
    exact Nat.le_refl _
  · have hj : j < i.toNat ∧ d = .int (j : Int) := by
      unfold rangeD at hd
      rw [List.getElem?_map] at hd
      obtain ⟨k, hk, e⟩ := Option.map_eq_some_iff.mp hd
      obtain ⟨hl, he⟩ := List.getElem?_eq_some_iff.mp hk
      rw [List.length_range] at hl
      rw [List.getElem_range] at he
      subst he
      exact ⟨hl, e.symm⟩
    refine ⟨hj.1, fun x H2 y => ?_⟩
    obtain ⟨e1, e2⟩ := y
    subst e1
    rw [e2, hj.2, Int.zero_add]
    exact hh'.imp fun C z => ⟨z, .int _⟩
end
/-! ### comprehensions -/
/-- what the first n turns collect -/
def LcR (b : Nat → Bool) (R : Nat → PyData → Prop) : Nat → List PyData → Prop
  | 0, ds => ds = []
  | i + 1, es => if b i = true then ∃ ds d, LcR b R i ds ∧ R i d ∧ es = ds ++ [d] else LcR b R i es
theorem LcR.len {b : Nat → Bool} {R : Nat → PyData → Prop} : ∀ {n : Nat} {ds : List PyData}, LcR b R n ds → ds.length ≤ n
  | 0, ds, h => by
    have e : ds = [] := h
    rw [e]
    exact Nat.le_refl _
  | n + 1, ds, h => by
    have h : if b n = true then ∃ es d, LcR b R n es ∧ R n d ∧ ds = es ++ [d] else LcR b R n ds := h
    by_cases c : b n = true
    · rw [if_pos c] at h
      obtain ⟨es, d, h1, _, e⟩ := h
      rw [e, List.length_append]
      have := LcR.len h1
      exact Nat.succ_le_succ this
    · rw [if_neg c] at h
      exact Nat.le_succ_of_le (LcR.len h)
section
variable {B : Bx} {rho : List Sl} {c0 cT cE cN : Nat} {wi : TI} {g : TG} {tt : TT} {te : TE} {vs : List Nat} {SL : List PyData → Prop}
theorem er_lc (hw : EvW B c0 wi rho SL) (rhoX : List PyData → Nat → PyData → List Sl) (b : List PyData → Nat → Bool) (R : List PyData → Nat → PyData → Prop)
    (hg : ∀ L i d, SL L → L[i]? = some d → EvG B g vs (.dat d) (wipeR rho vs) (rhoX L i d)) (ht : ∀ L i d, SL L → L[i]? = some d → EvT B cT tt (rhoX L i d) (b L i))
    (he : ∀ L i d, SL L → L[i]? = some d → b L i = true → EvR B cE te (rhoX L i d) (fun s => ∃ e, R L i e ∧ s = .dat e)) (hN : ∀ L, SL L → L.length ≤ 1000 ∧ L.length * (cT + cE) ≤ cN) :
    EvR B (c0 + cN) (tLc wi g tt te vs) rho (fun s => ∃ L ds, SL L ∧ LcR (b L) (R L) L.length ds ∧ s = .dat (.list ds)) := fun mu T m σ H u hh Q q => by
  refine hw mu T (m + cN) σ H u (hh.le (by omega)) _ fun J H1 W L hL upW h1 walk D hD => ?_
  obtain ⟨hl1, hl2⟩ := hN L hL
  refine ⟨fun i k H' => k = L.length - i ∧ i ≤ L.length ∧ ∃ ds, LcR (b L) (R L) i ds ∧ Holds B rho ((D, ds) :: mu) (fun C => T C ∧ W C) (m + (L.length - i) * (cT + cE)) σ H', ⟨L.length, by simp, Nat.zero_le _, [], rfl, (h1.hotNew hD).le (by rw [Nat.sub_zero]; omega)⟩, ?_⟩
  rintro i k H' ⟨rfl, hi, ds, hds, hh'⟩
  obtain ⟨w1, w2⟩ := walk _ _ _ _ _ _ u hh'
  by_cases hlt : i < L.length
  · have hd : L[i]? = some L[i] := List.getElem?_eq_getElem hlt
    obtain ⟨w3, w4⟩ := w2 i _ hd
    refine .inr ⟨w3, fun H2 => ∃ es, LcR (b L) (R L) (i + 1) es ∧ Holds B rho ((D, es) :: mu) (fun C => T C ∧ W C) (m + (L.length - (i + 1)) * (cT + cE)) σ H2, fun H2 hes => ⟨L.length - (i + 1), by omega, rfl, hlt, hes⟩, fun x H2 hy => ?_⟩
    have cost : m + (L.length - i) * (cT + cE) = m + (L.length - (i + 1)) * (cT + cE) + cE + cT := by
      have e : L.length - i = (L.length - (i + 1)) + 1 := by omega
      rw [e, Nat.succ_mul]
      omega
    have uTW : Up (fun C => T C ∧ W C) := fun C C' e z => ⟨u _ _ e z.1, upW _ _ e z.2⟩
    have h3 := w4 x H2 hy
    have h4 : Holds B rho ((D, ds) :: mu) (AndV B.K (fun C => (T C ∧ W C) ∧ SlotsOf B.K rho σ C) x (.dat L[i])) (m + (L.length - i) * (cT + cE)) σ H2 := (h3.save).imp fun C z => ⟨⟨z.1.1, z.2⟩, z.1.2⟩
    have u4 : Up (fun C => (T C ∧ W C) ∧ SlotsOf B.K rho σ C) := fun C C' e z => ⟨uTW _ _ e z.1, slotsUp _ _ e z.2⟩
    refine hg L i _ hL hd _ _ _ _ H2 x u4 (h4.wipe vs) _ fun σ2 e2 h5 => ⟨e2.trans (wipe_wipe vs vs fun _ z => z), ?_⟩
    rw [cost] at h5
    refine ht L i _ hL hd _ _ _ σ2 H2 u4 h5 _ fun H3 h6 => ?_
    by_cases hb : b L i = true
    · rw [if_pos hb]
      refine he L i _ hL hd hb _ _ _ σ2 H3 u4 h6 _ fun v H4 s ⟨e, hR, es⟩ h7 => ?_
      subst es
      obtain ⟨acc, g1, g2, g3⟩ := h7.push
      refine ⟨acc, g1, by rw [g2]; exact small1000 (Nat.le_trans hds.len (by omega)), ds ++ [e], ?_, g3.back⟩
      show if b L i = true then _ else _
      rw [if_pos hb]
      exact ⟨ds, e, hds, hR, rfl⟩
    · rw [if_neg hb]
      refine ⟨ds, ?_, (h6.le (by omega)).back⟩
      show if b L i = true then _ else _
      rw [if_neg hb]
      exact hds
  · have e : i = L.length := by omega
    subst e
    refine .inl ⟨w1, q (.ref D) H' (.dat (.list ds)) ⟨L, ds, hL, hds, rfl⟩ ?_⟩
    have h2 := (hh'.imp (T' := T) fun C z => z.1).freeze u
    exact h2.le (by omega)
/-- deterministic: items xs by enc -/
theorem ed_lc {α : Type} (xs : List α) (enc : α → PyData) (rhoX : α → List Sl) (p : α → Bool) (f : α → PyData) (hw : EvW B c0 wi rho (fun L => L = xs.map enc))
    (hg : ∀ x ∈ xs, EvG B g vs (.dat (enc x)) (wipeR rho vs) (rhoX x)) (ht : ∀ x ∈ xs, EvT B 0 tt (rhoX x) (p x)) (he : ∀ x ∈ xs, p x = true → EvD B 0 te (rhoX x) (.dat (f x))) (hN : xs.length ≤ 1000) :
    EvD B c0 (tLc wi g tt te vs) rho (.dat (.list ((xs.filter p).map f))) := by
  have item : ∀ {L : List PyData} {i : Nat} {d : PyData}, L = xs.map enc → L[i]? = some d → ∃ x, xs[i]? = some x ∧ d = enc x := fun {L i d} e h => by
    rw [e, List.getElem?_map] at h
    obtain ⟨x, h1, h2⟩ := Option.map_eq_some_iff.mp h
    exact ⟨x, h1, h2.symm⟩
  let dflt : Nat → Option α := fun i => xs[i]?
  refine (er_lc (cT := 0) (cE := 0) (cN := 0) hw (fun L i d => match dflt i with | some x => rhoX x | none => []) (fun L i => match dflt i with | some x => p x | none => false) (fun L i e => ∃ x, xs[i]? = some x ∧ e = f x)
    (fun L i d hL hd => ?_) (fun L i d hL hd => ?_) (fun L i d hL hd hb => ?_) (fun L hL => ⟨by rw [hL, List.length_map]; exact hN, by simp⟩)).imp fun s ⟨L, ds, hL, hR, es⟩ => ?_
  · obtain ⟨x, h1, h2⟩ := item hL hd
    show EvG B g vs (.dat d) (wipeR rho vs) (match xs[i]? with | some x => rhoX x | none => [])
    rw [h1, h2]
    exact hg x (List.mem_of_getElem? h1)
  · obtain ⟨x, h1, h2⟩ := item hL hd
    show EvT B 0 tt (match xs[i]? with | some x => rhoX x | none => []) (match xs[i]? with | some x => p x | none => false)
    rw [h1]
    exact ht x (List.mem_of_getElem? h1)
  · obtain ⟨x, h1, h2⟩ := item hL hd
    have hb : (match xs[i]? with | some x => p x | none => false) = true := hb
    show EvR B 0 te (match xs[i]? with | some x => rhoX x | none => []) _
    rw [h1] at hb ⊢
    exact (he x (List.mem_of_getElem? h1) hb).imp fun s e => ⟨f x, ⟨x, rfl, rfl⟩, e⟩
  · rw [es]
    have key : ∀ (n : Nat) (ds : List PyData), n ≤ xs.length → LcR (fun i => match xs[i]? with | some x => p x | none => false) (fun i e => ∃ x, xs[i]? = some x ∧ e = f x) n ds → ds = ((xs.take n).filter p).map f := by
      intro n
      induction n with
      | zero => intro ds _ h; exact (show ds = [] from h).trans (by simp)
      | succ n ih =>
        intro ds hn h
        have hx : xs[n]? = some xs[n] := List.getElem?_eq_getElem (by omega)
        have h : if (match xs[n]? with | some x => p x | none => false) = true then ∃ es d, LcR _ _ n es ∧ (∃ x, xs[n]? = some x ∧ d = f x) ∧ ds = es ++ [d] else LcR _ _ n ds := h
        rw [hx] at h
        rw [List.take_add_one, hx]
        by_cases c : p xs[n] = true
        · rw [if_pos c] at h
          obtain ⟨es, d, h1, ⟨x, h2, h3⟩, h4⟩ := h
          have e2 := Option.some.inj h2
          subst e2
          rw [h4, ih es (by omega) h1, h3, List.filter_append, List.map_append]
          refine congrArg (List.map f (List.filter p (List.take n xs)) ++ ·) ?_
          show [f xs[n]] = List.map f (List.filter p [xs[n]])
          rw [List.filter_cons_of_pos c]
          rfl
        · rw [if_neg c] at h
          rw [ih ds (by omega) h, List.filter_append, List.map_append]
          show List.map f (List.filter p (List.take n xs)) = List.map f (List.filter p (List.take n xs)) ++ List.map f (List.filter p [xs[n]])
          rw [List.filter_cons_of_neg c]
          exact (List.append_nil _).symm
    have hl : L.length = xs.length := by rw [hL, List.length_map]
    rw [hl] at hR
    rw [key _ ds (Nat.le_refl _) hR, List.take_length]
/-- .. without a test -/
theorem ed_lc1 {α : Type} (xs : List α) (enc : α → PyData) (rhoX : α → List Sl) (f : α → PyData) (hw : EvW B c0 wi rho (fun L => L = xs.map enc))
    (hg : ∀ x ∈ xs, EvG B g vs (.dat (enc x)) (wipeR rho vs) (rhoX x)) (ht : ∀ x ∈ xs, EvT B 0 tt (rhoX x) true) (he : ∀ x ∈ xs, EvD B 0 te (rhoX x) (.dat (f x))) (hN : xs.length ≤ 1000) :
    EvD B c0 (tLc wi g tt te vs) rho (.dat (.list (xs.map f))) := (ed_lc xs enc rhoX (fun _ => true) f hw hg ht (fun x hx _ => he x hx) hN).to (by rw [List.filter_eq_self.mpr fun _ _ => rfl])
theorem et_yes : EvT B 0 tYes rho true := fun mu T n σ H u hh Q q => q H hh
end
end K30
set_option Elab.async false
set_option linter.all false
set_option maxRecDepth 100000
set_option maxHeartbeats 1000000
namespace K30
open PySem PySem.Spec PyProof.Rows L2
section
variable {B : Bx} {rho rho' : List Sl} {mu : List (Addr × List PyData)} {T : Hp → Prop} {n c c1 c2 : Nat} {σ : L2.St} {H : Hp} {te ta tb : TE} {tt : TT} {D : Ends} {S S1 S2 : Sl → Prop} {s s1 s2 : Sl} {t1 t2 : TS}
theorem s_seq (h : t1 { D with nx := t2 D } σ H) : tSeq t1 t2 D σ H := h
/-- x = e -/
theorem s_asg {i : Nat} (hh : Holds B rho mu T (n + c) σ H) (u : Up T) (h : EvR B c te rho S) (k : ∀ s σ' H', S s → Holds B (rho.set i s) mu T n σ' H' → D.nx σ' H') : tAsg te (gName i) D σ H :=
  h mu T n σ H u hh _ fun v H1 s hs h1 => k s _ H1 hs h1.set
/-- target = e -/
theorem s_asgG {g : TG} {vs : List Nat} (hh : Holds B rho mu T (n + c) σ H) (u : Up T) (h : EvR B c te rho S) (hg : ∀ s, S s → ∃ rho', EvG B g vs s rho rho' ∧ ∀ σ' H', Holds B rho' mu T n σ' H' → D.nx σ' H') : tAsg te g D σ H :=
  h mu T n σ H u hh _ fun v H1 s hs h1 => by
    obtain ⟨rho', h2, k⟩ := hg s hs
    exact h2 mu T n σ H1 v u h1 _ fun σ' _ h3 => k σ' H1 h3
/-- x, y = e1, e2 -/
theorem s_par {i j : Nat} {tA : TA} {SA : List Sl → Prop} (hh : Holds B rho mu T (n + c) σ H) (u : Up T) (h : EvA B c tA rho SA) (k : ∀ ss, SA ss → ∃ s1 s2, ss = [s1, s2] ∧ ∀ σ' H', Holds B ((rho.set i s1).set j s2) mu T n σ' H' → D.nx σ' H') : tPar i j tA D σ H :=
  h mu T n σ H u hh _ fun vs H1 ss hs h1 => by
    obtain ⟨s1, s2, e, q⟩ := k ss hs
    subst e
    obtain ⟨C, a, b, hv⟩ := h1
    cases hv with
    | @cons v r _ _ hv1 hr =>
      cases hr with
      | @cons w r' _ _ hw1 hr' =>
        cases hr'
        refine ⟨v, w, rfl, q _ H1 ?_⟩
        have h2 : Holds B (rho.set i s1) mu (AndV B.K T w s2) n (σ.set i (some v)) H1 := Holds.set (T := AndV B.K T w s2) ⟨C, a, ⟨b, hw1⟩, hv1⟩
        exact h2.set
/-- x, y = e1, [] : the list may change -/
theorem s_parHot {i j : Nat} (hh : Holds B rho mu T (n + c) σ H) (u : Up T) (h : EvR B c te rho S) (k : ∀ s p σ' H', S s → Holds B ((rho.set i s).set j (.adr p)) ((p, []) :: mu) T n σ' H' → D.nx σ' H') : tPar i j (tCons te (tCons (tLst tNil) tNil)) D σ H :=
  h mu T n σ H u hh _ fun v H1 s hs h1 => by
    refine ⟨Nat.zero_le _, fun p hp => ⟨v, .ref p, rfl, k s p _ _ hs ?_⟩⟩
    have h2 := h1.hotNew hp
    have h3 : Holds B (rho.set i s) ((p, []) :: mu) T n (σ.set i (some v)) (upd H1 p (.lst [])) := h2.set
    exact Holds.set (s := .adr p) (h3.imp fun C z => ⟨z, rfl⟩)
/-- x = [] : the list may change -/
theorem s_newHot {i : Nat} (hh : Holds B rho mu T n σ H) (k : ∀ p σ' H', Holds B (rho.set i (.adr p)) ((p, []) :: mu) T n σ' H' → D.nx σ' H') : tAsg (tLst tNil) (gName i) D σ H := by
  refine ⟨Nat.zero_le _, fun p hp => k p _ _ ?_⟩
  exact Holds.set (s := .adr p) ((hh.hotNew hp).imp fun C z => ⟨z, rfl⟩)
theorem s_ret (hh : Holds B rho mu T (n + c) σ H) (u : Up T) (h : EvR B c te rho S) (k : ∀ v s H', S s → Holds B rho mu (AndV B.K T v s) n σ H' → D.rt v H') : tRet te D σ H := h mu T n σ H u hh _ fun v H1 s hs h1 => k v s H1 hs h1
theorem s_if {b : Bool} (hh : Holds B rho mu T (n + c) σ H) (u : Up T) (h : EvT B c tt rho b) (k1 : b = true → ∀ H', Holds B rho mu T n σ H' → t1 D σ H') (k2 : b = false → ∀ H', Holds B rho mu T n σ H' → t2 D σ H') : tIfS tt t1 t2 D σ H :=
  h mu T n σ H u hh _ fun H1 h1 => by
    cases b with
    | true =>
      show t1 D σ H1
      exact k1 rfl H1 h1
    | false =>
      show t2 D σ H1
      exact k2 rfl H1 h1
theorem s_next (k : D.nx σ H) : tNext D σ H := k
/-- xs.append(e), xs a list that may change, the first of mu -/
theorem s_app {l : Addr} {ds : List PyData} {i : Nat} (hh : Holds B rho ((l, ds) :: mu) T (n + c) σ H) (u : Up T) (hi : rho[i]? = some (.adr l)) (h : EvR B c te rho (fun s => ∃ d, S s ∧ s = .dat d)) (hl : ds.length ≤ 999)
    (k : ∀ d σ' H', S (.dat d) → Holds B rho ((l, ds ++ [d]) :: mu) T n σ' H' → D.nx σ' H') : tDrop (tBM B.K "list" rAppend (tVar i) (tCons te tNil)) D σ H := by
  have hh' := hh
  obtain ⟨C, a, b⟩ := hh'
  obtain ⟨v, h1, h2⟩ := a.env i _ hi (by intro z; cases z)
  have e2 : v = .ref l := h2
  subst e2
  obtain ⟨_, _, vs, h3, _⟩ := a.hot (l, ds) List.mem_cons_self
  refine ⟨_, h1, .inl ⟨rfl, vs, SqL.of h3⟩, h _ T n σ H u hh _ fun v H1 s ⟨d, hs, e⟩ k1 => ?_⟩
  subst e
  obtain ⟨acc, g1, g2, g3⟩ := k1.push
  exact ⟨l, acc, v, rfl, rfl, g1, by rw [g2]; exact small1000 (by omega), k d _ _ hs g3⟩
/-! ### for -/
/-- X: what the loop carries; I by the turn -/
theorem s_for {α : Type} {c0 cN cI : Nat} {wi : TI} {g : TG} {tb : TS} {SL : List PyData → Prop} (hh : Holds B rho mu T (n + (c0 + cN)) σ H) (u : Up T) (hw : EvW B c0 wi rho SL) (I : List PyData → Nat → α → Prop) (rhoI : α → List Sl) (muI : α → List (Addr × List PyData)) (x0 : α)
    (hr : rhoI x0 = rho) (hm : muI x0 = mu) (h0 : ∀ L, SL L → I L 0 x0) (hc : ∀ L, SL L → L.length * cI ≤ cN)
    (turn : ∀ L i d x (T' : Hp → Prop) (m : Nat) (N : L2.St → Hp → Prop) σ' H' v, SL L → L[i]? = some d → I L i x → Up T' → (∀ C, T' C → T C) → n ≤ m → Holds B (rhoI x) (muI x) (AndV B.K T' v (.dat d)) (m + cI) σ' H' →
      (∀ x' σ2 H2, I L (i + 1) x' → Holds B (rhoI x') (muI x') T' m σ2 H2 → N σ2 H2) → g v σ' H' fun σ2 H2 => tb { D with nx := N, ct := N, bk := D.nx } σ2 H2)
    (done : ∀ L x σ' H', SL L → I L L.length x → Holds B (rhoI x) (muI x) T n σ' H' → D.nx σ' H') : tFor wi g tb D σ H := by
  refine hw mu T (n + cN) σ H u (hh.le (by omega)) _ fun J H1 W L hL upW h1 walk => ?_
  have hcL := hc L hL
  refine ⟨fun i k σ' H' => k = L.length - i ∧ i ≤ L.length ∧ ∃ x, I L i x ∧ Holds B (rhoI x) (muI x) (fun C => T C ∧ W C) (n + (L.length - i) * cI) σ' H', ⟨L.length, by simp, Nat.zero_le _, x0, h0 L hL, by rw [hr, hm]; exact h1.le (by rw [Nat.sub_zero]; omega)⟩, ?_⟩
  rintro i k σ' H' ⟨rfl, hi, x, hx, hh'⟩
  have uTW : Up (fun C => T C ∧ W C) := fun C C' e z => ⟨u _ _ e z.1, upW _ _ e z.2⟩
  obtain ⟨w1, w2⟩ := walk _ _ _ _ _ _ u hh'
  by_cases hlt : i < L.length
  · have hd : L[i]? = some L[i] := List.getElem?_eq_getElem hlt
    obtain ⟨w3, w4⟩ := w2 i _ hd
    refine .inr ⟨w3, fun σ2 H2 => ∃ y, I L (i + 1) y ∧ Holds B (rhoI y) (muI y) (fun C => T C ∧ W C) (n + (L.length - (i + 1)) * cI) σ2 H2, fun σ2 H2 hy => ⟨L.length - (i + 1), by omega, rfl, hlt, hy⟩, fun v H2 hy => ?_⟩
    have cost : n + (L.length - i) * cI = n + (L.length - (i + 1)) * cI + cI := by
      have e : L.length - i = (L.length - (i + 1)) + 1 := by omega
      rw [e, Nat.succ_mul]
      omega
    have h3 := w4 v H2 hy
    rw [cost] at h3
    exact turn L i _ x (fun C => T C ∧ W C) (n + (L.length - (i + 1)) * cI) _ σ' H2 v hL hd hx uTW (fun C z => z.1) (Nat.le_add_right _ _) h3 (fun x' σ2 H3 a b => ⟨x', a, b⟩)
  · have e : i = L.length := by omega
    subst e
    exact .inl ⟨w1, done L x σ' H' hL hx ((hh'.imp fun C z => z.1).le (by omega))⟩
end
/-! ### a def's start and end -/
def sl0 (ds : List PyData) (k : Nat) : List Sl := ds.map .dat ++ List.replicate k .emp
theorem start_get {vs : List V} {N : List Str} {i : Nat} {v : V} (h : vs[i]? = some v) : (L2.start N vs)[i]? = some (some v) := by
  have hi : i < vs.length := (List.getElem?_eq_some_iff.mp h).1
  unfold L2.start
  rw [List.getElem?_append_left (by simpa using hi), List.getElem?_map, h]
  rfl
theorem start_len {vs : List V} {N : List Str} (h : vs.length ≤ N.length) : (L2.start N vs).length = N.length := by
  unfold L2.start
  rw [List.length_append, List.length_map, List.length_replicate]
  omega
theorem start_pure {K : PySem.W.Frag} {C H : Hp} {N : List Str} {vs : List V} {ds : List PyData} {k n : Nat} (hs : Same C H) (hv : DtAll K C vs ds) (hk : ds.length + k = N.length) : Holds ⟨K, none, C, H⟩ (sl0 ds k) [] (fun _ => True) n (L2.start N vs) H := by
  have hl := hv.length
  refine ⟨C, ⟨hs, ?_, fun i s e q => ?_, fun m hm => (by cases hm), List.nodup_nil, fun b e => (by cases e), Same.refl C, fun a o e => ⟨rfl, fun _ => e⟩⟩, trivial⟩
  · rw [start_len (by omega)]
    unfold sl0
    rw [List.length_append, List.length_map, List.length_replicate]
    omega
  · unfold sl0 at e
    by_cases hi : i < ds.length
    · rw [List.getElem?_append_left (by simpa using hi), List.getElem?_map] at e
      obtain ⟨d, h1, h2⟩ := Option.map_eq_some_iff.mp e
      obtain ⟨v, h3, h4⟩ := hv.get h1
      subst h2
      exact ⟨v, start_get h3, h4⟩
    · rw [List.getElem?_append_right (by simpa using hi)] at e
      have z : s = .emp := by
        obtain ⟨h1, h2⟩ := List.getElem?_eq_some_iff.mp e
        rw [List.getElem_replicate] at h2
        exact h2.symm
      exact absurd z q
/-- a value handed back by a pure def -/
theorem fin_pure {K : PySem.W.Frag} {C H H' : Hp} {rho : List Sl} {mu : List (Addr × List PyData)} {T : Hp → Prop} {n : Nat} {σ : L2.St} {v : V} {d : PyData} {Q : V → Hp → Prop} {post : PyData → Prop} (h : Holds ⟨K, none, C, H⟩ rho mu (AndV K T v (.dat d)) n σ H') (hp : post d)
    (q : ∀ v C' H' d, Same H H' → Same C C' → Same C' H' → (∀ a o, H a = some o → C' a = C a) → post d → Dt K C' v d → Q v H') : Q v H' := by
  obtain ⟨C', a, b, hv⟩ := h
  exact q v C' H' d (fun x o e => (a.keep x o e).2 (by intro z; cases z)) a.old a.sub (fun x o e => (a.keep x o e).1) hp hv
/-! ### defs of the text -/
def top (i : Nat) : Stmt := PySem.Challenge.pw_landpoints_k30_whole_deeds_in_worlds.main.body.getD i (.Pass ⟨0, 0, 0, 0⟩)
/-- where a def stands -/
def At (K : PySem.W.Frag) (mg : Str → Option Value) (x : Str) (i : Nat) : Prop := ∃ f fd, mg x = some (.ref f) ∧ FunD K x x (defArgs (top i)) (defBody (top i)) (defScope (top i)) [] [] f fd
/-- a def that keeps its promise -/
def Df (P : Program) (w : World) (K : PySem.W.Frag) (mg : Str → Option Value) (base : Heap) (CX : CXT) (k : Nat) (x : Str) (ps : List Str) (sp : Sp) : Prop :=
  ∃ f fd, mg x = some (.ref f) ∧ FnOk P w K mg base CX k f fd ps sp ∧ PySem.W.keepIn K (.ref f) = true ∧ Binds K fd ps [] ∧ ∃ (oc : Value) (od : Option Addr) (osl : Array (Option Value)), K.lookup f = some ⟨oc, od, .func fd, osl⟩
theorem look_of {K : PySem.W.Frag} {x qual : Str} {params : Arguments} {body : List Stmt} {scope : Scope} {f : Addr} {fd : FuncData} (F : FunD K x qual params body scope [] [] f fd) : ∃ (oc : Value) (od : Option Addr) (osl : Array (Option Value)), K.lookup f = some ⟨oc, od, .func fd, osl⟩ := by
  obtain ⟨oc, od, _, _, _, _, _, _, _, osl, _, l, _⟩ := F.ex
  exact ⟨oc, od, osl, l⟩
section
variable {P : Program} {w : World} {K : PySem.W.Frag} {mg : Str → Option Value} {base : Heap} {CX : CXT} {k : Nat} {x : Str} {ps : List Str} {sp sp' : Sp}
theorem Df.mono {j : Nat} (D : Df P w K mg base CX j x ps sp) (h : j ≤ k) : Df P w K mg base CX k x ps sp := by
  obtain ⟨f, fd, a, b, c, d⟩ := D
  exact ⟨f, fd, a, b.mono h, c, d⟩
theorem Df.imp (D : Df P w K mg base CX k x ps sp) (h : ∀ vs H Q E, sp' vs H Q E → sp vs H Q E) : Df P w K mg base CX k x ps sp' := by
  obtain ⟨f, fd, a, b, c, d⟩ := D
  exact ⟨f, fd, a, b.imp h, c, d⟩
/-- f(e, ..) -/
theorem pe_df {X : Cx} {e : Expr} {es : List Expr} {t : TA} {E : XK} {p pos : Pos} (D : Df X.prog X.w X.K X.mg X.base CX k x ps sp) (hr : Room k X.A) (hx : Passes CX X E) (ha : PA X (e :: es) t) (hg : Gl X x := by rfl) (hdb : (x == ("__debug__" : Str)) = false := by decide)
    (he : starEach (e :: es) X.env = (false, eval e X.env) :: starEach es X.env := by rfl) (hpl : (backTo pos (starEach es X.env)).any (·.1) = false := by rfl) : PE X (.Call (.Name x p) (e :: es) [] pos) (tCall sp [] E t) := by
  obtain ⟨f, fd, a, b, c, d⟩ := D
  exact pe_call b hr hg a c d.1 .nil hx ha hdb he hpl
theorem pe_df0 {X : Cx} {E : XK} {p pos : Pos} (D : Df X.prog X.w X.K X.mg X.base CX k x ps sp) (hr : Room k X.A) (hx : Passes CX X E) (hg : Gl X x := by rfl) (hdb : (x == ("__debug__" : Str)) = false := by decide) : PE X (.Call (.Name x p) [] [] pos) (tCall sp [] E tNil) := by
  obtain ⟨f, fd, a, b, c, d⟩ := D
  exact pe_call0 b hr hg a c d.1 .nil hx hdb
/-- a pure def of the text -/
theorem df_pure {i : Nat} {N : List Str} {α : Type} {enc : α → List PyData} {ok : α → Prop} {res : α → PyData → Prop} (A : At K mg x i) (S : FnScope N ps (defScope (top i))) (hj : ∀ a, (enc a).length = ps.length) (hN : ps.length ≤ N.length)
    (hb : ∀ (kV doc pm : Value) (an : Option Addr) (cdv ct : Value) (us : List Value), us.length = ps.length → bindArgs (PySem.W.fnOf x x (defArgs (top i)) (defBody (top i)) (defScope (top i)) .none kV doc pm an cdv ct) ⟨us, []⟩ = pure (ps.zip us))
    (body : ∀ (f : Addr) (cdv : Value) (A : Around) (outer : List Env) (s : Shared) (H : Hp) (E : XK) (C : Hp) (a : α), Room k (A.deeper (envOfC x (defScope (top i)) s.heap.objs.size f cdv)) → ok a →
      ∃ t, PSs (cxOf CX0 P w K mg base N x (defScope (top i)) f cdv A outer s H E).nox (defBody (top i)) t ∧
        ∀ (D : Ends) (σ : L2.St), (∀ v d H' rho mu T n σ', res a d → Holds ⟨K, none, C, H⟩ rho mu (AndV K T v (.dat d)) n σ' H' → D.rt v H') → Holds ⟨K, none, C, H⟩ (sl0 (enc a) (N.length - ps.length)) [] (fun _ => True) 0 σ H → t D σ H) :
    Df P w K mg base CX0 (k + 1) x ps (spP K enc ok res) := by
  obtain ⟨f, fd, a, F⟩ := A
  refine ⟨f, fd, a, ?_, F.kp, F.bindsN hb, look_of F⟩
  refine F.ok S (fun vs H Q E h => ?_) (fun cdv A outer s H vs Q E hr h => ?_)
  · obtain ⟨C, a, _, h2, _⟩ := h
    rw [h2.length, hj]
  · obtain ⟨C, a, h1, h2, h4, q⟩ := h
    obtain ⟨t, b1, b2⟩ := body f cdv A outer s H E C a hr h4
    exact ⟨t, PSs.nox b1, b2 _ _ (fun v d H' rho mu T n σ' hp hh => fin_pure hh hp q) (start_pure h1 h2 (by have := hj a; omega))⟩
/-- a def of the text that draws -/
theorem df_box {i cost : Nat} {N : List Str} {α : Type} {enc : α → List PyData} {ok : α → Prop} {res : α → PyData → Prop} (A : At K mg x i) (S : FnScope N ps (defScope (top i))) (hj : ∀ a, (enc a).length + 1 = ps.length) (hN : ps.length ≤ N.length)
    (hb : ∀ (kV doc pm : Value) (an : Option Addr) (cdv ct : Value) (us : List Value), us.length = ps.length → bindArgs (PySem.W.fnOf x x (defArgs (top i)) (defBody (top i)) (defScope (top i)) .none kV doc pm an cdv ct) ⟨us, []⟩ = pure (ps.zip us))
    (body : ∀ (f : Addr) (cdv : Value) (A : Around) (outer : List Env) (s : Shared) (H : Hp) (E : XK) (C : Hp) (a : α) (b : Addr), (∀ q, H b ≠ some (.dK q)) → Room k (A.deeper (envOfC x (defScope (top i)) s.heap.objs.size f cdv)) → ok a →
      ∃ t, PSs (cxOf CX0 P w K mg base N x (defScope (top i)) f cdv A outer s H E).nox (defBody (top i)) t ∧
        ∀ (n : Nat) (D : Ends) (σ : L2.St), (∀ v d H' rho mu T σ', res a d → Holds ⟨K, some b, C, H⟩ rho mu (AndV K T v (.dat d)) n σ' H' → D.rt v H') → Holds ⟨K, some b, C, H⟩ (.adr b :: sl0 (enc a) (N.length - ps.length)) [] (fun _ => True) (n + cost) σ H → t D σ H) :
    Df P w K mg base CX0 (k + 1) x ps (spB K cost enc ok res) := by
  obtain ⟨f, fd, a, F⟩ := A
  refine ⟨f, fd, a, ?_, F.kp, F.bindsN hb, look_of F⟩
  refine F.ok S (fun vs H Q E h => ?_) (fun cdv A outer s H vs Q E hr h => ?_)
  · obtain ⟨C, a, b, ws, n, rfl, _, _, _, h2, _⟩ := h
    rw [List.length_cons, h2.length, hj]
  · obtain ⟨C, a, b, ws, n, rfl, h1, hcb, hbx, h2, h4, q⟩ := h
    have nk : ∀ q, H b ≠ some (.dK q) := fun q e => by
      obtain ⟨x, y, z, e1, _⟩ := hbx
      rw [e1] at e
      cases e
    obtain ⟨t, b1, b2⟩ := body f cdv A outer s H E C a b nk hr h4
    refine ⟨t, PSs.nox b1, b2 n _ _ (fun v d H' rho mu T σ' hp hh => ?_) ?_⟩
    · obtain ⟨C', x, y, hv⟩ := hh
      exact q v C' H' d (fun z o ne e => (x.keep z o e).2 (by intro w; exact ne (Option.some.inj w).symm)) ((x.box b rfl).2.is nk) x.old x.sub (fun z o e => (x.keep z o e).1) hp hv
    · have l1 := hj a
      have l2 := h2.length
      refine ⟨C, ⟨h1, ?_, fun i s e ne => ?_, fun m hm => (by cases hm), List.nodup_nil, fun b' e => ?_, Same.refl C, fun z o e => ⟨rfl, fun _ => e⟩⟩, trivial⟩
      · rw [start_len (by rw [List.length_cons, l2]; omega)]
        unfold sl0
        rw [List.length_cons, List.length_append, List.length_map, List.length_replicate]
        omega
      · cases i with
        | zero =>
          have e' := Option.some.inj (show some (Sl.adr b) = some s from e)
          subst e'
          exact ⟨.ref b, start_get rfl, rfl⟩
        | succ i =>
          have e : (sl0 (enc a) (N.length - ps.length))[i]? = some s := e
          unfold sl0 at e
          by_cases hi : i < (enc a).length
          · rw [List.getElem?_append_left (by simpa using hi), List.getElem?_map] at e
            obtain ⟨d, g1, g2⟩ := Option.map_eq_some_iff.mp e
            obtain ⟨v, g3, g4⟩ := h2.get g1
            subst g2
            exact ⟨v, start_get (vs := .ref b :: ws) (i := i + 1) g3, g4⟩
          · rw [List.getElem?_append_right (by simpa using hi)] at e
            have z : s = .emp := by
              obtain ⟨g1, g2⟩ := List.getElem?_eq_some_iff.mp e
              rw [List.getElem_replicate] at g2
              exact g2.symm
            exact absurd z ne
      · have eb : b' = b := (Option.some.inj e).symm
        subst eb
        exact ⟨hcb, hbx.ok⟩
/-- no promise at all -/
theorem df_never {i : Nat} (A : At K mg x i) (hb : ∀ (kV doc pm : Value) (an : Option Addr) (cdv ct : Value) (us : List Value), us.length = ps.length → bindArgs (PySem.W.fnOf x x (defArgs (top i)) (defBody (top i)) (defScope (top i)) .none kV doc pm an cdv ct) ⟨us, []⟩ = pure (ps.zip us)) :
    Df P w K mg base CX k x ps (fun _ _ _ _ => False) := by
  obtain ⟨f, fd, a, F⟩ := A
  exact ⟨f, fd, a, ⟨fun _ _ _ _ h => h.elim, fun _ _ _ _ _ _ _ _ _ _ _ _ _ h => h.elim⟩, F.kp, F.bindsN hb, look_of F⟩
end
end K30
set_option Elab.async false
set_option linter.all false
set_option maxRecDepth 100000
set_option maxHeartbeats 2000000
/-! Walks over a sequence that is a list or a tuple: plain, by enumerate, two by zip in any mix. -/
namespace K30
open PySem PySem.Spec PyProof.Rows L2
/-- k: a list, else a tuple -/
def SqK (k : Bool) (K : PySem.W.Frag) (H : Hp) (a : Addr) (xs : List V) : Prop := match k with
  | true => SqL K H a xs
  | false => SqT K H a xs
def OnK (k : Bool) (h : Heap) (a : Addr) (items : Array Value) : Prop := match k with
  | true => h.IsList a items
  | false => h.IsTuple a items
def ItK (k : Bool) (h : Heap) (it a : Addr) (i : Nat) : Prop := match k with
  | true => h.IsListIter it a i
  | false => h.IsTupleIter it a i
def obK (k : Bool) (a : Addr) : Obj := match k with
  | true => { cls := .type "list_iterator", data := .fields #[.ref a, .int 0 0] }
  | false => { cls := .type "tuple_iterator", data := .fields #[.ref a, .int 0 0] }
theorem begK (k : Bool) (a : Addr) (items : Array Value) : Begins (.ref a) (obK k a) fun h => OnK k h a items := by
  cases k with
  | true => exact begins_list a items
  | false => exact begins_tuple a items
theorem drawK {prog : Program} {w : World} {A : Around} (hh : A.handled = none) (k : Bool) (it a : Addr) (hne : a ≠ it) (items : Array Value) :
    Draws prog w A it [it, a] items.size (fun i v => items[i]? = some v) (fun i h => ItK k h it a i ∧ OnK k h a items) := by
  cases k with
  | true => exact Draws.list hh it a hne items
  | false => exact Draws.tuple hh it a hne items
theorem itK_at {k : Bool} {h h' : Heap} {it a : Addr} {i : Nat} (x : ItK k h it a i) (e : ∀ o, h.get? it = some o → h'.get? it = some o) : ItK k h' it a i := by
  cases k with
  | true => exact Heap.IsListIter.at x e
  | false => exact Heap.IsTupleIter.at x e
theorem itK_get {k : Bool} {h : Heap} {it a : Addr} {i : Nat} (x : ItK k h it a i) : ∃ o, h.get? it = some o ∧ ∀ v, o.data ≠ .cell v := by
  cases k with
  | true =>
    have ⟨o, ho, _, hd⟩ := (show h.IsListIter it a i from x)
    exact ⟨o, ho, fun v q => by rw [hd] at q; cases q⟩
  | false =>
    have ⟨o, ho, _, hd⟩ := (show h.IsTupleIter it a i from x)
    exact ⟨o, ho, fun v q => by rw [hd] at q; cases q⟩
theorem itK_new {k : Bool} {h : Heap} {a it : Addr} (e : h.get? it = some (obK k a)) : ItK k h it a 0 := by
  cases k with
  | true => exact ⟨_, e, rfl, rfl⟩
  | false => exact ⟨_, e, rfl, rfl⟩
section
variable {X : Cx} {pins : List (Addr × Obj)} {σ : L2.St} {H : Hp} {s : Shared} {a : Addr} {xs ys : List V}
theorem onK_of {k : Bool} (I : Inv X pins σ H s) (h : SqK k X.K H a xs) : ∃ its : List Value, Vals xs its ∧ OnK k s.heap a its.toArray ∧ a < s.heap.objs.size := by
  cases k with
  | true =>
    obtain ⟨its, rv, p, _⟩ := I.list h
    exact ⟨its, rv, p.isList, p.lt⟩
  | false =>
    obtain ⟨its, rv, p, _⟩ := I.tuple h
    exact ⟨its, rv, (show s.heap.IsTuple a its.toArray from p), p.lt⟩
theorem sqK_inj {k : Bool} (I : Inv X pins σ H s) (h : SqK k X.K H a xs) (h' : SqK k X.K H a ys) : xs = ys := by
  cases k with
  | true => exact I.list_inj h h'
  | false => exact I.tuple_inj h h'
end
/-- an object that a heap holds and that is no cell lies below its size -/
theorem held_lt {h : Heap} {b : Addr} (x : ∃ o, h.get? b = some o ∧ ∀ v, o.data ≠ .cell v) : b < h.objs.size := by
  obtain ⟨_, q, _⟩ := x
  exact Heap.lt_size q
/-- p of each -/
def Each (p : Addr → Prop) : List Addr → Prop
  | [] => True
  | b :: l => p b ∧ Each p l
theorem Each.at {p : Addr → Prop} : ∀ {l : List Addr}, Each p l → ∀ b ∈ l, p b
  | _ :: _, h, _, .head _ => h.1
  | _ :: _, h, _, .tail _ m => h.2.at _ m
/-- addresses from the size on are free for an iterator's records -/
theorem above_ok {X : Cx} {pins : List (Addr × Obj)} {σ : L2.St} {H : Hp} {s : Shared} {l : List Addr} (I : Inv X pins σ H s) (h : Each (s.heap.objs.size ≤ ·) l) (b : Addr) (hb : b ∈ l) : FpOk X pins H b :=
  have z := h.at b hb
  I.fpOk z (I.hok.fresh z)
/-- a new tuple lies apart from an iterator's records -/
theorem apart_new {X : Cx} {pins : List (Addr × Obj)} {H : Hp} {n c : Addr} {u : HO} (h : FpOk X pins H c) (q : c < n) : upd H n u c = none :=
  (upd_ne (Nat.ne_of_lt q)).trans h.1
/-! ### plain -/
/-- for x in xs, xs a list or a tuple -/
def iSeq (K : PySem.W.Frag) (tl : TE) : TI := fun σ H R => tl σ H fun x H1 => ∃ a, x = .ref a ∧ (((∃ xs, SqL K H1 a xs) ∧ R (Itl K a) H1) ∨ ((∃ xs, SqT K H1 a xs) ∧ R (Itt K a) H1))
theorem pi_seq {X : Cx} {tg l : Expr} {tl : TE} (hl : PE X l tl) : PI X tg l (iSeq X.K tl) := by
  refine ⟨fun pins s σ H R I h => ?_⟩
  refine thn (hl.run pins s σ H _ I h) fun v s1 ⟨x, H1, I1, r1, a, ea, q⟩ => ?_
  subst ea
  cases r1
  have fp := above_ok (l := [s1.heap.objs.size]) I1 ⟨Nat.le_refl _, trivial⟩
  rcases q with ⟨⟨xs, hq⟩, q⟩ | ⟨⟨xs, hq⟩, q⟩
  · obtain ⟨its, rv, p, hz⟩ := I1.list hq
    exact wpAny_pyIter_list p.isList ⟨s1.heap.objs.size, _, _, _, H1, rfl, I1.kept (t' := s1.toks) fun b o e => Heap.get?_push_of_some _ e, turn_list a _, ⟨_, Heap.get?_push_size _ rfl, rfl, rfl⟩, fp, q⟩
  · obtain ⟨its, rv, p, hz⟩ := I1.tuple hq
    exact wpAny_pyIter_tuple (show s1.heap.IsTuple a its.toArray from p) ⟨s1.heap.objs.size, _, _, _, H1, rfl, I1.kept (t' := s1.toks) fun b o e => Heap.get?_push_of_some _ e, turn_tuple a _, ⟨_, Heap.get?_push_size _ rfl, rfl, rfl⟩, fp, q⟩
/-! ### enumerate -/
set_option maxHeartbeats 4000000 in
theorem meets_enum1 {v : Value} {o : Obj} {G : Heap → Prop} (Bg : Begins v o G) :
    Meets (Builtin.«enumerate.__new__» ⟨[.type "enumerate", v], []⟩) (fun _ R s => G s.heap ∧
      R (.ok (.ret (.ref (s.heap.push o).objs.size))) { s with heap := (s.heap.push o).push { cls := .type "enumerate", data := .fields #[.none, .bool false, .ref s.heap.objs.size, rawInt 0, .none, .none] } }) :=
  .of_wp fun prog w A R s h => by
    obtain ⟨hp, g, d, tk, os⟩ := s
    obtain ⟨h1, h⟩ := h
    have hsub := sub_enumerate
    have go {A1 : Around} {E1 Q1 : Value → Shared → Prop} : Q1 (.ref hp.objs.size) ⟨hp.push o, g, d, tk, os⟩ → wpAny (model prog w) A1 (pyIter v) Q1 E1 ⟨hp, g, d, tk, os⟩ := Bg.iter prog w _ _ ⟨hp, g, d, tk, os⟩ _ h1
    wp_walk using go
    refine wpAny_stack_any fun _ => wpAny_pure ?_
    split
    rename_i c _ _ _ _ _
    generalize (c == Value.type "enumerate") = same
    cases same
    all_goals
      wp_walk using go
      exact ⟨_, rfl, h⟩
theorem call_enum1 {prog : Program} {w : World} {A : Around} {E : Value → Shared → Prop} {s : Shared} {v : Value} {o : Obj} {G : Heap → Prop} {Q : Value → Shared → Prop} (Bg : Begins v o G) (h1 : G s.heap)
    (h : ∀ h', IsEnum h' (s.heap.objs.size + 1) s.heap.objs.size 0 .none → h'.get? s.heap.objs.size = some o → (∀ b o, s.heap.get? b = some o → h'.get? b = some o) → Q (.ref (s.heap.objs.size + 1)) { s with heap := h' }) :
    wpAny (model prog w) A (call (.type "enumerate") [v]) Q E s := by
  refine callType_new F.called_enumerate (by decide) (F.typeCall_enumerate_1 _) (F.newCall_enumerate_1 _) (fun obj => F.args_object_init_2 obj _) F.entry_enumerate_new (meets_enum1 Bg) ⟨h1, ?_⟩
  have cell := Heap.get?_push_size (s.heap.push o) (o := { cls := .type "enumerate", data := .fields #[.none, .bool false, .ref s.heap.objs.size, rawInt 0, .none, .none] }) rfl
  show _ ∧ _
  rw [Heap.size_push] at cell ⊢
  exact ⟨⟨_, cell, rfl⟩, h _ cell (Heap.get?_push_of_some _ (Heap.get?_push_size _ Bg.free)) fun _ _ x => Heap.get?_push_of_some _ (Heap.get?_push_of_some _ x)⟩
/-- the pairs of enumerate -/
def IteK (k : Bool) (K : PySem.W.Frag) (a : Addr) : It :=
  ⟨fun i H => ∃ (xs : List V) (x : V), SqK k K H a xs ∧ xs[i]? = some x, fun i H v H' => ∃ T x, v = .ref T ∧ H T = none ∧ H' = upd H T (.tup [.int (i : Nat), x]) ∧ ∀ xs, SqK k K H a xs → xs[i]? = some x, fun i H => ∃ xs : List V, SqK k K H a xs ∧ xs.length = i⟩
theorem enum_held {k : Bool} {h : Heap} {a e it : Addr} {i : Nat} {old : Value} (he : IsEnum h e it (i : Int) old) (hi : ItK k h it a i) (b : Addr) (hb : b ∈ [e, it]) : ∃ o, h.get? b = some o ∧ ∀ v, o.data ≠ .cell v := by
  rcases List.mem_cons.mp hb with rfl | hb
  · exact ⟨_, he, nofun⟩
  · cases List.mem_singleton.mp hb
    exact itK_get hi
theorem turn_enumK {P : Program} {w : World} {K : PySem.W.Frag} {elts : List Expr} {kk : Nat} {tpos : Pos} (k : Bool) (a e it : Addr) (hai : a ≠ it) (hae : e ≠ a) :
    Turn P w K (.Tuple elts kk tpos) (IteK k K a) [e, it] e (fun i h => (∃ old, IsEnum h e it ((i : Nat) : Int) old) ∧ ItK k h it a i ∧ e ≠ it) where
  mem := by simp
  obj := fun _ _ st => enum_held st.1.choose_spec st.2.1
  keep := fun i h h' st q => let ⟨⟨old, he⟩, hi, hne⟩ := st; ⟨⟨old, q e (by simp) _ he⟩, itK_at hi fun o z => q it (by simp) o z, hne⟩
  item := by
    intro X hP hw hK hc i pins s σ H E I hf st hg
    subst hP hw hK
    obtain ⟨⟨old, he⟩, hit, hne⟩ := st
    obtain ⟨xs, x, hq, hx⟩ := hg
    obtain ⟨its, rv, p, hlt⟩ := onK_of I hq
    obtain ⟨u, hu, ru⟩ := rv.get hx
    have hel : e < s.heap.objs.size := Heap.lt_size he
    have hil : it < s.heap.objs.size := (itK_get hit).elim fun o q => Heap.lt_size q.1
    have hi : i < its.toArray.size := by
      have := (List.getElem?_eq_some_iff.mp hu).1
      simpa using this
    refine wpAny_pyNext_enum_itemC (drawK (by exact I.ok.hd hc) k it a hai its.toArray) he ⟨hit, p⟩ hi hne (by simp only [List.mem_cons, List.not_mem_nil, or_false, not_or]; exact ⟨hne, hae⟩) fun x' h' tk hx' ho hit' hT hsz hk => ?_
    have ex : u = x' := by
      have h1 : its.toArray[i]? = some x' := hx'
      rw [show its.toArray[i]? = its[i]? by simp, hu] at h1
      exact Option.some.inj h1
    subst ex
    refine ⟨_, rfl, wpAny_letOwnedTupleGo_enum (s := { s with heap := h', toks := tk + 1 }) ho fun h2 he' sb => ?_⟩
    have hT2 : h2.get? s.heap.objs.size = some { cls := .type "tuple", data := .seq #[.int i tk, u] } := (sb.2 _ (Nat.ne_of_gt hel)).trans hT
    have new : ObjOk X.prog X.w (upd H s.heap.objs.size (.tup [.int (i : Nat), x])) h2 s.heap.objs.size (.tup [.int (i : Nat), x]) :=
      ⟨by show 2 ≤ sizeLine; decide, [.int i tk, u], .cons ⟨_, rfl⟩ (.cons ru .nil), ⟨_, hT2, rfl, _, rfl⟩⟩
    have I1 : Inv X pins σ (upd H s.heap.objs.size (.tup [.int (i : Nat), x])) { s with heap := h2, toks := tk + 1 } :=
      I.turnedNew (ch := [e, it]) (fun b ob hb q => (sb.2 b (fun z => hb (by simp [z]))).trans (hk b ob (fun z => hb (by simp [z])) (fun z => hb (by simp [z])) q)) hf (Nat.le_refl _) new
    refine ⟨.ref s.heap.objs.size, _, I1, rfl, ⟨_, x, rfl, I.hok.fresh (Nat.le_refl _), rfl, fun ys hy => by rw [sqK_inj I hy hq]; exact hx⟩, ⟨⟨u, ?_⟩, itK_at hit'.1 fun o q => (sb.2 it (Ne.symm hne)).trans q, hne⟩, fun b hb => ?_⟩
    · rw [show ((i + 1 : Nat) : Int) = (i : Int) + 1 by omega]
      exact he'
    · exact apart_new (hf b hb) (held_lt (enum_held he hit b hb))
  done := by
    intro X hP hw hK hc i pins s σ H E I hf st hg
    subst hP hw hK
    obtain ⟨⟨old, he⟩, hit, hne⟩ := st
    obtain ⟨xs, hq, hx⟩ := hg
    obtain ⟨its, rv, p, hlt⟩ := onK_of I hq
    obtain ⟨f0, f1, f2, f3, f4, f5⟩ := hf it (by simp)
    have hsz : its.toArray.size = i := by
      have := rv.length
      rw [List.size_toArray]
      omega
    exact wpAny_pyNext_enum_endD (drawK (by exact I.ok.hd hc) k it a hai its.toArray) he (by rw [hsz]; exact ⟨hit, p⟩) fun h' eb => ⟨rfl, I.turned (t' := s.toks) (fun b o hb q => eb b o hb q) f0 f1 f3 f4 f5⟩
  self := fun A i s Q E st h => let ⟨⟨_, he⟩, _⟩ := st; wpAny_pyIter_enum he h
/-- for i, x in enumerate(xs) -/
def iEnumS (K : PySem.W.Frag) (ta : TA) : TI := fun σ H R => ta σ H fun vs H1 => ∃ (k : Bool) (a : Addr) (xs : List V), vs = [.ref a] ∧ SqK k K H1 a xs ∧ R (IteK k K a) H1
theorem pi_enumS {X : Cx} {e : Expr} {ta : TA} {p pos tpos : Pos} {elts : List Expr} {kk : Nat} (hm : X.mg "enumerate" = none) (ha : PA X [e] ta) (hg : Gl X "enumerate" := by rfl) (hs : starEach [e] X.env = [(false, eval e X.env)] := by rfl) :
    PI X (.Tuple elts kk tpos) (.Call (.Name "enumerate" p) [e] [] pos) (iEnumS X.K ta) := by
  refine ⟨fun pins s σ H R I h => ?_⟩
  refine Call_ (ld_blt I hg hm boot_enumerate (PyProof.Rows.callWith_type1 (thn (ha.run pos pins s σ H _ I h) fun us s1 ⟨vs, H1, I1, r1, k, a, xs, ex, hq, q⟩ => ?_) hs rfl))
  subst ex
  cases r1 with
  | cons r rr =>
    cases rr
    cases r
    obtain ⟨its, rv, p', hlt⟩ := onK_of I1 hq
    refine call_enum1 (begK k a its.toArray) p' fun h' he hit hk => wpAny_pyIter_enum he ?_
    have I2 : Inv X pins σ H1 { s1 with heap := h' } := I1.kept (t' := s1.toks) hk
    refine ⟨s1.heap.objs.size + 1, [s1.heap.objs.size + 1, s1.heap.objs.size], _, _, H1, rfl, I2, turn_enumK k a (s1.heap.objs.size + 1) s1.heap.objs.size (Nat.ne_of_lt hlt) (Nat.ne_of_gt (Nat.lt_succ_of_lt hlt)), ⟨⟨.none, he⟩, itK_new hit, Nat.succ_ne_self _⟩, above_ok I1 ⟨Nat.le_add_right _ _, Nat.le_refl _, trivial⟩, q⟩
/-! ### zip -/
/-- the pairs of zip -/
def ItzK (k1 k2 : Bool) (K : PySem.W.Frag) (a b : Addr) : It :=
  ⟨fun i H => ∃ (xs ys : List V) (x y : V), SqK k1 K H a xs ∧ SqK k2 K H b ys ∧ xs[i]? = some x ∧ ys[i]? = some y,
    fun i H v H' => ∃ T x y, v = .ref T ∧ H T = none ∧ H' = upd H T (.tup [x, y]) ∧ (∀ xs, SqK k1 K H a xs → xs[i]? = some x) ∧ ∀ ys, SqK k2 K H b ys → ys[i]? = some y,
    fun i H => ∃ xs ys : List V, SqK k1 K H a xs ∧ SqK k2 K H b ys ∧ i ≤ xs.length ∧ i ≤ ys.length ∧ (i = xs.length ∨ i = ys.length)⟩
theorem zip_held {k1 k2 : Bool} {h : Heap} {a b z TI TO i1 i2 : Addr} {i : Nat} (st : IsZip h z TI TO .none ∧ IsTupOf2 h TI (.ref i1) (.ref i2) ∧ (∃ x y, IsTupOf2 h TO x y) ∧ ItK k1 h i1 a i ∧ ItK k2 h i2 b i) :
    ∀ c ∈ [z, TI, TO, i1, i2], ∃ o, h.get? c = some o ∧ ∀ v, o.data ≠ .cell v := by
  refine Each.at ⟨⟨_, st.1, nofun⟩, ⟨_, st.2.1, nofun⟩, ?_, itK_get st.2.2.2.1, itK_get st.2.2.2.2, trivial⟩
  obtain ⟨_, _, t⟩ := st.2.2.1
  exact ⟨_, t, nofun⟩
/-- what all five leave, the list of the five leaves -/
theorem five_keep {h h' : Heap} {z TI TO i1 i2 : Addr} (k : ∀ c o, c ≠ z → c ≠ TO → c ≠ i1 → c ≠ i2 → h.get? c = some o → h'.get? c = some o) (c : Addr) (o : Obj) (n : c ∉ [z, TI, TO, i1, i2]) : h.get? c = some o → h'.get? c = some o := by
  simp only [List.mem_cons, List.not_mem_nil, or_false, not_or] at n
  exact k c o n.1 n.2.2.1 n.2.2.2.1 n.2.2.2.2
theorem turn_zipK {P : Program} {w : World} {K : PySem.W.Frag} {elts : List Expr} {kk : Nat} {tpos : Pos} (k1 k2 : Bool) {a b z TI TO i1 i2 : Addr} (D : ZipSep2 z TI TO i1 i2 [i1, a] [i2, b]) (ha : a ≠ i1) (hb : b ≠ i2) :
    Turn P w K (.Tuple elts kk tpos) (ItzK k1 k2 K a b) [z, TI, TO, i1, i2] z (fun i h => IsZip h z TI TO .none ∧ IsTupOf2 h TI (.ref i1) (.ref i2) ∧ (∃ x y, IsTupOf2 h TO x y) ∧ ItK k1 h i1 a i ∧ ItK k2 h i2 b i) where
  mem := by simp
  obj := fun _ _ => zip_held
  keep := fun i h h' st q => by
    obtain ⟨hz, hTI, ⟨x, y, hTO⟩, h1, h2⟩ := st
    exact ⟨q z (by simp) _ hz, q TI (by simp) _ hTI, ⟨x, y, q TO (by simp) _ hTO⟩, itK_at h1 fun o e => q i1 (by simp) o e, itK_at h2 fun o e => q i2 (by simp) o e⟩
  item := by
    intro X hP hw hK hc i pins s σ H E I hf st hg
    subst hP hw hK
    have held := st
    obtain ⟨hz, hTI, ⟨_, _, hTO⟩, h1, h2⟩ := st
    obtain ⟨xs, ys, x, y, hqx, hqy, hx, hy⟩ := hg
    obtain ⟨its, rv, p, _⟩ := onK_of I hqx
    obtain ⟨its2, rv2, p2, _⟩ := onK_of I hqy
    obtain ⟨u, hu, ru⟩ := rv.get hx
    obtain ⟨u2, hu2, ru2⟩ := rv2.get hy
    have hzl : z < s.heap.objs.size := Heap.lt_size hz
    have n1 : i < its.toArray.size := by
      have := (List.getElem?_eq_some_iff.mp hu).1
      simpa using this
    have n2 : i < its2.toArray.size := by
      have := (List.getElem?_eq_some_iff.mp hu2).1
      simpa using this
    have zi1 : z ≠ i1 := fun q => D.zf1 (q ▸ D.mem1)
    have zi2 : z ≠ i2 := fun q => D.zf2 (q ▸ D.mem2)
    refine wpAny_pyNext_zipD2_item D (drawK (by exact I.ok.hd hc) k1 i1 a ha its.toArray) (drawK (by exact I.ok.hd hc) k2 i2 b hb its2.toArray) hz hTI hTO ⟨h1, p⟩ ⟨h2, p2⟩ n1 n2 fun x1 x2 h' tk y1 y2 z' TO' g1 g2 hT hsz hk => ?_
    have ex : u = x1 := by
      have q : its.toArray[i]? = some x1 := y1
      rw [show its.toArray[i]? = its[i]? by simp, hu] at q
      exact Option.some.inj q
    have ey : u2 = x2 := by
      have q : its2.toArray[i]? = some x2 := y2
      rw [show its2.toArray[i]? = its2[i]? by simp, hu2] at q
      exact Option.some.inj q
    subst ex ey
    refine ⟨_, rfl, wpAny_letOwnedTupleGo_zip (s := { s with heap := h', toks := tk }) z' fun h2' z'' sb => ?_⟩
    have hT2 : h2'.get? s.heap.objs.size = some { cls := .type "tuple", data := .seq #[u, u2] } := (sb.2 _ (Nat.ne_of_gt hzl)).trans hT
    have new : ObjOk X.prog X.w (upd H s.heap.objs.size (.tup [x, y])) h2' s.heap.objs.size (.tup [x, y]) :=
      ⟨by show 2 ≤ sizeLine; decide, [u, u2], .cons ru (.cons ru2 .nil), ⟨_, hT2, rfl, _, rfl⟩⟩
    have I1 : Inv X pins σ (upd H s.heap.objs.size (.tup [x, y])) { s with heap := h2', toks := tk } :=
      I.turnedNew (ch := [z, TI, TO, i1, i2]) (fun c o n q => (sb.2 c fun y => n (y ▸ .head _)).trans (five_keep hk c o n q)) hf (Nat.le_refl _) new
    refine ⟨.ref s.heap.objs.size, _, I1, rfl, ⟨_, x, y, rfl, I.hok.fresh (Nat.le_refl _), rfl, fun l hl => by rw [sqK_inj I hl hqx]; exact hx, fun l hl => by rw [sqK_inj I hl hqy]; exact hy⟩, ⟨z'', ?_, ⟨u, u2, ?_⟩, ?_, ?_⟩, fun c hcm => ?_⟩
    · exact (sb.2 _ D.TIz).trans (hk _ _ D.TIz D.TITO D.TIi1 D.TIi2 hTI)
    · exact (sb.2 _ D.TOz).trans TO'
    · exact itK_at g1.1 fun o q => (sb.2 _ (Ne.symm zi1)).trans q
    · exact itK_at g2.1 fun o q => (sb.2 _ (Ne.symm zi2)).trans q
    · exact apart_new (hf c hcm) (held_lt (zip_held held c hcm))
  done := by
    intro X hP hw hK hc i pins s σ H E I hf st hg
    subst hP hw hK
    obtain ⟨hz, hTI, ⟨x0, y0, hTO⟩, h1, h2⟩ := st
    obtain ⟨xs, ys, hqx, hqy, e1, e2, e3⟩ := hg
    obtain ⟨its, rv, p, _⟩ := onK_of I hqx
    obtain ⟨its2, rv2, p2, _⟩ := onK_of I hqy
    have l1 := rv.length
    have l2 := rv2.length
    refine wpAny_pyNext_zipD2_end D (drawK (by exact I.ok.hd hc) k1 i1 a ha its.toArray) (drawK (by exact I.ok.hd hc) k2 i2 b hb its2.toArray) hz hTI hTO ⟨h1, p⟩ ⟨h2, p2⟩ (by simp; omega) (by simp; omega) (by simp; omega) fun h' tk hk => ⟨rfl, I.turnedL (ch := [z, TI, TO, i1, i2]) (five_keep hk) hf⟩
  self := fun A i s Q E st h => wpAny_pyIter_zip st.1 h
/-- for x, y in zip(xs, ys) -/
def iZipS (K : PySem.W.Frag) (ta : TA) : TI := fun σ H R => ta σ H fun vs H1 => ∃ (k1 k2 : Bool) (a b : Addr) (xs ys : List V), vs = [.ref a, .ref b] ∧ SqK k1 K H1 a xs ∧ SqK k2 K H1 b ys ∧ R (ItzK k1 k2 K a b) H1
theorem pi_zipS {X : Cx} {e e2 : Expr} {ta : TA} {p pos tpos : Pos} {elts : List Expr} {kk : Nat} (hm : X.mg "zip" = none) (ha : PA X [e, e2] ta) (hg : Gl X "zip" := by rfl)
    (hs : starEach [e, e2] X.env = (false, eval e X.env) :: starEach [e2] X.env := by rfl) (hpl : (backTo pos (starEach [e2] X.env)).any (·.1) = false := by rfl) :
    PI X (.Tuple elts kk tpos) (.Call (.Name "zip" p) [e, e2] [] pos) (iZipS X.K ta) := by
  refine ⟨fun pins s σ H R I h => ?_⟩
  refine Call_ (ld_blt I hg hm PyProof.Rows.boot_zip (PyProof.Rows.callWith_type1 (thn (ha.run pos pins s σ H _ I h) fun us s1 ⟨vs, H1, I1, r1, k1, k2, a, b, xs, ys, ex, hqx, hqy, q⟩ => ?_) hs hpl))
  subst ex
  cases r1 with
  | cons r rr =>
    cases rr with
    | cons r' rr =>
      cases rr
      cases r
      cases r'
      obtain ⟨its, rv, p1, la⟩ := onK_of I1 hqx
      obtain ⟨its2, rv2, p2, lb⟩ := onK_of I1 hqy
      refine zip_begins2 (begK k1 a its.toArray) (begK k2 b its2.toArray) p1 p2 fun h' hz hTI hTO h1 h2 hsz hk => wpAny_pyIter_zip hz ?_
      have I2 : Inv X pins σ H1 { s1 with heap := h' } := I1.kept (t' := s1.toks) hk
      have sep : ZipSep2 (s1.heap.objs.size + 4) (s1.heap.objs.size + 2) (s1.heap.objs.size + 3) s1.heap.objs.size (s1.heap.objs.size + 1) [s1.heap.objs.size, a] [s1.heap.objs.size + 1, b] :=
        zip_sep2 (fp1 := [a]) (fp2 := [b]) (fun c hc => by rw [List.mem_singleton.mp hc]; exact la) (fun c hc => by rw [List.mem_singleton.mp hc]; exact lb)
      refine ⟨s1.heap.objs.size + 4, [s1.heap.objs.size + 4, s1.heap.objs.size + 2, s1.heap.objs.size + 3, s1.heap.objs.size, s1.heap.objs.size + 1], _, _, H1, rfl, I2, turn_zipK k1 k2 sep (Nat.ne_of_lt la) (Nat.ne_of_lt (Nat.lt_succ_of_lt lb)), ⟨hz, hTI, ⟨_, _, hTO⟩, itK_new h1, itK_new h2⟩, above_ok I1 ⟨Nat.le_add_right _ _, Nat.le_add_right _ _, Nat.le_add_right _ _, Nat.le_refl _, Nat.le_add_right _ _, trivial⟩, q⟩
/-! ### their readings over data -/
section
variable {B : Bx} {rho : List Sl} {c : Nat} {te : TE} {ta : TA} {ds es : List PyData} {d : PyData}
/-- the sequence that a value is -/
def SeqD (d : PyData) (ds : List PyData) : Prop := d = .list ds ∨ d = .tuple ds
theorem dt_seq {K : PySem.W.Frag} {C : Hp} {v : V} (h : Dt K C v d) (hd : SeqD d ds) : ∃ (k : Bool) (a : Addr) (xs : List V), v = .ref a ∧ DtAll K C xs ds ∧ ∀ H, Same C H → SqK k K H a xs := by
  rcases hd with e | e
  · subst e
    cases h with
    | @lst a xs _ h1 h2 => exact ⟨true, a, xs, rfl, h2, fun H s => SqL.of (s _ _ h1)⟩
  · subst e
    cases h with
    | @tup a xs _ h1 h2 => exact ⟨false, a, xs, rfl, h2, fun H s => sqT_up s h1⟩
/-- the source stands -/
def Src (k : Bool) (K : PySem.W.Frag) (a : Addr) (xs : List V) (ds : List PyData) : Hp → Prop := fun C => DtAll K C xs ds ∧ ∀ H, Same C H → SqK k K H a xs
theorem srcUp {k : Bool} {K : PySem.W.Frag} {a : Addr} {xs : List V} : Up (Src k K a xs ds) := fun C C' e h => ⟨DtAll.up e _ _ h.1, fun H s => h.2 H (e.trans s)⟩
theorem ew_seqR {S : List PyData → Prop} (h : EvR B c te rho (fun s => ∃ d ds, S ds ∧ SeqD d ds ∧ s = .dat d)) : EvW B c (iSeq B.K te) rho S := fun mu T m σ H u hh R q => h mu T m σ H u hh _ fun v H1 s ⟨d, ds, hS, hd, es⟩ h1 => by
  subst es
  obtain ⟨C, a0, b0, hv⟩ := h1
  obtain ⟨k, a, xs, rfl, h4, hq⟩ := dt_seq hv hd
  cases k with
  | true =>
    refine ⟨a, rfl, .inl ⟨⟨xs, hq H1 a0.sub⟩, q _ H1 (Src true B.K a xs ds) ds hS srcUp ⟨C, a0, b0, h4, hq⟩ fun rho' mu' T' m' σ' H' up hh' => ?_⟩⟩
    obtain ⟨C', a', b', h6, h5⟩ := hh'
    have sq : SqL B.K H' a xs := h5 H' a'.sub
    refine ⟨⟨xs, sq, by rw [h6.length]; exact Nat.le_refl _⟩, fun i d hd => ?_⟩
    obtain ⟨z, hz, hz2⟩ := h6.get hd
    refine ⟨⟨xs, z, sq, hz⟩, fun x H2 y => ?_⟩
    obtain ⟨e1, e2⟩ := y
    subst e1
    have e3 := e2 xs sq
    rw [hz] at e3
    have e4 := Option.some.inj e3
    subst e4
    exact ⟨C', a', ⟨b', h6, h5⟩, hz2⟩
  | false =>
    refine ⟨a, rfl, .inr ⟨⟨xs, hq H1 a0.sub⟩, q _ H1 (Src false B.K a xs ds) ds hS srcUp ⟨C, a0, b0, h4, hq⟩ fun rho' mu' T' m' σ' H' up hh' => ?_⟩⟩
    obtain ⟨C', a', b', h6, h5⟩ := hh'
    have sq : SqT B.K H' a xs := h5 H' a'.sub
    refine ⟨⟨xs, sq, by rw [h6.length]; exact Nat.le_refl _⟩, fun i d hd => ?_⟩
    obtain ⟨z, hz, hz2⟩ := h6.get hd
    refine ⟨⟨xs, z, sq, hz⟩, fun x H2 y => ?_⟩
    obtain ⟨e1, e2⟩ := y
    subst e1
    have e3 := e2 xs sq
    rw [hz] at e3
    have e4 := Option.some.inj e3
    subst e4
    exact ⟨C', a', ⟨b', h6, h5⟩, hz2⟩
theorem ew_seq (h : EvD B c te rho (.dat d)) (hd : SeqD d ds) : EvW B c (iSeq B.K te) rho (fun L => L = ds) := ew_seqR (h.imp fun s e => ⟨d, ds, rfl, hd, e⟩)
/-- a pair just made -/
theorem new_pair {K : PySem.W.Frag} {C : Hp} {p : Addr} {x y : V} {d e : PyData} (hp : C p = none) (h1 : Dt K C x d) (h2 : Dt K C y e) : Dt K (upd C p (.tup [x, y])) (.ref p) (.tuple [d, e]) :=
  .tup (.inl (.inl upd_same)) (.cons (Dt.up (same_new hp) _ _ h1) (.cons (Dt.up (same_new hp) _ _ h2) .nil))
def enumD (ds : List PyData) : List PyData := ds.zipIdx.map fun p => .tuple [.int (p.2 : Int), p.1]
theorem ew_enum (h : EvD B c te rho (.dat d)) (hd : SeqD d ds) : EvW B c (iEnumS B.K (tCons te tNil)) rho (fun L => L = enumD ds) := fun mu T m σ H u hh R q => h mu T m σ H u hh _ fun v H1 s e h1 => by
  have e' : s = .dat d := e
  subst e'
  obtain ⟨C, a0, b0, hv⟩ := h1
  obtain ⟨k, a, xs, rfl, h4, hq⟩ := dt_seq hv hd
  refine ⟨k, a, xs, rfl, hq H1 a0.sub, q _ H1 (Src k B.K a xs ds) (enumD ds) rfl srcUp ⟨C, a0, b0, h4, hq⟩ fun rho' mu' T' m' σ' H' up hh' => ?_⟩
  have hh2 := hh'
  obtain ⟨C', a', b', h6, h5⟩ := hh'
  have sq := h5 H' a'.sub
  refine ⟨⟨xs, sq, by rw [h6.length]; unfold enumD; simp⟩, fun i e he => ?_⟩
  have hi : ∃ d, ds[i]? = some d ∧ e = .tuple [.int (i : Int), d] := by
    unfold enumD at he
    rw [List.getElem?_map, List.getElem?_zipIdx] at he
    cases q : ds[i]? with
    | none => rw [q] at he; cases he
    | some d =>
      rw [q] at he
      have he := Option.some.inj he
      exact ⟨d, rfl, by rw [← he]; simp⟩
  obtain ⟨d, hd, rfl⟩ := hi
  obtain ⟨z, hz, hz2⟩ := h6.get hd
  refine ⟨⟨xs, z, sq, hz⟩, fun x H2 y => ?_⟩
  obtain ⟨p, x', e1, e2, e3, e4⟩ := y
  have e5 := e4 xs sq
  rw [hz] at e5
  have e6 := Option.some.inj e5
  subst e6 e1 e3
  exact ⟨upd C' p _, a'.cold e2 _, ⟨up _ _ (same_new (a'.free e2)) b', srcUp _ _ (same_new (a'.free e2)) ⟨h6, h5⟩⟩, new_pair (a'.free e2) (.int _) hz2⟩
def zipD (ds es : List PyData) : List PyData := (ds.zip es).map fun p => .tuple [p.1, p.2]
theorem ew_zip {c2 : Nat} {te2 : TE} {d2 : PyData} (h : EvD B c te rho (.dat d)) (hd : SeqD d ds) (h2 : EvD B c2 te2 rho (.dat d2)) (hd2 : SeqD d2 es) : EvW B (c + c2) (iZipS B.K (tCons te (tCons te2 tNil))) rho (fun L => L = zipD ds es) := fun mu T m σ H u hh R q =>
  h mu T (m + c2) σ H u (hh.le (by omega)) _ fun v H0 s e h0 => h2 mu _ m σ H0 u.andV h0 _ fun v2 H1 s2 e2 h1 => by
    have e' : s = .dat d := e
    have e2' : s2 = .dat d2 := e2
    subst e' e2'
    obtain ⟨C, a0, ⟨b0, hv⟩, hv2⟩ := h1
    obtain ⟨k, a, xs, rfl, h4, hq⟩ := dt_seq hv hd
    obtain ⟨k2, a2, ys, rfl, h42, hq2⟩ := dt_seq hv2 hd2
    refine ⟨k, k2, a, a2, xs, ys, rfl, hq H1 a0.sub, hq2 H1 a0.sub, q _ H1 (fun C => Src k B.K a xs ds C ∧ Src k2 B.K a2 ys es C) (zipD ds es) rfl (fun C C' e z => ⟨srcUp _ _ e z.1, srcUp _ _ e z.2⟩) ⟨C, a0, b0, ⟨h4, hq⟩, h42, hq2⟩ fun rho' mu' T' m' σ' H' up hh' => ?_⟩
    obtain ⟨C', a', b', ⟨h6, h5⟩, h62, h52⟩ := hh'
    have sq := h5 H' a'.sub
    have sq2 := h52 H' a'.sub
    have len : (zipD ds es).length = min ds.length es.length := by
      unfold zipD
      rw [List.length_map, List.length_zip]
    refine ⟨⟨xs, ys, sq, sq2, by rw [h6.length, len]; omega, by rw [h62.length, len]; omega, by rw [h6.length, h62.length, len]; omega⟩, fun i e he => ?_⟩
    have hi : ∃ d d', ds[i]? = some d ∧ es[i]? = some d' ∧ e = .tuple [d, d'] := by
      unfold zipD at he
      rw [List.getElem?_map] at he
      obtain ⟨p, hp, e1⟩ := Option.map_eq_some_iff.mp he
      obtain ⟨g1, g2⟩ := List.getElem?_zip_eq_some.mp hp
      exact ⟨p.1, p.2, g1, g2, e1.symm⟩
    obtain ⟨d, d', hd, hd', rfl⟩ := hi
    obtain ⟨z, hz, hz2⟩ := h6.get hd
    obtain ⟨z', hz', hz2'⟩ := h62.get hd'
    refine ⟨⟨xs, ys, z, z', sq, sq2, hz, hz'⟩, fun x H2 y => ?_⟩
    obtain ⟨p, x', y', e1, e2, e3, e4, e4'⟩ := y
    have e5 := e4 xs sq
    have e5' := e4' ys sq2
    rw [hz] at e5
    rw [hz'] at e5'
    have e6 := Option.some.inj e5
    have e6' := Option.some.inj e5'
    subst e6 e6' e1 e3
    exact ⟨upd C' p _, a'.cold e2 _, ⟨up _ _ (same_new (a'.free e2)) b', srcUp _ _ (same_new (a'.free e2)) ⟨h6, h5⟩, srcUp _ _ (same_new (a'.free e2)) ⟨h62, h52⟩⟩, new_pair (a'.free e2) hz2 hz2'⟩
/-- a text, sign by sign -/
theorem ew_str {x : Str} (h : EvD B c te rho (.dat (.str x))) : EvW B c (iStr te) rho (fun L => L = x.cps.toList.map fun q => .str ⟨#[q]⟩) := fun mu T m σ H u hh R q => h mu T m σ H u hh _ fun v H1 s e h1 => by
  have e' : s = .dat (.str x) := e
  subst e'
  obtain ⟨C, a0, b0, hv⟩ := h1
  cases hv
  refine ⟨x, rfl, q _ H1 (fun _ => True) _ rfl Up.tt ⟨C, a0, b0, trivial⟩ fun rho' mu' T' m' σ' H' up hh' => ⟨by simp [Its], fun i e he => ?_⟩⟩
  rw [List.getElem?_map] at he
  obtain ⟨c', h2, h3⟩ := Option.map_eq_some_iff.mp he
  rw [Array.getElem?_toList] at h2
  refine ⟨(Array.getElem?_eq_some_iff.mp h2).1, fun v H2 y => ?_⟩
  obtain ⟨e1, c2, h4, h5⟩ := y
  rw [h2] at h4
  have e2 := Option.some.inj h4
  subst e1 e2 h5 h3
  exact hh'.imp fun C z => ⟨z, .str _⟩
end
end K30
set_option Elab.async false
set_option linter.all false
set_option maxRecDepth 100000
set_option maxHeartbeats 2000000
/-! A small set (four items at most) of nested tuples: it is made, and what it holds is among what was put in. -/
namespace K30
open PySem PySem.Spec PyProof.Rows L2
/-- a tuple of numbers, texts and such tuples -/
def IsN (h : Heap) (k : NestedKey) (b : Addr) : Prop := NestedIs h k (.ref b) ∧ k.depth ≤ 6
section
variable {P : Program} {w : World} {A : Around} {E : Value → Shared → Prop} {s : Shared}
def NoCls (P : Program) (w : World) (n : Nat) (s : Shared) (v : Value) : Prop := ∀ (A : Around) (E : Value → Shared → Prop) (Q : Bool → Shared → Prop), Q false s → wpAny (model P w) A (ofAClassStatement n v) Q E s
theorem NoCls.tuple {n : Nat} {b : Addr} {o : Obj} {items : Array Value} {m : Nat} (ho : s.heap.get? b = some o) (hc : o.cls = .type "tuple") (hd : o.data = .seq items m) (all : ∀ v ∈ items.toList, NoCls P w n s v) : NoCls P w (n + 1) s (.ref b) := by
  intro A E Q fin
  have isT : s.TypeIs (.ref b) "tuple" := ⟨o, ho, hc⟩
  unfold ofAClassStatement
  refine wpAny_bind (wpAny_typeOf isT ?_)
  dsimp only
  simp only [show (("tuple" : String) == "tuple") = true from by decide, if_true, Bool.not_true, Bool.false_eq_true, if_false]
  try refine wpAny_bind (wpAny_pure ?_)
  try simp only [Bool.not_true, Bool.false_eq_true, if_false]
  show wpAny _ _ (seqItems? (.ref b) >>= _) _ _ _
  refine wpAny_bind (wpAny_seqItems ho hd (wpAny_bind ?_))
  show wpAny _ _ (forIn items _ _) _ _ _
  rw [← Array.forIn_toList]
  refine wpAny_forIn_list _ (fun l r s1 => r.1 = none ∧ s1 = s ∧ ∀ v ∈ l, NoCls P w n s v) _ (fun v l r s1 q => ?_) (fun r s1 q => ?_) _ _ ⟨rfl, rfl, all⟩
  · obtain ⟨q1, q2, q3⟩ := q
    subst q2
    refine wpAny_bind (q3 v List.mem_cons_self _ _ _ ?_)
    simp only [Bool.false_eq_true, if_false]
    exact wpAny_pure ⟨rfl, rfl, fun u hu => q3 u (List.mem_cons_of_mem _ hu)⟩
  · obtain ⟨r1, r2⟩ := r
    obtain ⟨q1, q2, _⟩ := q
    subst q2
    have q1 : r1 = none := q1
    subst q1
    exact wpAny_pure fin
mutual
theorem noCls : ∀ (k : NestedKey) (v : Value) (n : Nat) (s : Shared), NestedIs s.heap k v → k.depth ≤ n → NoCls P w n s v
  | .none, _, n, s, x, _ => by cases x; exact fun A E Q h => (by cases n <;> exact wpAny_pure h)
  | .num i, _, n, s, x, _ => by cases x <;> exact fun A E Q h => (by cases n <;> exact wpAny_pure h)
  | .text y, _, n, s, x, _ => by cases x; exact fun A E Q h => (by cases n <;> exact wpAny_pure h)
  | .tup ks, _, n, s, x, hn => by
    cases x with
    | tup hg hc hd hk =>
      simp only [NestedKey.depth] at hn
      match n, hn with
      | n + 1, hn => exact .tuple hg hc hd (noClsAll ks _ n s hk (by omega))
theorem noClsAll : ∀ (ks : List NestedKey) (vs : List Value) (n : Nat) (s : Shared), NestedAll s.heap ks vs → NestedKey.depthAll ks ≤ n → ∀ v ∈ vs, NoCls P w n s v
  | [], _, n, s, x, _, v, hv => by cases x; cases hv
  | k :: ks, _, n, s, x, hn, v, hv => by
    cases x with
    | cons x1 x2 =>
      simp only [NestedKey.depthAll] at hn
      rcases List.mem_cons.mp hv with e | hv
      · exact e ▸ noCls k _ n s x1 (by omega)
      · exact noClsAll ks _ n s x2 (by omega) v hv
end
/-- whether the hash is told by the value: some answer -/
def HashBy (P : Program) (w : World) (n : Nat) (s : Shared) (v : Value) : Prop := ∀ (A : Around) (E : Value → Shared → Prop) (Q : Bool → Shared → Prop), (∀ b, Q b s) → wpAny (model P w) A (hashByValue n v) Q E s
theorem HashBy.tuple {n : Nat} {b : Addr} {o : Obj} {items : Array Value} {m : Nat} (ho : s.heap.get? b = some o) (hc : o.cls = .type "tuple") (hd : o.data = .seq items m) (all : ∀ v ∈ items.toList, HashBy P w n s v) : HashBy P w (n + 1) s (.ref b) := by
  intro A E Q fin
  have isT : s.TypeIs (.ref b) "tuple" := ⟨o, ho, hc⟩
  unfold hashByValue
  refine wpAny_bind (wpAny_specialOf isT F.slot_tuple_hash.lookup ?_)
  show wpAny _ _ (seqItems? (.ref b) >>= _) _ _ _
  refine wpAny_bind (wpAny_seqItems ho hd (wpAny_bind ?_))
  show wpAny _ _ (forIn items _ _) _ _ _
  rw [← Array.forIn_toList]
  refine wpAny_forIn_list _ (fun l r s1 => s1 = s ∧ (r.1 = none ∨ ∃ b, r.1 = some b) ∧ ∀ v ∈ l, HashBy P w n s v) _ (fun v l r s1 q => ?_) (fun r s1 q => ?_) _ _ ⟨rfl, .inl rfl, all⟩
  · obtain ⟨q1, q2, q3⟩ := q
    subst q1
    refine wpAny_bind (q3 v List.mem_cons_self _ _ _ fun c => ?_)
    cases c with
    | true =>
      simp only [Bool.not_true, Bool.false_eq_true, if_false]
      exact wpAny_pure ⟨rfl, by first | exact .inl rfl | exact q2, fun u hu => q3 u (List.mem_cons_of_mem _ hu)⟩
    | false =>
      simp only [Bool.not_false, if_true]
      exact wpAny_pure (wpAny_pure (fin _))
  · obtain ⟨r1, r2⟩ := r
    obtain ⟨q1, q2, _⟩ := q
    subst q1
    rcases q2 with z | ⟨c, z⟩
    · have z : r1 = none := z
      subst z
      exact wpAny_pure (fin _)
    · have z : r1 = some c := z
      subst z
      exact wpAny_pure (fin _)
mutual
theorem hashBy : ∀ (k : NestedKey) (v : Value) (n : Nat) (s : Shared), NestedIs s.heap k v → k.depth ≤ n → HashBy P w n s v
  | .none, _, n, s, x, _ => by cases x; exact fun A E Q h => (by cases n <;> exact wpAny_pure (h _))
  | .num i, _, n, s, x, _ => by cases x <;> exact fun A E Q h => (by cases n <;> exact wpAny_pure (h _))
  | .text y, _, n, s, x, _ => by cases x; exact fun A E Q h => (by cases n <;> exact wpAny_pure (h _))
  | .tup ks, _, n, s, x, hn => by
    cases x with
    | tup hg hc hd hk =>
      simp only [NestedKey.depth] at hn
      match n, hn with
      | n + 1, hn => exact .tuple hg hc hd (hashByAll ks _ n s hk (by omega))
theorem hashByAll : ∀ (ks : List NestedKey) (vs : List Value) (n : Nat) (s : Shared), NestedAll s.heap ks vs → NestedKey.depthAll ks ≤ n → ∀ v ∈ vs, HashBy P w n s v
  | [], _, n, s, x, _, v, hv => by cases x; cases hv
  | k :: ks, _, n, s, x, hn, v, hv => by
    cases x with
    | cons x1 x2 =>
      simp only [NestedKey.depthAll] at hn
      rcases List.mem_cons.mp hv with e | hv
      · exact e ▸ hashBy k _ n s x1 (by omega)
      · exact hashByAll ks _ n s x2 (by omega) v hv
end
/-- a search shows nothing of the table -/
theorem unseen {k : NestedKey} {b : Addr} {Q : Bool → Shared → Prop} (hb : IsN s.heap k b) {ys : List Value} (hy : ∀ y ∈ ys, ∃ j c, y = Value.ref c ∧ IsN s.heap j c) (fin : Q false s) : wpAny (model P w) A (searchCouldBeSeen (.ref b) ys) Q E s := by
  unfold searchCouldBeSeen
  refine wpAny_bind (wpAny_forIn_list _ (fun l r s1 => r.1 = none ∧ s1 = s ∧ ∀ y ∈ l, ∃ j c, y = Value.ref c ∧ IsN s.heap j c) _ (fun v l r s1 q => ?_) (fun r s1 q => ?_) _ _ ⟨rfl, rfl, hy⟩)
  · obtain ⟨q1, q2, q3⟩ := q
    subst q2
    obtain ⟨j, c, ec, hc⟩ := q3 v List.mem_cons_self
    subst ec
    have more : ∀ y ∈ l, ∃ j c, y = Value.ref c ∧ IsN s1.heap j c := fun u hu => q3 u (List.mem_cons_of_mem _ hu)
    dsimp only
    by_cases hv : (b == c || (carriedByValue (.ref b) && carriedByValue (.ref c))) = true
    · exact wp_if_pos hv (wpAny_pure ⟨rfl, rfl, more⟩)
    · refine wp_if_neg hv ?_
      refine wpAny_bind (quiet_key k _ 8 s1 hb.1 (by have := hb.2; omega) _ _ _ ?_)
      simp only [Bool.not_true, Bool.false_eq_true, if_false]
      refine wpAny_bind (quiet_key j _ 8 s1 hc.1 (by have := hc.2; omega) _ _ _ ?_)
      simp only [Bool.not_true, Bool.false_eq_true, if_false]
      refine wpAny_bind (noCls k _ 8 s1 hb.1 (by have := hb.2; omega) _ _ _ ?_)
      simp only [Bool.false_eq_true, if_false]
      refine wpAny_bind (noCls j _ 8 s1 hc.1 (by have := hc.2; omega) _ _ _ ?_)
      simp only [Bool.false_eq_true, if_false]
      exact wpAny_pure ⟨rfl, rfl, more⟩
  · obtain ⟨r1, r2⟩ := r
    obtain ⟨q1, q2, _⟩ := q
    subst q2
    have q1 : r1 = none := q1
    subst q1
    exact wpAny_pure fin
end
/-! ### the table -/
abbrev Rows := List (Addr × NestedKey)
def rowsN (w : World) (L : Rows) : List (Int × Value) := L.map fun p => (p.2.hash w, Value.ref p.1)
structure SetN (w : World) (h : Heap) (a : Addr) (L : Rows) (es : Array (Int × Value)) (ep : Nat) (t : SetTable) : Prop where
  ob : ∃ o, h.get? a = some o ∧ o.ExactSet ∧ o.data = .set es ep t
  rows : es.toList = rowsN w L
  tab : TabOk t (L.map fun p => p.2.hash w)
  keys : ∀ p ∈ L, IsN h p.2 p.1
  led : w.params.followText "set-order" = true ∨ t.led = true
  mask : t.mask = 7
  few : L.length ≤ 3
section
variable {P : Program} {w : World} {A : Around} {E : Value → Shared → Prop} {s : Shared} {a : Addr} {L : Rows} {es : Array (Int × Value)} {ep : Nat} {t : SetTable}
theorem SetN.len (R : SetN w s.heap a L es ep t) : es.size = L.length := by
  rw [← Array.length_toList, R.rows]
  exact List.length_map ..
theorem SetN.fits (R : SetN w s.heap a L es ep t) : t.fits es.size = true := by
  have h1 : t.place.size = L.length := R.tab.sz.trans (List.length_map ..)
  have h2 := R.len
  have h3 := R.few
  have h4 := R.mask
  unfold SetTable.fits SetTable.fill
  rw [R.tab.dm, h1, h2, h4]
  simp
  omega
theorem SetN.ent (R : SetN w s.heap a L es ep t) {i : Nat} {p : Addr × NestedKey} (h : L[i]? = some p) : es[i]? = some (p.2.hash w, Value.ref p.1) := by
  rw [← Array.getElem?_toList, R.rows, rowsN, List.getElem?_map, h]
  rfl
theorem nth_dummy (m : Nat) : ∀ (n : Nat) (p : SetTable.Probe), p.dummy = none → (nth m p n).dummy = none
  | 0, _, h => h
  | n + 1, p, h => nth_dummy m n (adv m p) (by unfold adv; split <;> exact h)
/-- the search: it ends at an equal item, or at the first empty slot of the way -/
theorem seekN (R : SetN w s.heap a L es ep t) {x : Addr} {k : NestedKey} (hx : IsN s.heap k x) (hu : A.units + 10 < cLine) (h : Int) {K : Nat} (hKf : K < 10 * SetTable.turns t.mask) (hK : way t.mask h K ∉ t.place.toList) (hKb : ∀ c, c < K → way t.mask h c ∈ t.place.toList)
    {Q : SetFound → Shared → Prop} (hin : Q (.there none) s) (hout : Q (.free (way t.mask h K) false) s) :
    ∀ (f c : Nat) (at' : Option SetTable.Probe), at'.getD (t.probeStart h) = nth t.mask (runAt t.mask (SetTable.bits h % (t.mask + 1)) (SetTable.bits h)) c → c ≤ K → K - c < f → wpAny (model P w) A (setSearchFrom a (.ref x) h true f at') Q E s
  | 0, c, at', _, _, hf => absurd hf (Nat.not_lt_zero _)
  | f + 1, c, at', hst, hc, hf => by
    obtain ⟨o, ho, hex, hd⟩ := R.ob
    obtain ⟨st, hs⟩ : ∃ st, st = runAt t.mask (SetTable.bits h % (t.mask + 1)) (SetTable.bits h) := ⟨_, rfl⟩
    have wy : ∀ n, way t.mask h n = (nth t.mask st n).j := fun n => by rw [hs]
    rw [← hs] at hst
    have dn : (nth t.mask st c).dummy = none := nth_dummy _ _ _ (by rw [hs]; rfl)
    have sh : ∀ q, nth t.mask (nth t.mask st c) q = nth t.mask st (c + q) := fun q => (nth_add t.mask c _ q).symm
    have jw : ∀ q, (nth t.mask (nth t.mask st c) q).j = way t.mask h (c + q) := fun q => by rw [wy, sh]
    rw [setSearchFrom_succ]
    refine wpAny_bind (wpAny_setState_of ho hd R.fits ?_)
    dsimp only
    refine wp_if_neg (by unfold SetTable.gaveWay; rw [R.mask]; decide) ?_
    try refine wpAny_bind (wpAny_pure ?_)
    have spec := go_spec t R.tab.ris R.tab.dm (fun i => (es[i]?.map (·.1)).getD 0) h (10 * SetTable.turns t.mask) (K - c) _ dn (by omega) (fun q hq => by rw [jw]; exact hKb _ (by omega)) (by rw [jw, show c + (K - c) = K by omega]; exact hK)
    rcases spec with ⟨q, i, hq, hi, _, _, hpr⟩ | ⟨_, hpr⟩
    · have hpr2 : t.probe (fun i => (es[i]?.map (·.1)).getD 0) h (at'.getD (t.probeStart h)) = some (.candidate (way t.mask h (c + q)) i (nth t.mask st (c + (q + 1)))) := by
        rw [hst, ← jw, ← sh]
        exact hpr
      rw [hpr2]
      dsimp only
      rw [jw] at hi
      have hil : i < L.length := by
        have z := (List.getElem?_eq_some_iff.mp hi).1
        rw [Array.length_toList, R.tab.sz, List.length_map] at z
        exact z
      obtain ⟨p, hp⟩ : ∃ p, L[i]? = some p := ⟨_, List.getElem?_eq_getElem hil⟩
      have hpk := R.keys p (List.mem_of_getElem? hp)
      have go : wpAny (model P w) A (searchRest a (.ref x) h true f es t (way t.mask h (c + q)) i (nth t.mask st (c + (q + 1)))) Q E s := by
        unfold searchRest
        rw [R.ent hp]
        dsimp only
        refine wpAny_bind (wpAny_holding (eqAt_key p.2 k A s _ _ hpk.1 hx.1 (by have h1 := hpk.2; have h2 : min p.2.depth k.depth ≤ p.2.depth := Nat.min_le_left _ _; omega) _ _ _ _ ?_))
        refine wpAny_bind (wpAny_setState_of ho hd R.fits ?_)
        dsimp only
        cases hkk : NestedKey.beq p.2 k with
        | true => exact wp_if_pos rfl (wpAny_pure hin)
        | false =>
          refine wp_if_neg (by decide) ?_
          try refine wpAny_bind (wpAny_pure ?_)
          rw [sameMem]
          have hsl : t.slot (way t.mask h (c + q)) = .live i := slot_live R.tab.ris hi
          dsimp only
          simp only [if_true, hsl, R.ent hp]
          refine wpAny_bind (wpAny_isSame_ref_self (wpAny_bind (wpAny_pure ?_)))
          simp only [if_true]
          refine wp_if_neg (by decide) ?_
          exact seekN R hx hu h hKf hK hKb hin hout f (c + (q + 1)) _ (by rw [← hs]; rfl) (by omega) (by omega)
      by_cases hl : t.led = true
      · refine wp_if_neg (by rw [hl]; decide) ?_
        try refine wpAny_bind (wpAny_pure ?_)
        exact go
      · refine wp_if_pos (by simpa using hl) ?_
        refine wpAny_bind (unseen hx (fun y hy => ?_) ?_)
        · obtain ⟨e, he, ee⟩ := List.mem_map.mp hy
          have he2 : e ∈ es.toList := by
            have z : e ∈ es ∧ e.1 = h := by simpa using he
            simpa using z.1
          rw [R.rows] at he2
          obtain ⟨p2, m2, e2⟩ := List.mem_map.mp he2
          exact ⟨p2.2, p2.1, by rw [← ee, ← e2], R.keys p2 m2⟩
        · refine wp_if_neg (by decide) ?_
          try refine wpAny_bind (wpAny_pure ?_)
          exact go
    · have hpr2 : t.probe (fun i => (es[i]?.map (·.1)).getD 0) h (at'.getD (t.probeStart h)) = some (.empty (way t.mask h K) none) := by
        have e2 : way t.mask h K = (nth t.mask (nth t.mask st c) (K - c)).j := by rw [jw, show c + (K - c) = K by omega]
        rw [hst, e2]
        exact hpr
      rw [hpr2]
      exact wpAny_pure hout
theorem findN (R : SetN w s.heap a L es ep t) {x : Addr} {k : NestedKey} (hx : IsN s.heap k x) (hu : A.units + 10 < cLine) (h : Int) {Q : SetFound → Shared → Prop} (hin : Q (.there none) s)
    (hout : ∀ K, way t.mask h K ∉ t.place.toList → (∀ c, c < K → way t.mask h c ∈ t.place.toList) → Q (.free (way t.mask h K) false) s) : wpAny (model P w) A (setSearch a (.ref x) h true) Q E s := by
  obtain ⟨K, h1, h2, h3⟩ := R.tab.first (by rw [List.length_map, R.mask]; have := R.few; omega) h
  have hbig : K < 100000 := by
    rw [R.mask] at h1
    exact Nat.lt_of_lt_of_le h1 (by decide)
  exact seekN R hx hu h h1 h2 h3 hin (hout K h2 h3) 100000 0 none rfl (Nat.zero_le _) (by omega)
theorem isN_same {h h' : Heap} {k : NestedKey} {b : Addr} {o : Obj} (hb : IsN h k b) (ho : h.get? a = some o) (hd : o.data = .set es ep t) (hs : Heap.SameBut a h h') : IsN h' k b :=
  ⟨NestedIs.at (fun c oc vs n hc hdc => (hs.2 c fun e => by
    subst e
    rw [ho] at hc
    cases hc
    rw [hd] at hdc
    cases hdc).trans hc) k _ hb.1, hb.2⟩
theorem tab_plain {t : SetTable} {hs : List Int} (T : TabOk t hs) (b : Bool) : TabOk { t with plain := b } hs := ⟨T.ris, T.dm, T.sz, T.mok, T.bd, T.reach⟩
/-- one item is put in -/
theorem addN (R : SetN w s.heap a L es ep t) {x : Addr} {k : NestedKey} (hx : IsN s.heap k x) (hu : A.units + 10 < cLine) (hfew : L.length ≤ 2) {Q : Bool → Shared → Prop}
    (fin : ∀ b h' L' es' ep' t', Heap.SameBut a s.heap h' → SetN w h' a L' es' ep' t' → (∀ p ∈ L', p = (x, k) ∨ p ∈ L) → L'.length ≤ L.length + 1 → Q b { s with heap := h' }) : wpAny (model P w) A (setAddHashed a (.ref x) (k.hash w)) Q E s := by
  obtain ⟨o, ho, hex, hd⟩ := R.ob
  unfold setAddHashed
  rw [show (100000 : Nat) = 99999 + 1 from rfl, setAddHashedIn_succ]
  refine wpAny_holding (wpAny_bind (wpAny_setState_of ho hd R.fits ?_))
  dsimp only
  refine wp_if_neg (by simp [byScan, Value.scannable]) ?_
  try refine wpAny_bind (wpAny_pure ?_)
  refine wpAny_bind (findN R hx hu _ ?_ fun K hK hb => ?_)
  · exact wpAny_pure (fin false s.heap L es ep t (Heap.SameBut.refl a s.heap) R (fun _ h => .inr h) (Nat.le_succ _))
  · dsimp only
    refine wpAny_bind (wpAny_setState_of ho hd R.fits ?_)
    dsimp only
    obtain ⟨q1, q2, q3, q4, q5, _, _, _, q9⟩ := R.tab.put hK hb
    rw [List.length_map] at q9 q2
    generalize t.put (way t.mask (k.hash w) K) = pt at q1 q3 q4 q5 q9 ⊢
    obtain ⟨t1, p⟩ := pt
    dsimp only at q1 q3 q4 q5 q9 ⊢
    subst q1
    generalize SetTable.below t.place (way t.mask (k.hash w) K) = p at q2 q3 ⊢
    have pm : (L.take p ++ (x, k) :: L.drop p).Perm ((x, k) :: L) := put_perm L p (x, k)
    have hes : (SetTable.insertAt es p (k.hash w, Value.ref x)).toList = rowsN w (L.take p ++ (x, k) :: L.drop p) := by
      rw [SetTable.toList_insertAt, R.rows]
      unfold rowsN
      rw [List.map_append, List.map_cons, List.map_take, List.map_drop]
    have hhs : (L.take p ++ (x, k) :: L.drop p).map (fun p => p.2.hash w) = (L.map fun p => p.2.hash w).take p ++ k.hash w :: (L.map fun p => p.2.hash w).drop p := by
      rw [List.map_append, List.map_cons, List.map_take, List.map_drop]
    rw [← hhs] at q3
    generalize SetTable.insertAt es p (k.hash w, Value.ref x) = es1 at hes ⊢
    generalize L.take p ++ (x, k) :: L.drop p = L1 at pm hes q3
    have hl1 : L1.length = L.length + 1 := pm.length_eq
    have hsz : es1.size = L1.length := by
      rw [← Array.length_toList, hes]
      exact List.length_map ..
    have last : ∀ t2 : SetTable, TabOk t2 (L1.map fun p => p.2.hash w) → t2.mask = 7 → (w.params.followText "set-order" = true ∨ t2.led = true) → t2.fill = L.length + 1 →
        wpAny (model P w) A (do
          storeSet a es1 t2
          if !false && t2.tooFull then setRelay a (SetTable.grown (es.size + 1))
          return true) Q E s := by
      intro t2 T2 m2 l2 f2
      refine wpAny_bind (wpAny_storeSet_of ho hd ?_ (by rw [hsz, hl1, sizeLine_eq]; omega))
      have sb : Heap.SameBut a s.heap (s.heap.update a (Obj.putSet es1 t2)) := Heap.SameBut.update ..
      have nf : ¬ t2.tooFull = true := by
        unfold SetTable.tooFull
        rw [f2, m2, decide_eq_true_eq]
        omega
      have R2 : SetN w (s.heap.update a (Obj.putSet es1 t2)) a L1 es1 (ep + 1) t2 := ⟨⟨_, store_at ho hd, ⟨hex.1, hex.2.1, hex.2.2⟩, rfl⟩, hes, T2, fun p hp => by
        rcases List.mem_cons.mp (pm.mem_iff.mp hp) with e | m
        · rw [e]
          exact isN_same hx ho hd sb
        · exact isN_same (R.keys p m) ho hd sb, l2, m2, by omega⟩
      have done := fin true _ L1 es1 (ep + 1) t2 sb R2 (fun p hp => List.mem_cons.mp (pm.mem_iff.mp hp)) (by omega)
      first
        | exact wp_if_neg (by simp [nf]) (wpAny_pure done)
        | (refine wpAny_bind ?_; exact wp_if_neg (by simp [nf]) (wpAny_pure (wpAny_pure done)))
    have T1 : t1.mask = 7 := q4.trans R.mask
    have L1' : w.params.followText "set-order" = true ∨ t1.led = true := by rw [q5]; exact R.led
    by_cases hp1 : t1.plain = true
    · first
        | (refine wpAny_bind ?_; refine wp_if_pos hp1 ?_; refine hashBy k _ 8 s hx.1 (by have := hx.2; omega) _ _ _ fun c => ?_)
        | refine wp_if_pos hp1 (wpAny_bind (hashBy k _ 8 s hx.1 (by have := hx.2; omega) _ _ _ fun c => ?_))
      cases c with
      | true =>
        simp only [if_true]
        exact last t1 q3 T1 L1' q9
      | false =>
        simp only [Bool.false_eq_true, if_false]
        exact last { t1 with plain := false } (tab_plain q3 _) T1 L1' q9
    · first
        | (refine wpAny_bind ?_; refine wp_if_neg hp1 ?_; refine wpAny_pure ?_)
        | refine wp_if_neg hp1 (wpAny_bind (wpAny_pure ?_))
      simp only [if_true]
      exact last t1 q3 T1 L1' q9
end
end K30
set_option Elab.async false
set_option linter.all false
set_option maxRecDepth 100000
set_option maxHeartbeats 2000000
/-! sorted(..) of tuples, empty ones among them: a new list of the same tuples, in some order. -/
namespace K30
open PySem PySem.Spec PyProof.Rows L2 PySem.W PySem.SeqAt
mutual
/-- no list, no dict in it -/
def plainD : PyData → Bool
  | .list _ => false
  | .dict _ => false
  | .tuple l => plainDs l
  | _ => true
def plainDs : List PyData → Bool
  | [] => true
  | d :: l => plainD d && plainDs l
end
mutual
theorem reads_nil {h : Heap} : ∀ (d : PyData) (v : Value) (as : List Addr), plainD d = true → Reads h v d as → as = []
  | .none, _, _, _, r => by cases r; rfl
  | .bool _, _, _, _, r => by cases r; rfl
  | .int _, _, _, _, r => by cases r; rfl
  | .str _, _, _, _, r => by cases r; rfl
  | .list _, _, _, p, _ => by cases p
  | .dict _, _, _, p, _ => by cases p
  | .tuple l, _, _, p, r => by
    cases r with
    | tuple _ _ _ r4 => exact readsAll_nil l _ _ p r4
theorem readsAll_nil {h : Heap} : ∀ (ds : List PyData) (vs : List Value) (as : List Addr), plainDs ds = true → ReadsAll h vs ds as → as = []
  | [], _, _, _, r => by cases r; rfl
  | d :: ds, _, _, p, r => by
    have p : (plainD d && plainDs ds) = true := p
    rw [Bool.and_eq_true] at p
    cases r with
    | cons r1 r2 => rw [reads_nil d _ _ p.1 r1, readsAll_nil ds _ _ p.2 r2, List.nil_append]
end
/-- the tuples that are sorted together -/
structure Fam (F : PyData → Prop) : Prop where
  tup : ∀ d, F d → ∃ l, d = .tuple l
  alike : ∀ d e, F d → F e → PySem.W.alike d e = true
  plain : ∀ d, F d → plainD d = true
  deep : ∀ d, F d → d.depth ≤ 4
def InF (F : PyData → Prop) (h : Heap) (v : Value) : Prop := ∃ d, F d ∧ Reads h v d []
section
variable {P : Program} {w : World} {A : Around} {E : Value → Shared → Prop} {s : Shared} {F : PyData → Prop}
theorem inF_keep {h h' : Heap} {a : Addr} (G : Fam F) (k : ∀ b o, b ≠ a → h.get? b = some o → h'.get? b = some o) (ha : ∀ o, h.get? a = some o → o.cls = .type "list") {v : Value} (x : InF F h v) : InF F h' v := by
  obtain ⟨d, hd, r⟩ := x
  exact ⟨d, hd, Reads.keepBut k ha d v [] (G.alike d d hd hd) r (by simp)⟩
theorem oneLt_tupleB {xs ys : List PyData} {a b : Value} {Q : Bool → Shared → Prop} (ra : Reads s.heap a (.tuple xs) []) (rb : Reads s.heap b (.tuple ys) []) (h : alikeAll xs ys = true) (hu : A.units + (PyData.tuple xs).depth < cLine) (hq : Q (firstLt (pairEq xs ys) (fun j => dataLt (xs.getD j .none) (ys.getD j .none)) (decide (xs.length < ys.length)) (List.range (min xs.length ys.length))) s) : wpAny (model P w) A (oneLt' true a b) Q E s := by
  have hu2 : A.units + min (PyData.tuple xs).depth (PyData.tuple ys).depth < cLine := by have := Nat.min_le_left (PyData.tuple xs).depth (PyData.tuple ys).depth; omega
  generalize hem : ([] : List Addr) = em at ra rb
  cases ra with
  | @tuple l o vs n _ as1 h1 h2 h3 h4 =>
    cases rb with
    | @tuple l2 o2 vs2 n2 _ bs1 k1 k2 k3 k4 =>
      obtain ⟨cls, dd, data, sl⟩ := o
      obtain ⟨cls2, dd2, data2, sl2⟩ := o2
      simp only at h2 h3 k2 k3
      subst h2 h3 k2 k3
      rw [oneLt'_eq]
      simp only [if_true]
      refine wpAny_bind (wpAny_cRoomFor (room_here hu2) ?_)
      refine wpAny_bind (wpAny_callSpecialIfBound?_slot (T := "tuple") ⟨_, h1, rfl⟩ F.slot_tuple_lt (call_meets F.slot_tuple_lt ⟨_, h1, rfl⟩ F.entry_tuple_lt (F.args_tuple_lt_2 _ _)
        (tuple_ltAt l l2 vs vs2 n n2 dd dd2 sl sl2 (pairEq xs ys) fun j => dataLt (xs.getD j .none) (ys.getD j .none)) ⟨h1, k1, fun j j1 j2 => ?_, fun j j1 j2 hj => ?_, ?_⟩))
      · have := eqAt_alikeAll xs ys A.in1 s vs.toList vs2.toList _ _ h4 k4 h (room_in hu2) j (by simpa using j1) (by simpa using j2)
        simpa using this
      · have := rcLt_alikeAll xs ys A.in1 s vs.toList vs2.toList _ _ h4 k4 h (room_in hu2) j (by simpa using j1) (by simpa using j2) hj
        simpa using this
      · have n1 : vs.size = xs.length := by simpa using ReadsAll.length _ _ _ h4
        have n2 : vs2.size = ys.length := by simpa using ReadsAll.length _ _ _ k4
        rw [n1, n2]
        exact wpAny_truthy_bool hq
theorem firstT {v : Value} {l : List PyData} {Q : Option Value → Shared → Prop} (r : Reads s.heap v (.tuple l) []) (hq : ∀ o : Option Value, o.isSome = !l.isEmpty → Q o s) : wpAny (model P w) A (firstOfTuple' v) Q E s := by
  generalize hem : ([] : List Addr) = em at r
  cases r with
  | @tuple a o xs n _ as1 h1 h2 h3 h4 =>
    rw [kas_first_eq]
    refine wpAny_bind (Looks.here (show Looks _ s.heap (typeOf (.ref a)) o.cls from (Looks.ld h1).andThen .now) ?_)
    rw [h2, if_neg (by first | decide | simp)]
    refine wpAny_bind (listItems_at h1 h3 (wpAny_pure (hq _ ?_)))
    have e := SeqAt.ReadsAll.length _ _ _ h4
    rw [Array.length_toList] at e
    cases l with
    | nil =>
      have z : xs.size = 0 := e
      rw [Array.getElem?_eq_none (by omega)]
      rfl
    | cons x l =>
      have z : xs.size = l.length + 1 := e
      rw [Array.getElem?_eq_getElem (by omega)]
      rfl
theorem firstsT : ∀ {vs : List Value} {ls : List (List PyData)} {Q : List (Option Value) → Shared → Prop}, EachIs (fun v l => Reads s.heap v (.tuple l) []) vs ls → (∀ fs : List (Option Value), fs.map (·.isSome) = ls.map (!·.isEmpty) → Q fs s) → wpAny (model P w) A (vs.mapM firstOfTuple') Q E s
  | _, _, Q, .nil, hq => by
    rw [List.mapM_nil]
    exact wpAny_pure (hq [] rfl)
  | v :: vs, l :: ls, Q, .cons r t, hq => by
    rw [List.mapM_cons]
    refine wpAny_bind (firstT r fun o ho => wpAny_bind (firstsT t fun fs hf => wpAny_pure (hq (o :: fs) ?_)))
    rw [List.map_cons, List.map_cons, ho, hf]
/-- the kind of the keys where an empty tuple is among them -/
theorem kindT {v : Value} {vs : List Value} {l : List PyData} {ls : List (List PyData)} (r : Reads s.heap v (.tuple l) []) (t : EachIs (fun v l => Reads s.heap v (.tuple l) []) vs ls) (he : ∃ x ∈ l :: ls, x = []) {Q : SortKind → Shared → Prop}
    (hq : Q (if l = [] then oneType' else general') s) : wpAny (model P w) A (keyKind' (v :: vs).toArray) Q E s := by
  rw [keyKind'_eq, List.mapM_toArray, map_eq_pure_bind]
  refine wpAny_bind (wpAny_bind (firstsT (.cons r t) fun fs hf => wpAny_pure ?_))
  have notAll : ¬ (fs.toArray.all fun x => x.isSome) = true := by
    intro z
    obtain ⟨x, hx, e⟩ := he
    have m : (!x.isEmpty) ∈ fs.map (·.isSome) := by
      rw [hf]
      exact List.mem_map.mpr ⟨x, hx, rfl⟩
    obtain ⟨y, hy, ey⟩ := List.mem_map.mp m
    rw [List.all_toArray, List.all_eq_true] at z
    have := z y hy
    rw [this, e] at ey
    cases ey
  rw [if_neg notAll]
  obtain ⟨f, fr, ef⟩ : ∃ f fr, fs = f :: fr := by
    cases fs with
    | nil => cases hf
    | cons f fr => exact ⟨f, fr, rfl⟩
  subst ef
  have hf1 : f.isSome = !l.isEmpty := (List.cons.inj hf).1
  cases l with
  | cons x l =>
    have e1 : f.isSome = true := hf1
    rw [if_pos (show ((((f :: fr).toArray)[0]?).bind id).isSome = true from by simpa using e1)]
    rw [if_neg (by simp)] at hq
    exact wpAny_pure hq
  | nil =>
    have e1 : f.isSome = false := hf1
    rw [if_neg (show ¬ ((((f :: fr).toArray)[0]?).bind id).isSome = true from by simp [e1])]
    rw [if_pos rfl] at hq
    have all : ∀ u ∈ v :: vs, Looks (model P w) s.heap (typeOf u) (Value.type "tuple") := by
      intro u hu
      obtain ⟨l', _, r'⟩ := (EachIs.cons (R := fun v l => Reads s.heap v (PyData.tuple l) []) r t).left u hu
      exact looks_reads r'
    rw [oneTypeOnly'_eq, List.mapM_toArray, map_eq_pure_bind]
    refine wpAny_bind (wpAny_bind (wpAny_bind (kas_mapM (r := Value.type "tuple") _ (fun u hu Q' h' => (all u hu).here h') (wpAny_pure ?_))))
    have h0 : (List.map (fun _ => Value.type "tuple") (v :: vs)).toArray[0]? = some (Value.type "tuple") := by simp
    have hall : ((List.map (fun _ => Value.type "tuple") (v :: vs)).toArray.all fun x => x == Value.type "tuple") = true := by
      rw [List.all_toArray, List.all_map]
      exact List.all_eq_true.mpr fun _ _ => beq_self_eq_true _
    rw [h0]
    simp only [hall, if_true]
    exact wpAny_pure (wpAny_pure hq)
theorem pickF : ∀ {vs : List Value}, Fam F → (∀ v ∈ vs, InF F s.heap v) → ∃ ls : List (List PyData), EachIs (fun v l => Reads s.heap v (.tuple l) []) vs ls ∧ ∀ l ∈ ls, F (.tuple l)
  | [], _, _ => ⟨[], .nil, fun _ h => by cases h⟩
  | v :: vs, G, h => by
    obtain ⟨ls, h1, h2⟩ := pickF (vs := vs) G fun u hu => h u (List.mem_cons_of_mem _ hu)
    obtain ⟨d, hd, r⟩ := h v List.mem_cons_self
    obtain ⟨l, e⟩ := G.tup d hd
    subst e
    refine ⟨l :: ls, .cons r h1, fun x hx => ?_⟩
    rcases List.mem_cons.mp hx with e | hx
    · exact e ▸ hd
    · exact h2 x hx
theorem sortableT {a : Addr} {vs : List Value} (G : Fam F) (h2 : 2 ≤ vs.length) (hv : ∀ v ∈ vs, InF F s.heap v) (ha : ∀ o, s.heap.get? a = some o → o.cls = .type "list") (hu : A.units + 10 < cLine) : Srt.Sortable P w A s a vs := by
  intro h' keep
  have hv2 : ∀ v ∈ vs, InF F h' v := fun v m => inF_keep G keep ha (hv v m)
  obtain ⟨ls, e1, e2⟩ := pickF (s := { s with heap := h' }) G hv2
  have room : ∀ l ∈ ls, A.units + (PyData.tuple l).depth < cLine := fun l hl => by have := G.deep _ (e2 l hl); omega
  have ali : ∀ x y, F (.tuple x) → F (.tuple y) → alikeAll x y = true := fun x y hx hy => by
    have z := G.alike _ _ hx hy
    simpa [PySem.W.alike] using z
  have pick : ∀ p : Keyed, p.1 ∈ vs → ∃ l, l ∈ ls ∧ Reads h' p.1 (.tuple l) [] := fun p hp => by
    obtain ⟨l, hl, r⟩ := e1.left p.1 hp
    exact ⟨l, hl, r⟩
  by_cases em : ∃ x ∈ ls, x = []
  · cases e1 with
    | nil => cases h2
    | @cons v l vs ls r t =>
      refine ⟨if l = [] then oneType' else general', fun Q E hq => kindT (s := { s with heap := h' }) r t em hq, fun p q hp hq => ?_⟩
      obtain ⟨x, hx, rx⟩ := pick p hp
      obtain ⟨y, hy, ry⟩ := pick q hq
      have hxy := ali x y (e2 x hx) (e2 y hy)
      by_cases hl : l = []
      · rw [if_pos hl]
        -- the answer stands in the data
        have hb : ∃ b : Bool, wpAny (model P w) A (oneLt' true p.1 q.1) (fun r s' => s' = { s with heap := h' } ∧ r = b) (fun _ _ => False) { s with heap := h' } := by
          refine ⟨PySem.SeqAt.firstLt (pairEq x y) (fun j => dataLt (x.getD j .none) (y.getD j .none)) (decide (x.length < y.length)) (List.range (min x.length y.length)), ?_⟩
          exact oneLt_tupleB (s := { s with heap := h' }) rx ry hxy (room x hx) ⟨rfl, rfl⟩
        exact hb
      · rw [if_neg hl]
        refine ⟨dataLt (.tuple x) (.tuple y), ?_⟩
        exact oneLt_alike (s := { s with heap := h' }) (f := false) (fun z => by cases z) rx ry (G.alike _ _ (e2 x hx) (e2 y hy)) (by intro z; cases z) (by have := room x hx; have := Nat.min_le_left (PyData.tuple x).depth (PyData.tuple y).depth; omega) ⟨rfl, rfl⟩
  · have ne : ∀ x ∈ ls, x ≠ [] := fun x hx e => em ⟨x, hx, e⟩
    have ee : EachIs (fun v d => ∃ as, Reads h' v d as) vs (ls.map .tuple) := by
      refine each_map (R := fun v d => ∃ as, Reads h' v d as) _ ?_
      exact e1.mono fun v l r => ⟨[], r⟩
    have all : ∀ d ∈ ls.map PyData.tuple, F d := fun d hd => by
      obtain ⟨l, hl, e⟩ := List.mem_map.mp hd
      exact e ▸ e2 l hl
    have S := SortsAt.data (prog := P) (w := w) (A := A) (s := { s with heap := h' }) ee (fun d hd e he => G.alike d e (all d hd) (all e he)) (.inl fun d hd => by
      obtain ⟨l, hl, e⟩ := List.mem_map.mp hd
      cases l with
      | nil => exact absurd rfl (ne _ hl)
      | cons x r => exact ⟨x, r, e.symm⟩) (fun d hd => by have := G.deep d (all d hd); omega)
    obtain ⟨kd, k1, k2⟩ := S.kind
    refine ⟨kd, fun Q E hq => k2 h2 E hq, fun p q hp hq => ?_⟩
    obtain ⟨x, hx⟩ := S.keys p.1 hp
    obtain ⟨y, hy⟩ := S.keys q.1 hq
    exact ⟨_, k1 _ _ _ _ _ hx hy ⟨rfl, rfl⟩⟩
end
end K30
set_option Elab.async false
set_option linter.all false
set_option maxRecDepth 100000
set_option maxHeartbeats 3200000
/-! sorted(xs), sorted(set(xs)) of tuples, as rules. -/
namespace K30
open PySem PySem.Spec PyProof.Rows L2 PySem.W
section
variable {P : Program} {w : World} {A : Around} {E : Value → Shared → Prop} {s : Shared}
theorem isN_keep {h h' : Heap} {k : NestedKey} {b : Addr} (x : IsN h k b) (hk : ∀ c o, h.get? c = some o → h'.get? c = some o) : IsN h' k b := ⟨NestedIs.at (fun c o _ _ hc _ => hk c o hc) k _ x.1, x.2⟩
theorem SetN.keep {h h' : Heap} {a : Addr} {L : Rows} {es : Array (Int × Value)} {ep : Nat} {t : SetTable} (R : SetN w h a L es ep t) (ha : ∀ o, h.get? a = some o → h'.get? a = some o) (hk : ∀ p ∈ L, IsN h' p.2 p.1) : SetN w h' a L es ep t :=
  ⟨R.ob.elim fun o q => ⟨o, ha o q.1, q.2⟩, R.rows, R.tab, hk, R.led, R.mask, R.few⟩
abbrev newSet (w : World) : Obj := { cls := .type "set", dict := none, data := .set #[] 0 (.fresh 0 0 (!w.params.followText "set-order")) }
theorem setN_new {h : Heap} {a : Addr} (ho : h.get? a = some (newSet w)) : SetN w h a [] #[] 0 (.fresh 0 0 (!w.params.followText "set-order")) := by
  refine ⟨⟨_, ho, ⟨rfl, rfl, rfl⟩, rfl⟩, rfl, ⟨List.Pairwise.nil, rfl, rfl, .inl rfl, ?_, ?_⟩, fun p hp => (by cases hp), ?_, rfl, Nat.zero_le _⟩
  · intro x hx
    cases hx
  · intro i h j hi
    simp at hi
  · cases e : w.params.followText "set-order" with
    | true => exact .inl rfl
    | false => exact .inr rfl
/-- set.update's loop over at most three items -/
theorem loopN {I : Addr} {fp wr : List Addr} {G : Array GenState → Array GenState → Prop} {n : Nat} {Pv : Nat → Value → Prop} {St : Nat → Shared → Prop} {R : Result → Shared → Prop} (W : WalksS P w A.in1 I fp wr G n Pv St) (S : Addr) (hSf : S ∉ fp) (ks : Rows) (hn : n = ks.length) (hfew : ks.length ≤ 3)
    (hval : ∀ i v, Pv i v → ∃ p, ks[i]? = some p ∧ v = .ref p.1) (h0 : Heap) (hk : ∀ p ∈ ks, IsN h0 p.2 p.1) (hS0 : h0.get? S = none) (hw0 : ∀ b ∈ wr, h0.get? b = none) (hu : A.in1.units + 10 < cLine) :
    ∀ (k i : Nat) (s : Shared), n - i = k → i ≤ n → St i s → (∀ b o, h0.get? b = some o → s.heap.get? b = some o) → (∃ L es ep t, SetN w s.heap S L es ep t ∧ (∀ p ∈ L, p ∈ ks) ∧ L.length ≤ i) →
      (∀ s' L es ep t, Moved (S :: wr) G s s' → SetN w s'.heap S L es ep t → (∀ p ∈ L, p ∈ ks) → (∀ b o, h0.get? b = some o → s'.heap.get? b = some o) → R (.ok (.ret .none)) s') → codeAny (model P w) A (.builtin "set.update.loop" ⟨[.ref S, .ref I], []⟩) R s := by
  have out : S ∉ wr := fun h => hSf (W.sub _ h)
  have up : ∀ b ∈ wr, b ∈ S :: wr := fun b => List.mem_cons_of_mem _
  have old : ∀ {s s' : Shared}, Moved wr G s s' → (∀ b o, h0.get? b = some o → s.heap.get? b = some o) → ∀ b o, h0.get? b = some o → s'.heap.get? b = some o := fun m q b o e => m.heap b o (fun hb => by rw [hw0 b hb] at e; cases e) (q b o e)
  intro k
  induction k with
  | zero =>
    intro i s hki hi hst hkp ⟨L, es, ep, t, hS, gs, gl⟩ hR
    have ei : i = n := by omega
    rw [ei] at hst
    refine codeAny_builtin F.entry_set_update_loop ?_
    rw [Around.under_plainId F.plain_set_update_loop _]
    show wpAny _ A.in1 (pyNext (.ref I) >>= _) _ _ s
    refine wpAny_bind (W.done s _ _ hst fun s1 hm => ?_)
    show wpAny _ A.in1 (ret Value.none) _ _ s1
    have q := old hm hkp
    exact wpAny_pure (hR s1 L es ep t (hm.mono up) (hS.keep (fun o e => hm.heap S o out e) fun p hp => isN_keep (hk p (gs p hp)) q) gs q)
  | succ k ih =>
    intro i s hki hi hst hkp ⟨L, es, ep, t, hS, gs, gl⟩ hR
    have lt : i < n := by omega
    refine codeAny_builtin F.entry_set_update_loop ?_
    rw [Around.under_plainId F.plain_set_update_loop _]
    show wpAny _ A.in1 (pyNext (.ref I) >>= _) _ _ s
    refine wpAny_bind (W.item i s _ _ lt hst fun v s1 hP hst1 hm => ?_)
    obtain ⟨p, hp, ev⟩ := hval i v hP
    subst ev
    have q := old hm hkp
    have hS1 : SetN w s1.heap S L es ep t := hS.keep (fun o e => hm.heap S o out e) fun p hp => isN_keep (hk p (gs p hp)) q
    have hx : IsN s1.heap p.2 p.1 := isN_keep (hk p (List.mem_of_getElem? hp)) q
    show wpAny _ A.in1 (holding [Value.ref p.1] (setAdd S (.ref p.1)) >>= _) _ _ s1
    refine wpAny_bind (wpAny_holding ?_)
    unfold setAdd
    refine wpAny_holding (wpAny_bind (pyHash_key p.2 _ _ _ _ hx.1 (by have := hx.2; omega) ?_))
    refine addN (s := { s1 with toks := s1.toks + p.2.draws }) hS1 hx hu (by omega) fun b h2 L2 es2 ep2 t2 sb hS2 c1 c2 => ?_
    have q2 : ∀ b o, h0.get? b = some o → h2.get? b = some o := fun b o e => (sb.2 b (fun z => by rw [z, hS0] at e; cases e)).trans (q b o e)
    refine wpAny_pure ⟨plainId_quiet F.plain_set_update_loop _, ih (i + 1) _ (by omega) lt (W.frame _ s1 _ _ hst1 (Nat.le_add_right _ _) fun b hb o e => (sb.2 b (fun z => hSf (by rw [← z]; exact hb))).trans e) q2 ⟨L2, es2, ep2, t2, hS2, fun r hr => ?_, by omega⟩ fun s3 L3 es3 ep3 t3 m3 hS3 g3 q3 => ?_⟩
    · rcases c1 r hr with e | m
      · rw [e]
        exact List.mem_of_getElem? hp
      · exact gs r m
    · exact hR s3 L3 es3 ep3 t3 (Moved.trans W.gtrans ((hm.mono up).then_heap (Nat.le_add_right _ _) fun b o hb e => (sb.2 b (fun z => hb (by rw [z]; exact List.mem_cons_self))).trans e) m3) hS3 g3 q3
set_option maxRecDepth 100000 in
/-- set(xs) -/
theorem callSetN {l : Addr} {items : Array Value} (ks : Rows) {Q : Value → Shared → Prop} (hh : A.handled = none) (hl : s.heap.IsList l items) (hit : items.toList = ks.map fun p => Value.ref p.1) (hk : ∀ p ∈ ks, IsN s.heap p.2 p.1) (hfew : ks.length ≤ 3) (hu : A.units + 20 < cLine)
    (fin : ∀ (h' : Heap) (tk : Nat) L es ep t, SetN w h' s.heap.objs.size L es ep t → (∀ p ∈ L, p ∈ ks) → (∀ b o, s.heap.get? b = some o → h'.get? b = some o) → Q (.ref s.heap.objs.size) { s with heap := h', toks := tk }) : wpAny (model P w) A (call (.type "set") [.ref l]) Q E s := by
  have size : items.size = ks.length := by
    rw [← Array.length_toList, hit]
    exact List.length_map ..
  obtain ⟨c, tl, hmro⟩ := F.called_set.mro
  have hmade := F.called_set.made
  have hsub := F.called_set.sub
  refine wpAny_call (codeAny_of_tree ?_)
  show wpAny _ _ (callAny (.type "set") _) _ _ _
  refine wpAny_pure ⟨Code.quiet_builtin _ (by decide +kernel), codeAny_builtin F.entry_type_call ?_⟩
  rw [Around.under_plain (weight_type_call_type "set" [.ref l] []) rfl]
  have k1 := F.called_set.notType
  have k2 := F.called_set.canCreate
  have k3 := F.typeCall_set_1 (.ref l)
  repeat (any_goals (first | assumption | wp_step))
  refine codeAny_mono (code_set_led1 (.ref l) (E := E) (Q₁ := fun obj s1 => obj = .ref s.heap.objs.size ∧ s1 = { s with heap := s.heap.push (newSet w) }) ⟨rfl, rfl⟩) fun r s1 hr => ?_
  cases r with
  | error e => exact hr
  | ok fl =>
    cases fl with
    | ret obj =>
      obtain ⟨e1, e2⟩ := hr
      subst e1 e2
      have hS : (s.heap.push (newSet w)).get? s.heap.objs.size = some (newSet w) := Heap.get?_push_size _ rfl
      have hT : Shared.TypeIs { s with heap := s.heap.push (newSet w) } (.ref s.heap.objs.size) "set" := ⟨_, hS, rfl⟩
      have hli := F.called_set.init.lookup
      have hbi := F.called_set.init.bind (.ref s.heap.objs.size)
      repeat (any_goals (first | assumption | wp_step))
      refine codeAny_mono (codeAny_call_builtin (R := wants (fun r s2 => r = .none ∧ ∃ h' tk L es ep t, s2 = { s with heap := h', toks := tk } ∧ SetN w h' s.heap.objs.size L es ep t ∧ (∀ p ∈ L, p ∈ ks) ∧ ∀ b o, s.heap.get? b = some o → h'.get? b = some o) E)
        F.called_set.init.plain F.entry_set_init (check_set_init_1 hT ?_)) fun r2 s2 hr2 => ?_
      · obtain ⟨ol, hol, hcl, nl, hdl⟩ := hl
        obtain ⟨ocls, odict, odata, oslots⟩ := ol
        simp only at hcl hdl
        subst hcl hdl
        have hol2 : (s.heap.push (newSet w)).get? l = some { cls := .type "list", dict := odict, data := .seq items nl, slots := oslots } := Heap.get?_push_of_some _ hol
        have y1 := F.sub_list_set
        have y2 := F.sub_list_frozenset
        have y3 : (Value.type "list" == Value.type "dict") = false := by decide
        have hl1 : (s.heap.push (newSet w)).IsList l items := ⟨_, hol2, rfl, nl, rfl⟩
        unfold Builtin.«set.__init__» noKeywords Builtin.Frozenset.updateFrom
        generalize hPI : pyIter = PI
        wp_walk
        subst hPI
        refine wpAny_pyIter_list hl1 (wpAny_bind (wpAny_runValue ?_))
        have lS : l < s.heap.objs.size := Heap.lt_size hol
        have noH : A.in1.in1.in1.handled = none := by simp [hh]
        have z1 : (s.heap.push (newSet w)).objs.size = s.heap.objs.size + 1 := Heap.size_push ..
        have neI : l ≠ (s.heap.push (newSet w)).objs.size := by
          rw [z1]
          exact Nat.ne_of_lt (Nat.lt_succ_of_lt lS)
        have notIn : s.heap.objs.size ∉ [(s.heap.push (newSet w)).objs.size, l] := by
          rw [z1]
          simp only [List.mem_cons, List.mem_singleton, List.not_mem_nil, or_false, not_or]
          exact ⟨Nat.ne_of_lt (Nat.lt_succ_self _), Nat.ne_of_gt lS⟩
        have vals : ∀ (i : Nat) (v : Value), items[i]? = some v → ∃ p, ks[i]? = some p ∧ v = .ref p.1 := fun i v hv => by
          rw [← Array.getElem?_toList, hit, List.getElem?_map] at hv
          obtain ⟨p, hp, e⟩ := Option.map_eq_some_iff.mp hv
          exact ⟨p, hp, e.symm⟩
        have gone : ∀ b, s.heap.objs.size ≤ b → s.heap.get? b = none := fun b hb => by
          cases q : s.heap.get? b with
          | none => rfl
          | some o => exact absurd (Nat.lt_of_lt_of_le (Heap.lt_size q) hb) (Nat.lt_irrefl _)
        have hget : ((s.heap.push (newSet w)).push { cls := .type "list_iterator", data := .fields #[.ref l, .int 0 0] }).get? s.heap.objs.size = some (newSet w) := Heap.get?_push_of_some _ hS
        refine loopN ((Walks.list noH _ l neI items).toS) s.heap.objs.size notIn ks size hfew vals s.heap hk (gone _ (Nat.le_refl _)) (fun b hb => gone b ?_) (by simp only [Around.in1_units]; omega) (items.size - 0) 0 _ (by omega) (Nat.zero_le _)
          ⟨⟨_, Heap.get?_push_size _ rfl, rfl, rfl⟩, (hl1.push _)⟩ (fun b o e => Heap.get?_push_of_some _ (Heap.get?_push_of_some _ e)) ⟨[], #[], 0, _, setN_new hget, fun p hp => (by cases hp), Nat.le_refl _⟩ fun s3 L es ep t hm hS3 g3 q3 => ?_
        · rw [List.mem_singleton.mp hb, z1]
          exact Nat.le_succ _
        · obtain ⟨h3, g2, d3, t3, os3⟩ := s3
          have eg : g2 = s.gens := hm.gens
          have ed : d3 = s.drawn := hm.drawn
          have eo : os3 = s.os := hm.os
          subst eg ed eo
          show wpAny _ _ _ _ _ _
          refine wpAny_pure ?_
          show wpAny _ _ (ret Value.none) _ _ _
          exact wpAny_pure ⟨rfl, h3, t3, L, es, ep, t, rfl, hS3, g3, q3⟩
      · cases r2 with
        | error e => exact hr2
        | ok fl2 =>
          cases fl2 with
          | ret r =>
            obtain ⟨e1, h', tk, L, es, ep, t, e2, hS', g', q'⟩ := hr2
            subst e1 e2
            repeat (any_goals (first | assumption | wp_step))
            exact fin _ _ _ _ _ _ hS' g' q'
          | _ => exact hr2.elim
    | _ => exact hr.elim
/-- sorted(a set) -/
theorem sortSetN {F : PyData → Prop} {a : Addr} {L : Rows} {es : Array (Int × Value)} {ep : Nat} {t : SetTable} {Q : Value → Shared → Prop} (G : Fam F) (R : SetN w s.heap a L es ep t) (hh : A.handled = none) (hu : A.units + 20 < cLine) (hF : ∀ p ∈ L, InF F s.heap (.ref p.1))
    (fin : ∀ s' p (out : Array Value) (c : Nat), (∀ b o, s.heap.get? b = some o → s'.heap.get? b = some o) → s'.gens = s.gens → s'.os = s.os → s.heap.objs.size ≤ p → s'.heap.get? p = some (seqObj "list" out c) → out.toList.Perm (L.map fun q => Value.ref q.1) → Q (.ref p) s') :
    wpAny (model P w) A (call (.builtin "sorted") [.ref a]) Q E s := by
  obtain ⟨o, ho, hex, hd⟩ := R.ob
  have h3 := R.few
  refine Calls.call_function_entry kind_sorted plain_sorted entry_sorted (args_sorted1 _) ?_
  unfold Builtin.«sorted»
  refine wpAny_bind (m := checkCount "sorted" 1 1 _) (wpAny_pure ?_)
  refine wpAny_bind (collect_set (A := A.in1) hh ⟨o, ho, hex.1, hd⟩ R.fits (by rw [R.len]; unfold scanBound; omega) R.tab.ris R.led fun s1 vs k1 hz g1 o1 pm => ?_)
  have ev : es.toList.map (·.2) = L.map fun q => Value.ref q.1 := by
    rw [R.rows]
    unfold rowsN
    rw [List.map_map]
    rfl
  rw [ev] at pm
  have lv : vs.length ≤ 3 := by
    rw [pm.length_eq, List.length_map]
    exact h3
  have inF : ∀ v ∈ vs, InF F s1.heap v := fun v hv => by
    obtain ⟨q, hq, e⟩ := List.mem_map.mp (pm.mem_iff.mp hv)
    subst e
    exact inF_keep (a := s.heap.objs.size) G (fun b u _ e => k1 b u e) (fun u e => absurd (Heap.lt_size e) (Nat.lt_irrefl _)) (hF q hq)
  refine wpAny_bind (wpAny_newList ?_ (by rw [sizeLine_eq]; omega))
  have hoL : (s1.heap.push (seqObj "list" vs.toArray 0)).get? s1.heap.objs.size = some (seqObj "list" vs.toArray 0) := Heap.get?_push_size _ rfl
  refine wpAny_bind (wpAny_holding (wpAny_call_entry slot_list_sort ⟨_, hoL, rfl⟩ entry_list_sort (Srt.list_sort_any (s := { s1 with heap := s1.heap.push (seqObj "list" vs.toArray 0) }) hoL (by rw [sizeLine_eq]; omega) (fun h2 => sortableT G h2 (fun v hv => ?_) (fun u e => ?_) ?_) fun out hp => ⟨_, rfl, ?_⟩) (args_list_sort _)))
  · exact inF_keep (a := s1.heap.objs.size) G (fun b u _ e => Heap.get?_push_of_some _ e) (fun u e => absurd (Heap.lt_size e) (Nat.lt_irrefl _)) (inF v hv)
  · have e2 := e.symm.trans hoL
    cases e2
    rfl
  · simp only [Around.in1_units]
    omega
  · obtain ⟨c, hc⟩ := sortedHeap_at (vs := vs) (out := out.toArray) hoL
    refine wpAny_pure ⟨_, rfl, fin _ s1.heap.objs.size out.toArray c (fun b u e => ?_) g1 o1 hz hc ?_⟩
    · have q := k1 b u e
      have lt := Heap.lt_size q
      show (sortedHeap (s1.heap.push (seqObj "list" vs.toArray 0)) s1.heap.objs.size vs out.toArray).get? b = some u
      rw [sortedHeap_old (Nat.ne_of_lt lt) (by rw [size_push']; exact Nat.lt_succ_of_lt lt)]
      exact Heap.get?_push_of_some _ q
    · exact hp.trans pm
end
end K30
set_option Elab.async false
set_option linter.all false
set_option maxRecDepth 100000
set_option maxHeartbeats 1000000
namespace K30
open PySem PySem.Spec PyProof.Rows L2 PySem.W
/-! ### as rules for readings -/
mutual
def keyD : PyData → NestedKey
  | .bool b => .num (if b = true then 1 else 0)
  | .int i => .num i
  | .str x => .text x
  | .tuple l => .tup (keyDs l)
  | _ => .none
def keyDs : List PyData → List NestedKey
  | [] => []
  | d :: l => keyD d :: keyDs l
end
mutual
theorem keyD_is {h : Heap} : ∀ (d : PyData) (v : Value) (as : List Addr), plainD d = true → Reads h v d as → NestedIs h (keyD d) v
  | .none, _, _, _, r => by cases r; exact .none
  | .bool _, _, _, _, r => by cases r; exact .bool rfl
  | .int _, _, _, _, r => by cases r; exact .int _ _
  | .str _, _, _, _, r => by cases r; exact .text _ _
  | .list _, _, _, p, _ => by cases p
  | .dict _, _, _, p, _ => by cases p
  | .tuple l, _, _, p, r => by
    cases r with
    | tuple h1 h2 h3 h4 => exact .tup h1 h2 h3 (keyDs_is l _ _ p h4)
theorem keyDs_is {h : Heap} : ∀ (ds : List PyData) (vs : List Value) (as : List Addr), plainDs ds = true → ReadsAll h vs ds as → NestedAll h (keyDs ds) vs
  | [], _, _, _, r => by cases r; exact .nil
  | d :: ds, _, _, p, r => by
    have p : (plainD d && plainDs ds) = true := p
    rw [Bool.and_eq_true] at p
    cases r with
    | cons r1 r2 => exact .cons (keyD_is d _ _ p.1 r1) (keyDs_is ds _ _ p.2 r2)
end
mutual
theorem keyD_deep : ∀ d : PyData, (keyD d).depth ≤ d.depth
  | .none => Nat.le_refl _
  | .bool _ => Nat.le_refl _
  | .int _ => Nat.le_refl _
  | .str _ => Nat.le_refl _
  | .list _ => Nat.zero_le _
  | .dict _ => Nat.zero_le _
  | .tuple l => Nat.succ_le_succ (keyDs_deep l)
theorem keyDs_deep : ∀ ds : List PyData, NestedKey.depthAll (keyDs ds) ≤ PyData.depthAll ds
  | [] => Nat.le_refl _
  | d :: ds => by
    have h1 := keyD_deep d
    have h2 := keyDs_deep ds
    show max (keyD d).depth (NestedKey.depthAll (keyDs ds)) ≤ max d.depth (PyData.depthAll ds)
    omega
end
section
variable {X : Cx}
theorem inF_of {F : PyData → Prop} {pins : List (Addr × Obj)} {σ : L2.St} {H : Hp} {s : Shared} (I : Inv X pins σ H s) (G : Fam F) {v : V} {d : PyData} {u : Value} (hd : F d) (h : Dp X.K H v d) (r : RelV v u) : InF F s.heap u := by
  obtain ⟨as, ra⟩ := Dp.reads I d v u h r
  have e := reads_nil d u as (G.plain d hd) ra
  subst e
  exact ⟨d, hd, ra⟩
theorem dp_refs {K : PySem.W.Frag} {H : Hp} {F : PyData → Prop} (G : Fam F) : ∀ {xs : List V} {ds : List PyData}, DpAll K H xs ds → (∀ d ∈ ds, F d) → ∀ x ∈ xs, ∃ a, x = V.ref a
  | _, _, .nil, _, x, hx => by cases hx
  | v :: vs, d :: ds, .cons h t, hF, x, hx => by
    rcases List.mem_cons.mp hx with e | hx
    · obtain ⟨l, el⟩ := G.tup d (hF d List.mem_cons_self)
      subst el
      cases h with
      | tup _ _ => exact ⟨_, e⟩
    · exact dp_refs G t (fun y hy => hF y (List.mem_cons_of_mem _ hy)) x hx
theorem inF_all {F : PyData → Prop} {pins : List (Addr × Obj)} {σ : L2.St} {H : Hp} {s : Shared} (I : Inv X pins σ H s) (G : Fam F) : ∀ {xs : List V} {ds : List PyData} {us : List Value}, DpAll X.K H xs ds → (∀ d ∈ ds, F d) → Vals xs us → ∀ u ∈ us, InF F s.heap u
  | _, _, _, .nil, _, .nil, u, hu => by cases hu
  | v :: vs, d :: ds, _, .cons h t, hF, .cons r rs, u, hu => by
    rcases List.mem_cons.mp hu with e | hu
    · exact e ▸ inF_of I G (hF d List.mem_cons_self) h r
    · exact inF_all I G t (fun y hy => hF y (List.mem_cons_of_mem _ hy)) rs u hu
/-- sorted(xs), xs a list of tuples of one family -/
def rSortT (K : PySem.W.Frag) : List V → Hp → VK → Prop := fun vs H Q => ∃ (a : Addr) (xs : List V) (ds : List PyData) (F : PyData → Prop), vs = [.ref a] ∧ SqL K H a xs ∧ DpAll K H xs ds ∧ Fam F ∧ (∀ d ∈ ds, F d) ∧ ∀ ys p, ys.Perm xs → H p = none → Q (.ref p) (upd H p (.lst ys))
theorem cr_sortT (hu : X.A.units + 64 < cLine) : CallR X (.builtin "sorted") (rSortT X.K) := by
  intro pins s σ H vs us Q I r h
  obtain ⟨a, xs, ds, F, ev, hs, hd, G, hF, q⟩ := h
  subst ev
  obtain ⟨its, rv, hl, hz⟩ := I.list hs
  rw [Vals.ref1 r]
  obtain ⟨e1, e2⟩ := refs_back rv (dp_refs G hd hF)
  have hv := inF_all I G hd hF rv
  refine Srt.sorted_any hl.isList (by rw [← rv.length]; exact hz) (fun h2 h1 b hb k => sortableT (s := { s with heap := h1 }) G h2 (fun v m => inF_keep (a := b) G (fun c o _ e => (k c o e).2) (fun o e => absurd rfl (k b o e).1) (hv v m)) (fun o e => ?_) ?_) fun out hp => ?_
  · have e3 := e.symm.trans hb
    cases e3
    rfl
  · simp only [Around.in1_units]
    omega
  · have h3 : ∀ u ∈ out, ∃ a, u = Value.ref a := fun u m => e2 u (hp.mem_iff.mp m)
    obtain ⟨n, hn⟩ := sortedAll_at s.heap its out.toArray
    refine ⟨.ref _, upd H (s.heap.objs.size + 1) (.lst (out.map backV)), I.laid (t' := s.toks) (fun _ _ => sortedAll_old) (Nat.le_succ _) ⟨?_, out, n, vals_back h3, hn⟩, rfl, q _ _ ?_ (I.hok.fresh (Nat.le_succ _))⟩
    · rw [List.length_map, hp.length_eq, ← rv.length]
      exact hz
    · rw [e1]
      exact hp.map backV
/-- sorted(set(xs)), xs a list of at most three such tuples -/
def tSortSet (K : PySem.W.Frag) (te : TE) : TE := fun σ H Q => te σ H fun x H1 => ∃ (a : Addr) (xs : List V) (ds : List PyData) (F : PyData → Prop), x = .ref a ∧ SqL K H1 a xs ∧ DpAll K H1 xs ds ∧ Fam F ∧ (∀ d ∈ ds, F d) ∧ ds.length ≤ 3 ∧
  ∀ ys p, (∀ y ∈ ys, y ∈ xs) → ys.length ≤ 3 → H1 p = none → Q (.ref p) (upd H1 p (.lst ys))
theorem pe_sortSet {a : Expr} {ta : TE} {p p2 q pos : Pos} (hu : X.A.units + 64 < cLine) (hc : X.calm = true) (hg : Gl X "sorted") (hm : X.mg "sorted" = none) (hg2 : Gl X "set") (hm2 : X.mg "set" = none) (ha : PE X a ta)
    (na : starEach [a] X.env = (false, eval a X.env) :: starEach [] X.env := by rfl) : PE X (.Call (.Name "sorted" p) [.Call (.Name "set" p2) [a] [] q] [] pos) (tSortSet X.K ta) := by
  refine ⟨fun pins s σ H Q I h => ?_⟩
  refine Call_ (ld_blt I hg hm (show bootBuiltins "sorted" = some (.builtin "sorted") from by decide +kernel) (PyProof.Rows.callWith_builtin1 (PyProof.Rows.args_cons ?_ rfl) rfl rfl))
  refine Call_ (ld_blt I hg2 hm2 PyProof.Rows.boot_set (PyProof.Rows.callWith_type1 (PyProof.Rows.args_cons (thn (ha.run pins s σ H _ I h) fun v s1 ⟨x, H1, I1, r1, q1⟩ => PyProof.Rows.args_nil ?_) na) na rfl))
  obtain ⟨l, xs, ds, F, ex, hs, hd, G, hF, h3, q1⟩ := q1
  subst ex
  cases r1
  obtain ⟨its, rv, pl, hz⟩ := I1.list hs
  obtain ⟨e1, e2⟩ := refs_back rv (dp_refs G hd hF)
  have hv := inF_all I1 G hd hF rv
  have len : its.length ≤ 3 := by
    rw [← rv.length]
    have : ∀ {xs : List V} {ds : List PyData}, DpAll X.K H1 xs ds → xs.length = ds.length := by
      intro xs ds
      induction ds generalizing xs with
      | nil => intro z; cases z; rfl
      | cons d ds ih => intro z; cases z with | cons _ t => rw [List.length_cons, List.length_cons, ih t]
    rw [this hd]
    exact h3
  -- the items as rows
  have rows : ∀ us : List Value, (∀ u ∈ us, InF F s1.heap u ∧ ∃ a, u = Value.ref a) → ∃ ks : Rows, us = ks.map (fun p => Value.ref p.1) ∧ (∀ p ∈ ks, IsN s1.heap p.2 p.1 ∧ InF F s1.heap (.ref p.1)) := by
    intro us
    induction us with
    | nil => intro _; exact ⟨[], rfl, fun p hp => by cases hp⟩
    | cons u us ih =>
      intro all
      obtain ⟨ks, k1, k2⟩ := ih fun y hy => all y (List.mem_cons_of_mem _ hy)
      obtain ⟨⟨d, fd, rd⟩, a, ea⟩ := all u List.mem_cons_self
      subst ea
      refine ⟨(a, keyD d) :: ks, by rw [List.map_cons, k1], fun p hp => ?_⟩
      rcases List.mem_cons.mp hp with e | hp
      · subst e
        exact ⟨⟨keyD_is d _ _ (G.plain d fd) rd, by have := keyD_deep d; have := G.deep d fd; show (keyD d).depth ≤ 6; omega⟩, d, fd, rd⟩
      · exact k2 p hp
  obtain ⟨ks, k1, k2⟩ := rows its fun u m => ⟨hv u m, e2 u m⟩
  have klen : ks.length ≤ 3 := by
    have z := congrArg List.length k1
    rw [List.length_map] at z
    omega
  refine callSetN (P := X.prog) (w := X.w) ks (I1.ok.hd hc) pl.isList (by simpa using k1) (fun p m => (k2 p m).1) klen (by omega) fun h' tk L es ep t R sub k => PyProof.Rows.args_nil ?_
  have I2 : Inv X pins σ H1 { s1 with heap := h', toks := tk } := I1.kept k
  refine sortSetN (s := { s1 with heap := h', toks := tk }) G R (I1.ok.hd hc) (by omega) (fun p m => inF_keep (a := s1.heap.objs.size) G (fun b o _ e => k b o e) (fun o e => absurd (Heap.lt_size e) (Nat.lt_irrefl _)) (k2 p (sub p m)).2) fun s3 p out c k3 g o hp hget pm => ?_
  have refs : ∀ u ∈ out.toList, ∃ a, u = Value.ref a := fun u m => by
    obtain ⟨z, _, e⟩ := List.mem_map.mp (pm.mem_iff.mp m)
    exact ⟨_, e.symm⟩
  have l3 : out.toList.length ≤ 3 := by
    rw [pm.length_eq, List.length_map]
    exact R.few
  have hn : H1 p = none := I2.hok.fresh hp
  have hlen : (out.toList.map backV).length ≤ sizeLine := by
    rw [List.length_map, sizeLine_eq]
    omega
  have J := I2.call (h' := s3.heap) (g' := s3.gens) (d' := s3.drawn) (t' := s3.toks) (H' := upd H1 p (.lst (out.toList.map backV))) (ch := []) (Un.laid k3 hp hn) (I2.hok.laid k3 hp ⟨hlen, out.toList, c, vals_back refs, hget⟩) (by rw [g]; exact I2.bare) (fun _ z => nomatch z)
  have e : s3 = { s1 with heap := s3.heap, gens := s3.gens, drawn := s3.drawn, toks := s3.toks } := by
    cases s3
    cases s1
    cases o
    rfl
  rw [e]
  refine ⟨.ref p, _, J, rfl, q1 _ p (fun y hy => ?_) (by rw [List.length_map]; exact l3) hn⟩
  obtain ⟨u, m, eu⟩ := List.mem_map.mp hy
  obtain ⟨z, mz, ez⟩ := List.mem_map.mp (pm.mem_iff.mp m)
  rw [e1, k1]
  rw [← eu, ← ez]
  exact List.mem_map.mpr ⟨_, List.mem_map.mpr ⟨z, sub z mz, rfl⟩, rfl⟩
end
end K30
set_option Elab.async false
set_option linter.all false
set_option maxRecDepth 100000
set_option maxHeartbeats 1000000
namespace K30
open PySem PySem.Spec PyProof.Rows L2
structure G0 (K : PySem.W.Frag) (mg : Str → Option Value) : Prop where
  abs : mg "abs" = none
  all : mg "all" = none
  any : mg "any" = none
  bool : mg "bool" = none
  enumerate : mg "enumerate" = none
  int : mg "int" = none
  isinstance : mg "isinstance" = none
  len : mg "len" = none
  list : mg "list" = none
  range : mg "range" = none
  set : mg "set" = none
  sorted : mg "sorted" = none
  str : mg "str" = none
  tuple : mg "tuple" = none
  zip : mg "zip" = none
  lookupError : mg "LookupError" = none
  give : ∃ t, mg "GIVE" = some (.str "give" t)
  vest : ∃ t, mg "VEST" = some (.str "vest" t)
  swap : ∃ t, mg "SWAP" = some (.str "swap" t)
  whole : ∃ t, mg "WHOLE" = some (.str "whole" t)
  words : ∃ a, mg "TITLE_WORDS" = some (.ref a) ∧ (∀ C, SqT K C a [.str "give", .str "vest", .str "swap"])
end K30
set_option Elab.async false
set_option linter.all false
set_option maxRecDepth 100000
set_option maxHeartbeats 1000000
namespace K30
open PySem PySem.Spec PyProof.Rows L2
/-! ### the data that the claim is about -/
abbrev Spot := List Str
abbrev Cond := List (Str × Bool)
abbrev Cut := List Cond
def eSpot (s : Spot) : PyData := .tuple (s.map .str)
def ePair (p : Str × Bool) : PyData := .tuple [.str p.1, .bool p.2]
def eCond (c : Cond) : PyData := .tuple (c.map ePair)
def eCut (c : Cut) : PyData := .tuple (c.map eCond)
inductive Deed where
  | four (k a b : Str) (c : Cut)
  | one (k a : Str) (c : Cut)
  | two (k : Str) (c e : Cut)
def Deed.kind : Deed → Str
  | .four k _ _ _ => k
  | .one k _ _ => k
  | .two k _ _ => k
def Deed.last : Deed → Cut
  | .four _ _ _ c => c
  | .one _ _ c => c
  | .two _ _ c => c
/-- the items behind the kind -/
def Deed.rest : Deed → List PyData
  | .four _ a b c => [.str a, .str b, eCut c]
  | .one _ a c => [.str a, eCut c]
  | .two _ c e => [eCut c, eCut e]
def eDeed (d : Deed) : PyData := .tuple (.str d.kind :: d.rest)
def eBook (h : List Deed) : PyData := .tuple (h.map eDeed)
structure Point where
  spot : Spot
  size : Int
  own : Str
def ePoint (p : Point) : PyData := .tuple [eSpot p.spot, .int p.size, .str p.own]
def eWorld (w : List Point) : PyData := .tuple (w.map ePoint)
def eNames (l : List Str) : PyData := .tuple (l.map .str)
def eNats (l : List Nat) : PyData := .tuple (l.map fun i : Nat => .int (i : Int))
/-- the shapes -/
def condOk (x : Cond) : Bool := decide (x.length ≤ 1000) && x.all fun p => PyData.strOk p.1
def cutOk (c : Cut) : Bool := decide (c.length ≤ 1000) && c.all condOk
theorem condOk_len {x : Cond} (h : condOk x = true) : x.length ≤ 1000 := of_decide_eq_true (Bool.and_eq_true_iff.mp h).1
theorem condOk_str {x : Cond} (h : condOk x = true) : ∀ p ∈ x, PyData.strOk p.1 = true := List.all_eq_true.mp (Bool.and_eq_true_iff.mp h).2
theorem cutOk_len {c : Cut} (h : cutOk c = true) : c.length ≤ 1000 := of_decide_eq_true (Bool.and_eq_true_iff.mp h).1
theorem cutOk_cond {c : Cut} {x : Cond} (h : cutOk c = true) (hx : x ∈ c) : condOk x = true := List.all_eq_true.mp (Bool.and_eq_true_iff.mp h).2 x hx
theorem cutOk_mem {c : Cut} {x : Cond} (h : cutOk c = true) (hx : x ∈ c) : x.length ≤ 1000 := condOk_len (cutOk_cond h hx)
def Deed.ok : Deed → Bool
  | .four k _ _ c => k != "vest" && cutOk c
  | .one k _ c => k != "give" && k != "swap" && k != "whole" && cutOk c
  | .two k c e => k != "give" && k != "swap" && k != "whole" && k != "vest" && (cutOk c && cutOk e)
theorem Deed.okCut : ∀ {d : Deed}, d.ok = true → cutOk d.last = true
  | .four _ _ _ _, h => (Bool.and_eq_true_iff.mp h).2
  | .one _ _ _, h => (Bool.and_eq_true_iff.mp h).2
  | .two _ _ _, h => (Bool.and_eq_true_iff.mp (Bool.and_eq_true_iff.mp h).2).2
/-! ### what the text computes -/
def keepsM (s : Spot) (c : Cond) : Bool := (c.map fun p => s.contains p.1 == p.2).all id
def isInM (s : Spot) (c : Cut) : Bool := (c.map fun x => keepsM s x).any id
def Deed.turn (s : Spot) (o : Str) : Deed → Str
  | .four k a b c => if (k == "give" || k == "swap") && isInM s c then (if o = a then b else if k = "swap" ∧ o = b then a else o) else o
  | .one k a c => if k == "vest" && isInM s c then a else o
  | .two _ _ _ => o
/-- a whole as a gift -/
def Deed.gift : Deed → Deed
  | .four _ a b c => .four "give" a b c
  | d => d
def Deed.done (s : Spot) (o : Str) (d : Deed) : Str := (if d.kind = "whole" then d.gift else d).turn s o
def Deed.right (s : Spot) (o : Str) : Deed → Bool
  | .four _ a _ c => !isInM s c || decide (o = a)
  | _ => true
mutual
def tupD : PyData → PyData
  | .list l => .tuple (tupDs l)
  | .tuple l => .tuple (tupDs l)
  | d => d
def tupDs : List PyData → List PyData
  | [] => []
  | d :: l => tupD d :: tupDs l
end
theorem tupDs_map : ∀ l, tupDs l = l.map tupD
  | [] => rfl
  | d :: l => by unfold tupDs; rw [tupDs_map l, List.map_cons]
theorem atI0 {α : Type} (x : α) (l : List α) : atI (x :: l) 0 = some x := atI_nat (j := 0) rfl
theorem atI1 {α : Type} (x y : α) (l : List α) : atI (x :: y :: l) 1 = some y := atI_nat (j := 1) rfl
theorem atI2 {α : Type} (x y z : α) (l : List α) : atI (x :: y :: z :: l) 2 = some z := atI_nat (j := 2) rfl
/-- a value of nested lists and tuples, n levels deep at most -/
def okD : Nat → PyData → Bool
  | 0, _ => false
  | n + 1, .list l => decide (l.length ≤ 1000) && l.all (okD n)
  | n + 1, .tuple l => decide (l.length ≤ 1000) && l.all (okD n)
  | _ + 1, .dict _ => false
  | _ + 1, _ => true
/-- soft: tuples or lists alike -/
theorem soft_seq {d : PyData} {l : List PyData} (h : tupD d = .tuple l) : ∃ ds, SeqD d ds ∧ ds.map tupD = l := by
  cases d with
  | list ds =>
    have h : PyData.tuple (tupDs ds) = .tuple l := h
    rw [tupDs_map] at h
    exact ⟨ds, .inl rfl, PyData.tuple.inj h⟩
  | tuple ds =>
    have h : PyData.tuple (tupDs ds) = .tuple l := h
    rw [tupDs_map] at h
    exact ⟨ds, .inr rfl, PyData.tuple.inj h⟩
  | none => cases h
  | bool b => cases h
  | int i => cases h
  | str x => cases h
  | dict l => cases h
theorem soft_str {d : PyData} {x : Str} (h : tupD d = .str x) : d = .str x := by
  cases d <;> first | exact h | cases h
theorem soft_deed {d : PyData} {D : Deed} (h : tupD d = eDeed D) : ∃ r, SeqD d (.str D.kind :: r) ∧ r.map tupD = D.rest := by
  obtain ⟨ds, h1, h2⟩ := soft_seq h
  cases ds with
  | nil => cases h2
  | cons x r =>
    rw [List.map_cons] at h2
    have e := soft_str (List.cons.inj h2).1
    subst e
    exact ⟨r, h1, (List.cons.inj h2).2⟩
theorem okD_len {n : Nat} {d : PyData} {ds : List PyData} (h : okD (n + 1) d = true) (s : SeqD d ds) : ds.length ≤ 1000 := by
  rcases s with e | e <;> subst e <;> exact of_decide_eq_true (Bool.and_eq_true_iff.mp h).1
theorem okD_mem {n : Nat} {d x : PyData} {ds : List PyData} (h : okD (n + 1) d = true) (s : SeqD d ds) (hx : x ∈ ds) : okD n x = true := by
  rcases s with e | e <;> subst e <;> exact List.all_eq_true.mp (Bool.and_eq_true_iff.mp h).2 x hx
/-- a list and what its items are read as -/
def Alike {α : Type} (e : α → PyData) : List PyData → List α → Prop
  | [], [] => True
  | d :: ds, a :: as => tupD d = e a ∧ Alike e ds as
  | _, _ => False
theorem alike_of {α : Type} {e : α → PyData} : ∀ {ds : List PyData} {as : List α}, ds.map tupD = as.map e → Alike e ds as
  | [], [], _ => trivial
  | [], _ :: _, h => by cases h
  | _ :: _, [], h => by cases h
  | d :: ds, a :: as, h => by
    rw [List.map_cons, List.map_cons] at h
    exact ⟨(List.cons.inj h).1, alike_of (List.cons.inj h).2⟩
theorem Alike.fst {α : Type} {e : α → PyData} : ∀ {ds : List PyData} {as : List α}, Alike e ds as → (ds.zip as).map Prod.fst = ds
  | [], [], _ => rfl
  | [], _ :: _, h => h.elim
  | _ :: _, [], h => h.elim
  | d :: ds, a :: as, h => by rw [List.zip_cons_cons, List.map_cons, Alike.fst h.2]
theorem Alike.snd {α : Type} {e : α → PyData} : ∀ {ds : List PyData} {as : List α}, Alike e ds as → (ds.zip as).map Prod.snd = as
  | [], [], _ => rfl
  | [], _ :: _, h => h.elim
  | _ :: _, [], h => h.elim
  | d :: ds, a :: as, h => by rw [List.zip_cons_cons, List.map_cons, Alike.snd h.2]
theorem Alike.mem {α : Type} {e : α → PyData} : ∀ {ds : List PyData} {as : List α}, Alike e ds as → ∀ p ∈ ds.zip as, tupD p.1 = e p.2
  | [], [], _, p, hp => by cases hp
  | [], _ :: _, h, _, _ => h.elim
  | _ :: _, [], h, _, _ => h.elim
  | d :: ds, a :: as, h, p, hp => by
    rw [List.zip_cons_cons] at hp
    rcases List.mem_cons.mp hp with e | hp
    · rw [e]; exact h.1
    · exact Alike.mem h.2 p hp
/-! ### for walks through pure readings -/
section
variable {B : Bx} {rho rho' : List Sl} {mu : List (Addr × List PyData)} {T : Hp → Prop} {n c c1 c2 : Nat} {σ : L2.St} {H : Hp} {te ta tb : TE} {tt : TT} {D : Ends} {S S1 S2 : Sl → Prop} {s s1 s2 : Sl} {t1 t2 : TS}
theorem ed_fin (h : EvD B c te rho s) (e1 : c = c1) (e2 : s = s1) : EvD B c1 te rho s1 := e1 ▸ e2 ▸ h
theorem et_fin {b b1 : Bool} (h : EvT B c tt rho b) (e1 : c = c1) (e2 : b = b1) : EvT B c1 tt rho b1 := e1 ▸ e2 ▸ h
theorem er_fin (h : EvR B c te rho S) (e1 : c = c1) (e2 : ∀ s, S s → S1 s) : EvR B c1 te rho S1 := e1 ▸ h.imp e2
theorem er_d (h : EvR B c te rho S) (k : ∀ s, S s → s = s1) : EvD B c te rho s1 := h.imp k
theorem p_ret (hh : Holds B rho mu T n σ H) (u : Up T) (h : EvD B c te rho s) (hc : c = 0) (k : ∀ v H', Holds B rho mu (AndV B.K T v s) n σ H' → D.rt v H') : tRet te D σ H := by
  subst hc
  exact s_ret (c := 0) hh u h fun v s' H' e h' => by
    have e' : s' = s := e
    subst e'
    exact k v H' h'
theorem p_if {b : Bool} (hh : Holds B rho mu T n σ H) (u : Up T) (h : EvT B c tt rho b) (hc : c = 0) (k1 : b = true → ∀ H', Holds B rho mu T n σ H' → t1 D σ H') (k2 : b = false → ∀ H', Holds B rho mu T n σ H' → t2 D σ H') : tIfS tt t1 t2 D σ H := by
  subst hc
  exact s_if (c := 0) hh u h k1 k2
theorem p_asg {i : Nat} (hh : Holds B rho mu T n σ H) (u : Up T) (h : EvD B c te rho s) (hc : c = 0) (k : ∀ σ' H', Holds B (rho.set i s) mu T n σ' H' → D.nx σ' H') : tAsg te (gName i) D σ H := by
  subst hc
  exact s_asg (c := 0) hh u h fun s' σ' H' e h' => by
    have e' : s' = s := e
    subst e'
    exact k σ' H' h'
/-- if c: s1, and then t2 -/
theorem p_ifN {b : Bool} (hh : Holds B rho mu T n σ H) (u : Up T) (h : EvT B c tt rho b) (hc : c = 0) (k1 : b = true → ∀ H', Holds B rho mu T n σ H' → t1 { D with nx := t2 D } σ H') (k2 : b = false → ∀ H', Holds B rho mu T n σ H' → t2 D σ H') : tSeq (tIfS tt t1 tNext) t2 D σ H := by
  subst hc
  exact s_seq (s_if (c := 0) hh u h k1 k2)
/-- x = e, and then t2 -/
theorem p_asgN {i : Nat} (hh : Holds B rho mu T n σ H) (u : Up T) (h : EvD B c te rho s) (hc : c = 0) (k : ∀ σ' H', Holds B (rho.set i s) mu T n σ' H' → t2 D σ' H') : tSeq (tAsg te (gName i)) t2 D σ H := by
  subst hc
  exact s_seq (s_asg (c := 0) hh u h fun s' σ' H' e h' => by
    have e' : s' = s := e
    subst e'
    exact k σ' H' h')
/-- for x in xs: .., and then t2 -/
theorem p_forN {α β : Type} (xs : List α) (enc : α → PyData) (step : β → α → β) (inv : Nat → β → Prop) (x0 : β) (rhoI : β → List Sl) (muI : β → List (Addr × List PyData)) {wi : TI} {g : TG} {tb : TS}
    (hh : Holds B rho mu T n σ H) (u : Up T) (hw : EvW B c wi rho (fun L => L = xs.map enc)) (hc : c = 0) (hr : rhoI x0 = rho) (hm : muI x0 = mu) (h0 : inv 0 x0)
    (turn : ∀ i a x (T' : Hp → Prop) (m : Nat) (N : L2.St → Hp → Prop) σ' H' v, xs[i]? = some a → inv i x → Up T' → Holds B (rhoI x) (muI x) (AndV B.K T' v (.dat (enc a))) m σ' H' →
      (∀ σ2 H2, inv (i + 1) (step x a) → Holds B (rhoI (step x a)) (muI (step x a)) T' m σ2 H2 → N σ2 H2) → g v σ' H' fun σ2 H2 => tb { D with nx := N, ct := N, bk := fun σ H => t2 D σ H } σ2 H2)
    (done : ∀ σ' H', inv xs.length (xs.foldl step x0) → Holds B (rhoI (xs.foldl step x0)) (muI (xs.foldl step x0)) T n σ' H' → t2 D σ' H') : tSeq (tFor wi g tb) t2 D σ H := by
  subst hc
  refine s_seq (s_for (c0 := 0) (cN := 0) (cI := 0) (D := { D with nx := t2 D }) hh u hw (fun L i x => x = (xs.take i).foldl step x0 ∧ inv i x) rhoI muI x0 hr hm (fun L _ => ⟨rfl, h0⟩) (fun L _ => by omega) (fun L i d x T' m N σ' H' v hL hd hx up _ _ h1 q => ?_) fun L x σ' H' hL hx h1 => ?_)
  · have hL : L = xs.map enc := hL
    subst hL
    rw [List.getElem?_map] at hd
    obtain ⟨a, h2, h3⟩ := Option.map_eq_some_iff.mp hd
    subst h3
    have e : (xs.take (i + 1)).foldl step x0 = step x a := by
      rw [List.take_add_one, h2, hx.1, List.foldl_append]
      rfl
    exact turn i a x T' m N σ' H' v h2 hx.2 up h1 fun σ2 H2 h4 h5 => q (step x a) σ2 H2 ⟨e.symm, h4⟩ h5
  · have hL : L = xs.map enc := hL
    subst hL
    have e : x = xs.foldl step x0 := by
      have z := hx.1
      rw [List.length_map, List.take_length] at z
      exact z
    have z := hx.2
    rw [List.length_map] at z
    subst e
    exact done σ' H' z h1
/-- x, y = e, [], and then t2 -/
theorem p_parHotN {i j : Nat} (hh : Holds B rho mu T n σ H) (u : Up T) (h : EvD B c te rho s) (hc : c = 0) (k : ∀ p σ' H', Holds B ((rho.set i s).set j (.adr p)) ((p, []) :: mu) T n σ' H' → t2 D σ' H') : tSeq (tPar i j (tCons te (tCons (tLst tNil) tNil))) t2 D σ H := by
  subst hc
  exact s_seq (s_parHot (c := 0) hh u h fun s' p σ' H' e h' => by
    have e' : s' = s := e
    subst e'
    exact k p σ' H' h')
/-- x = [], and then t2 -/
theorem p_newHotN {i : Nat} (hh : Holds B rho mu T n σ H) (k : ∀ p σ' H', Holds B (rho.set i (.adr p)) ((p, []) :: mu) T n σ' H' → t2 D σ' H') : tSeq (tAsg (tLst tNil) (gName i)) t2 D σ H := s_seq (s_newHot hh k)
theorem p_ifS {b : Bool} {t3 : TS} (hh : Holds B rho mu T n σ H) (u : Up T) (h : EvT B c tt rho b) (hc : c = 0) (k1 : b = true → ∀ H', Holds B rho mu T n σ H' → t1 { D with nx := t3 D } σ H') (k2 : b = false → ∀ H', Holds B rho mu T n σ H' → t2 { D with nx := t3 D } σ H') : tSeq (tIfS tt t1 t2) t3 D σ H := by
  subst hc
  exact s_seq (s_if (c := 0) hh u h k1 k2)
theorem mem_flat {ss : List Str} : ∀ y ∈ ss.map PyData.str, flatD y = true := fun y hy => by
  obtain ⟨z, _, e⟩ := List.mem_map.mp hy
  rw [← e]
  rfl
theorem inD_str (x : Str) (s : List Str) : inD (.str x) (s.map .str) = s.contains x := by
  unfold inD inV
  rw [List.map_map]
  induction s with
  | nil => rfl
  | cons y s ih =>
    rw [List.map_cons, List.any_cons, ih, List.contains_cons]
    show (eqV (.str y) (.str x) || _) = _
    have e : eqV (.str y) (.str x) = (x == y) := by
      show (y == x) = (x == y)
      exact BEq.comm
    rw [e]
theorem os_inS {x : Str} {ss : List Str} : OpS B (rIn B.K false) (.dat (.str x)) (.dat (.tuple (ss.map .str))) (fun z => z = .dat (.bool (ss.contains x))) := by
  have h := os_in (B := B) (neg := false) (x := .str x) (ds := ss.map .str) rfl mem_flat (.inr rfl)
  rw [inD_str] at h
  exact h
theorem os_ninS {x : Str} {ss : List Str} : OpS B (rIn B.K true) (.dat (.str x)) (.dat (.tuple (ss.map .str))) (fun z => z = .dat (.bool (!ss.contains x))) := by
  have h := os_in (B := B) (neg := true) (x := .str x) (ds := ss.map .str) rfl mem_flat (.inr rfl)
  rw [inD_str] at h
  exact h
theorem os_ix0 {x : PyData} {l : List PyData} {d : PyData} (h : d = .list (x :: l) ∨ d = .tuple (x :: l)) : OpS B (rIx B.K) (.dat d) (.dat (.int 0)) (fun z => z = .dat x) := os_ix h (atI0 x l)
theorem os_add {i j : Int} : OpS B (rI0 fun i j => .int (i + j)) (.dat (.int i)) (.dat (.int j)) (fun z => z = .dat (.int (i + j))) := OpS.ofInt (f := fun i j => .int (i + j)) rfl rfl
theorem os_sub {i j : Int} : OpS B (rI0 fun i j => .int (i - j)) (.dat (.int i)) (.dat (.int j)) (fun z => z = .dat (.int (i - j))) := OpS.ofInt (f := fun i j => .int (i - j)) rfl rfl
theorem os_lt {i j : Int} : OpS B (rI0 fun i j => .bl (decide (i < j))) (.dat (.int i)) (.dat (.int j)) (fun z => z = .dat (.bool (decide (i < j)))) := OpS.ofInt (f := fun i j => .bool (decide (i < j))) rfl rfl
theorem os_le {i j : Int} : OpS B (rI0 fun i j => .bl (decide (i ≤ j))) (.dat (.int i)) (.dat (.int j)) (fun z => z = .dat (.bool (decide (i ≤ j)))) := OpS.ofInt (f := fun i j => .bool (decide (i ≤ j))) rfl rfl
theorem os_gt {i j : Int} : OpS B (rI0 fun i j => .bl (decide (j < i))) (.dat (.int i)) (.dat (.int j)) (fun z => z = .dat (.bool (decide (j < i)))) := OpS.ofInt (f := fun i j => .bool (decide (j < i))) rfl rfl
theorem os_ge {i j : Int} : OpS B (rI0 fun i j => .bl (decide (j ≤ i))) (.dat (.int i)) (.dat (.int j)) (fun z => z = .dat (.bool (decide (j ≤ i)))) := OpS.ofInt (f := fun i j => .bool (decide (j ≤ i))) rfl rfl
theorem ed_neg {i : Int} (h : EvD B c te rho (.dat (.int i))) : EvD B c (tUn (rU fun i => .int (-i)) te) rho (.dat (.int (-i))) := fun mu T n σ H u hh Q q => h mu T n σ H u hh _ fun v H1 s e h1 => by
  obtain ⟨C, a, b, hv⟩ := h1
  have e' : s = .dat (.int i) := e
  subst e'
  cases hv
  exact ⟨i, rfl, q _ H1 _ rfl ⟨C, a, b, .int _⟩⟩
theorem ed_nil : EvD B 0 (tLst tNil) rho (.dat (.list [])) := ed_lst (ds := []) ea_nil
theorem ed_nilT : EvD B 0 (tTup tNil) rho (.dat (.tuple [])) := ed_tup (ds := []) ea_nil
theorem cl_allM {α : Type} {xs : List α} {f : α → Bool} : ClS B 0 (rAll B.K) [.dat (.list (xs.map fun x => .bool (f x)))] (fun z => z = .dat (.bool ((xs.map f).all id))) := by
  have h := cl_all (B := B) (bs := xs.map f)
  rw [List.map_map] at h
  exact h
theorem cl_anyM {α : Type} {xs : List α} {f : α → Bool} : ClS B 0 (rAny B.K) [.dat (.list (xs.map fun x => .bool (f x)))] (fun z => z = .dat (.bool ((xs.map f).any id))) := by
  have h := cl_any (B := B) (bs := xs.map f)
  rw [List.map_map] at h
  exact h
end
end K30
set_option Elab.async false
set_option linter.all false
set_option maxRecDepth 100000
set_option maxHeartbeats 1000000
namespace K30
open PySem PySem.Spec PyProof.Rows L2
theorem sc_tupled : FnScope ["thing", "part"] ["thing"] (defScope (top 3)) := ⟨rfl, rfl, rfl, by decide +kernel, rfl, by decide +kernel, by decide +kernel⟩
def t_tupled (K : PySem.W.Frag) (sp_tupled : Sp) : TS := (tRet (tIf (tB (tCB (rIsiT K) (tCons (tVar 0) (tCons (tTup (tCons (tC (.ty "list")) (tCons (tC (.ty "tuple")) tNil))) tNil)))) (tCB (rTupleOf K) (tCons (tLc (iSeq K (tVar 0)) (gName 1) tYes (tCall sp_tupled [] E0 (tCons (tVar 1) tNil)) [1]) tNil)) (tVar 0)))
theorem ps_tupled {P : Program} {w : World} {K : PySem.W.Frag} {mg : Str → Option Value} {base : Heap} {k : Nat} {sp_tupled : Sp} (g : G0 K mg) (D_tupled : Df P w K mg base CX0 k "tupled" ["thing"] sp_tupled) {f : Addr} {cdv : Value} {A : Around} {outer : List Env} {s : Shared} {H : Hp} {E : XK} (hr : Room k (A.deeper (envOfC "tupled" (defScope (top 3)) s.heap.objs.size f cdv))) : PSs (cxOf CX0 P w K mg base ["thing", "part"] "tupled" (defScope (top 3)) f cdv A outer s H E).nox (defBody (top 3)) (t_tupled K sp_tupled) := by
  unfold t_tupled
  exact (by exact pss_one (by exact ps_ret (by exact pe_ifExp (by exact pt_val (by exact pe_callB call_isiT (by rfl) g.isinstance (by decide +kernel) (by exact pa_cons (by exact pv 0) (by exact pa_cons (by exact pe_tup (by exact pa_cons (by exact pe_bltn (v := .ty "list") (by rfl) g.list (by decide +kernel) rfl) (by exact pa_cons (by exact pe_bltn (v := .ty "tuple") (by rfl) g.tuple (by decide +kernel) rfl) pa_nil))) pa_nil)))) (by exact pe_callTy cr_tupleOf (by rfl) g.tuple (by decide +kernel) (by exact pa_cons (by exact pe_lc (own := [("part", 1)]) (wi := (iSeq K (tVar 0))) (g := (gName 1)) (tt := tYes) (te := (tCall sp_tupled [] E0 (tCons (tVar 1) tNil))) rfl sc_tupled.nd (by exact pi_seq (by exact pv 0)) (blkOk_by (N := ["thing", "part"]) (sc := defScope (top 3)) (by decide +kernel)) (fun _ _ _ _ _ => (by exact pg_name (i := 1) sc_tupled.nd rfl (Or.inl rfl))) (fun _ _ _ _ _ => pts_nil) (fun _ _ _ _ _ => (by exact pe_df D_tupled hr pass0 (by exact pa_cons (by exact pv 1) pa_nil)))) pa_nil)) (by exact pv 0))))
theorem sc_keeps : FnScope ["spot", "condition", "area", "inside"] ["spot", "condition"] (defScope (top 5)) := ⟨rfl, rfl, rfl, by decide +kernel, rfl, by decide +kernel, by decide +kernel⟩
def t_keeps (K : PySem.W.Frag) : TS := (tRet (tCB (rAll K) (tCons (tLc (iSeq K (tVar 1)) (gTup K 2 (gCons (gName 2) (gCons (gName 3) gNil))) tYes (tOp rEq (tOp (rIn K false) (tVar 2) (tVar 0)) (tVar 3)) [2, 3]) tNil)))
theorem ps_keeps {P : Program} {w : World} {K : PySem.W.Frag} {mg : Str → Option Value} {base : Heap} {k : Nat} (g : G0 K mg) {f : Addr} {cdv : Value} {A : Around} {outer : List Env} {s : Shared} {H : Hp} {E : XK} (hr : Room k (A.deeper (envOfC "keeps" (defScope (top 5)) s.heap.objs.size f cdv))) : PSs (cxOf CX0 P w K mg base ["spot", "condition", "area", "inside"] "keeps" (defScope (top 5)) f cdv A outer s H E).nox (defBody (top 5)) (t_keeps K) := by
  unfold t_keeps
  exact (by exact pss_one (by exact ps_ret (by exact pe_callB (cr_all rfl) (by rfl) g.all (by decide +kernel) (by exact pa_cons (by exact pe_lc (own := [("area", 2), ("inside", 3)]) (wi := (iSeq K (tVar 1))) (g := (gTup K 2 (gCons (gName 2) (gCons (gName 3) gNil)))) (tt := tYes) (te := (tOp rEq (tOp (rIn K false) (tVar 2) (tVar 0)) (tVar 3))) rfl sc_keeps.nd (by exact pi_seq (by exact pv 1)) (blkOk_by (N := ["spot", "condition", "area", "inside"]) (sc := defScope (top 5)) (by decide +kernel)) (fun _ _ _ _ _ => (by exact pg_tup rfl (by exact pgs_cons (by exact pg_name (i := 2) sc_keeps.nd rfl (Or.inl rfl)) (by exact pgs_cons (by exact pg_name (i := 3) sc_keeps.nd rfl (Or.inl rfl)) pgs_nil)))) (fun _ _ _ _ _ => pts_nil) (fun _ _ _ _ _ => (by exact pe_cmpR op_eq (by exact pe_cmpR op_in_seq (by exact pv 2) (by exact pv 0) (by rfl)) (by exact pv 3) (nomark _)))) pa_nil))))
theorem sc_is_in : FnScope ["spot", "cut", "condition"] ["spot", "cut"] (defScope (top 6)) := ⟨rfl, rfl, rfl, by decide +kernel, rfl, by decide +kernel, by decide +kernel⟩
def t_is_in (K : PySem.W.Frag) (sp_keeps : Sp) : TS := (tRet (tCB (rAny K) (tCons (tLc (iSeq K (tVar 1)) (gName 2) tYes (tCall sp_keeps [] E0 (tCons (tVar 0) (tCons (tVar 2) tNil))) [2]) tNil)))
theorem ps_is_in {P : Program} {w : World} {K : PySem.W.Frag} {mg : Str → Option Value} {base : Heap} {k : Nat} {sp_keeps : Sp} (g : G0 K mg) (D_keeps : Df P w K mg base CX0 k "keeps" ["spot", "condition"] sp_keeps) {f : Addr} {cdv : Value} {A : Around} {outer : List Env} {s : Shared} {H : Hp} {E : XK} (hr : Room k (A.deeper (envOfC "is_in" (defScope (top 6)) s.heap.objs.size f cdv))) : PSs (cxOf CX0 P w K mg base ["spot", "cut", "condition"] "is_in" (defScope (top 6)) f cdv A outer s H E).nox (defBody (top 6)) (t_is_in K sp_keeps) := by
  unfold t_is_in
  exact (by exact pss_one (by exact ps_ret (by exact pe_callB (cr_any rfl) (by rfl) g.any (by decide +kernel) (by exact pa_cons (by exact pe_lc (own := [("condition", 2)]) (wi := (iSeq K (tVar 1))) (g := (gName 2)) (tt := tYes) (te := (tCall sp_keeps [] E0 (tCons (tVar 0) (tCons (tVar 2) tNil)))) rfl sc_is_in.nd (by exact pi_seq (by exact pv 1)) (blkOk_by (N := ["spot", "cut", "condition"]) (sc := defScope (top 6)) (by decide +kernel)) (fun _ _ _ _ _ => (by exact pg_name (i := 2) sc_is_in.nd rfl (Or.inl rfl))) (fun _ _ _ _ _ => pts_nil) (fun _ _ _ _ _ => (by exact pe_df D_keeps hr pass0 (by exact pa_cons (by exact pv 0) (by exact pa_cons (by exact pv 2) pa_nil))))) pa_nil))))
theorem sc_owner_after : FnScope ["deed", "spot", "owner"] ["deed", "spot", "owner"] (defScope (top 13)) := ⟨rfl, rfl, rfl, by decide +kernel, rfl, by decide +kernel, by decide +kernel⟩
def t_owner_after (K : PySem.W.Frag) (sp_is_in : Sp) (tw : Addr) : TS := (tSeq (tIfS (tOr (tTest (tOp (rIn K true) (tOp (rIx K) (tVar 0) (tC (.int 0))) (tC (.ref tw)))) (tNot (tB (tCall sp_is_in [] E0 (tCons (tVar 1) (tCons (tOp (rIx K) (tVar 0) (tUn (rU fun i => .int (-i)) (tC (.int 1)))) tNil)))))) (tRet (tVar 2)) tNext) (tSeq (tIfS (tTest (tOp rEq (tOp (rIx K) (tVar 0) (tC (.int 0))) (tC (.str "vest")))) (tRet (tOp (rIx K) (tVar 0) (tC (.int 1)))) tNext) (tSeq (tIfS (tTest (tOp rEq (tVar 2) (tOp (rIx K) (tVar 0) (tC (.int 1))))) (tRet (tOp (rIx K) (tVar 0) (tC (.int 2)))) tNext) (tRet (tIf (tAnd (tTest (tOp rEq (tOp (rIx K) (tVar 0) (tC (.int 0))) (tC (.str "swap")))) (tTest (tOp rEq (tVar 2) (tOp (rIx K) (tVar 0) (tC (.int 2)))))) (tOp (rIx K) (tVar 0) (tC (.int 1))) (tVar 2))))))
theorem ps_owner_after {P : Program} {w : World} {K : PySem.W.Frag} {mg : Str → Option Value} {base : Heap} {k : Nat} {sp_is_in : Sp} (g : G0 K mg) {tw : Addr} (hw : mg "TITLE_WORDS" = some (.ref tw)) (D_is_in : Df P w K mg base CX0 k "is_in" ["spot", "cut"] sp_is_in) {f : Addr} {cdv : Value} {A : Around} {outer : List Env} {s : Shared} {H : Hp} {E : XK} (hr : Room k (A.deeper (envOfC "owner_after" (defScope (top 13)) s.heap.objs.size f cdv))) : PSs (cxOf CX0 P w K mg base ["deed", "spot", "owner"] "owner_after" (defScope (top 13)) f cdv A outer s H E).nox (defBody (top 13)) (t_owner_after K sp_is_in tw) := by
  unfold t_owner_after
  exact (by exact pss_cons (by exact ps_if (by exact PW.pt (by exact pw_or (by exact pt_cmpR op_notIn_seq (by exact pe_ix ix_seq (by exact pv 0) pe_int (fun _ _ => rfl)) (by exact pe_glob (by rfl) hw rfl) (by rfl)) (by exact pw_or1 (by exact pt_not (by exact pt_val (by exact pe_df D_is_in hr pass0 (by exact pa_cons (by exact pv 1) (by exact pa_cons (by exact pe_ix ix_seq (by exact pv 0) (by exact pe_un un_neg pe_int) (fun _ _ => rfl)) pa_nil)))))))) (by exact pss_one (by exact ps_ret (by exact pv 2))) pss_nil) (by exact pss_cons (by exact ps_if (by exact pt_cmpR op_eq (by exact pe_ix ix_seq (by exact pv 0) pe_int (fun _ _ => rfl)) (by exact pe_glob (by rfl) g.vest.choose_spec ⟨_, rfl⟩) (nomark _)) (by exact pss_one (by exact ps_ret (by exact pe_ix ix_seq (by exact pv 0) pe_int (fun _ _ => rfl)))) pss_nil) (by exact pss_cons (by exact ps_if (by exact pt_cmpR op_eq (by exact pv 2) (by exact pe_ix ix_seq (by exact pv 0) pe_int (fun _ _ => rfl)) (nomark _)) (by exact pss_one (by exact ps_ret (by exact pe_ix ix_seq (by exact pv 0) pe_int (fun _ _ => rfl)))) pss_nil) (by exact pss_one (by exact ps_ret (by exact pe_ifExp (by exact PW.pt (by exact pw_and (by exact pt_cmpR op_eq (by exact pe_ix ix_seq (by exact pv 0) pe_int (fun _ _ => rfl)) (by exact pe_glob (by rfl) g.swap.choose_spec ⟨_, rfl⟩) (nomark _)) (by exact pw_and1 (by exact pt_cmpR op_eq (by exact pv 2) (by exact pe_ix ix_seq (by exact pv 0) pe_int (fun _ _ => rfl)) (nomark _))))) (by exact pe_ix ix_seq (by exact pv 0) pe_int (fun _ _ => rfl)) (by exact pv 2)))))))
theorem sc_wholes_of : FnScope ["history", "place", "deed"] ["history"] (defScope (top 15)) := ⟨rfl, rfl, rfl, by decide +kernel, rfl, by decide +kernel, by decide +kernel⟩
def t_wholes_of (K : PySem.W.Frag) : TS := (tRet (tCB (rTupleOf K) (tCons (tLc (iEnumS K (tCons (tVar 0) tNil)) (gTup K 2 (gCons (gName 1) (gCons (gName 2) gNil))) (tTest (tOp rEq (tOp (rIx K) (tVar 2) (tC (.int 0))) (tC (.str "whole")))) (tVar 1) [1, 2]) tNil)))
theorem ps_wholes_of {P : Program} {w : World} {K : PySem.W.Frag} {mg : Str → Option Value} {base : Heap} {k : Nat} (g : G0 K mg) {f : Addr} {cdv : Value} {A : Around} {outer : List Env} {s : Shared} {H : Hp} {E : XK} (hr : Room k (A.deeper (envOfC "wholes_of" (defScope (top 15)) s.heap.objs.size f cdv))) : PSs (cxOf CX0 P w K mg base ["history", "place", "deed"] "wholes_of" (defScope (top 15)) f cdv A outer s H E).nox (defBody (top 15)) (t_wholes_of K) := by
  unfold t_wholes_of
  exact (by exact pss_one (by exact ps_ret (by exact pe_callTy cr_tupleOf (by rfl) g.tuple (by decide +kernel) (by exact pa_cons (by exact pe_lc (own := [("place", 1), ("deed", 2)]) (wi := (iEnumS K (tCons (tVar 0) tNil))) (g := (gTup K 2 (gCons (gName 1) (gCons (gName 2) gNil)))) (tt := (tTest (tOp rEq (tOp (rIx K) (tVar 2) (tC (.int 0))) (tC (.str "whole"))))) (te := (tVar 1)) rfl sc_wholes_of.nd (by exact pi_enumS g.enumerate (by exact pa_cons (by exact pv 0) pa_nil)) (blkOk_by (N := ["history", "place", "deed"]) (sc := defScope (top 15)) (by decide +kernel)) (fun _ _ _ _ _ => (by exact pg_tup rfl (by exact pgs_cons (by exact pg_name (i := 1) sc_wholes_of.nd rfl (Or.inl rfl)) (by exact pgs_cons (by exact pg_name (i := 2) sc_wholes_of.nd rfl (Or.inl rfl)) pgs_nil)))) (fun _ _ _ _ _ => (by exact pts_one (by exact pt_cmpR op_eq (by exact pe_ix ix_seq (by exact pv 2) pe_int (fun _ _ => rfl)) (by exact pe_glob (by rfl) g.whole.choose_spec ⟨_, rfl⟩) (nomark _)))) (fun _ _ _ _ _ => (by exact pv 1))) pa_nil))))
theorem sc_is_right : FnScope ["deed", "spot", "owner"] ["deed", "spot", "owner"] (defScope (top 18)) := ⟨rfl, rfl, rfl, by decide +kernel, rfl, by decide +kernel, by decide +kernel⟩
def t_is_right (K : PySem.W.Frag) (sp_is_in : Sp) : TS := (tRet (tOrV (tNotV (tCall sp_is_in [] E0 (tCons (tVar 1) (tCons (tOp (rIx K) (tVar 0) (tC (.int 3))) tNil)))) (tOp rEq (tVar 2) (tOp (rIx K) (tVar 0) (tC (.int 1))))))
theorem ps_is_right {P : Program} {w : World} {K : PySem.W.Frag} {mg : Str → Option Value} {base : Heap} {k : Nat} {sp_is_in : Sp} (g : G0 K mg) (D_is_in : Df P w K mg base CX0 k "is_in" ["spot", "cut"] sp_is_in) {f : Addr} {cdv : Value} {A : Around} {outer : List Env} {s : Shared} {H : Hp} {E : XK} (hr : Room k (A.deeper (envOfC "is_right" (defScope (top 18)) s.heap.objs.size f cdv))) : PSs (cxOf CX0 P w K mg base ["deed", "spot", "owner"] "is_right" (defScope (top 18)) f cdv A outer s H E).nox (defBody (top 18)) (t_is_right K sp_is_in) := by
  unfold t_is_right
  exact (by exact pss_one (by exact ps_ret (by exact pe_or (by exact pe_not (by exact pe_df D_is_in hr pass0 (by exact pa_cons (by exact pv 1) (by exact pa_cons (by exact pe_ix ix_seq (by exact pv 0) pe_int (fun _ _ => rfl)) pa_nil)))) (by exact pe_one (by exact pe_cmpR op_eq (by exact pv 2) (by exact pe_ix ix_seq (by exact pv 0) pe_int (fun _ _ => rfl)) (nomark _))))))
theorem sc_done : FnScope ["deed", "spot", "owner"] ["deed", "spot", "owner"] (defScope (top 19)) := ⟨rfl, rfl, rfl, by decide +kernel, rfl, by decide +kernel, by decide +kernel⟩
def t_done (K : PySem.W.Frag) (sp_owner_after : Sp) : TS := (tRet (tCall sp_owner_after [] E0 (tCons (tIf (tTest (tOp rEq (tOp (rIx K) (tVar 0) (tC (.int 0))) (tC (.str "whole")))) (tTup (tCons (tC (.str "give")) (StX.tStar K (tSl (rSlA K) (tVar 0) (tPart (tC (.int 1))) tNoPart) tNil))) (tVar 0)) (tCons (tVar 1) (tCons (tVar 2) tNil)))))
theorem ps_done {P : Program} {w : World} {K : PySem.W.Frag} {mg : Str → Option Value} {base : Heap} {k : Nat} {sp_owner_after : Sp} (g : G0 K mg) (D_owner_after : Df P w K mg base CX0 k "owner_after" ["deed", "spot", "owner"] sp_owner_after) {f : Addr} {cdv : Value} {A : Around} {outer : List Env} {s : Shared} {H : Hp} {E : XK} (hr : Room k (A.deeper (envOfC "done" (defScope (top 19)) s.heap.objs.size f cdv))) : PSs (cxOf CX0 P w K mg base ["deed", "spot", "owner"] "done" (defScope (top 19)) f cdv A outer s H E).nox (defBody (top 19)) (t_done K sp_owner_after) := by
  unfold t_done
  exact (by exact pss_one (by exact ps_ret (by exact pe_df D_owner_after hr pass0 (by exact pa_cons (by exact pe_ifExp (by exact pt_cmpR op_eq (by exact pe_ix ix_seq (by exact pv 0) pe_int (fun _ _ => rfl)) (by exact pe_glob (by rfl) g.whole.choose_spec ⟨_, rfl⟩) (nomark _)) (by exact pe_tup (by exact pa_cons (by exact pe_glob (by rfl) g.give.choose_spec ⟨_, rfl⟩) (by exact StX.pa_star (by exact pe_slice sl_tupA (by exact pv 0) (by exact po_some pe_int) po_none) pa_nil))) (by exact pv 0)) (by exact pa_cons (by exact pv 1) (by exact pa_cons (by exact pv 2) pa_nil))))))
theorem sc_play : FnScope ["world", "history", "owners", "points", "found", "place", "deed", "spots", "spot", "size", "first", "point", "owner"] ["world", "history"] (defScope (top 20)) := ⟨rfl, rfl, rfl, by decide +kernel, rfl, by decide +kernel, by decide +kernel⟩
def t_play (K : PySem.W.Frag) (sp_tupled : Sp) (sp_done : Sp) (sp_is_right : Sp) : TS := (tSeq (tPar 3 4 (tCons (tCall sp_tupled [] E0 (tCons (tVar 0) tNil)) (tCons (tLst tNil) tNil))) (tSeq (tAsg (tLc (iSeq K (tVar 3)) (gTup K 3 (gCons (gName 8) (gCons (gName 9) (gCons (gName 10) gNil)))) tYes (tVar 10) [8, 9, 10]) (gName 2)) (tSeq (tFor (iEnumS K (tCons (tCall sp_tupled [] E0 (tCons (tVar 1) tNil)) tNil)) (gTup K 2 (gCons (gName 5) (gCons (gName 6) gNil))) (tSeq (tAsg (tLc (iZipS K (tCons (tVar 3) (tCons (tVar 2) tNil))) (gTup K 2 (gCons (gName 11) (gCons (gName 12) gNil))) tYes (tTup (tCons (tOp (rIx K) (tVar 11) (tC (.int 0))) (tCons (tVar 12) tNil))) [11, 12]) (gName 7)) (tSeq (tIfS (tTest (tOp rEq (tOp (rIx K) (tVar 6) (tC (.int 0))) (tC (.str "whole")))) (tSeq (tIfS (tNot (tB (tCB (rAll K) (tCons (tLc (iSeq K (tVar 7)) (gTup K 2 (gCons (gName 8) (gCons (gName 12) gNil))) tYes (tCall sp_is_right [] E0 (tCons (tVar 6) (tCons (tVar 8) (tCons (tVar 12) tNil)))) [8, 12]) tNil)))) tCont tNext) (tDrop (tBM K "list" rAppend (tVar 4) (tCons (tVar 5) tNil)))) tNext) (tAsg (tLc (iSeq K (tVar 7)) (gTup K 2 (gCons (gName 8) (gCons (gName 12) gNil))) tYes (tCall sp_done [] E0 (tCons (tVar 6) (tCons (tVar 8) (tCons (tVar 12) tNil)))) [8, 12]) (gName 2))))) (tRet (tTup (tCons (tCB (rTupleOf K) (tCons (tVar 4) tNil)) (tCons (tCB (rTupleOf K) (tCons (tVar 2) tNil)) tNil)))))))
theorem ps_play {P : Program} {w : World} {K : PySem.W.Frag} {mg : Str → Option Value} {base : Heap} {k : Nat} {sp_tupled : Sp} {sp_done : Sp} {sp_is_right : Sp} (g : G0 K mg) (D_tupled : Df P w K mg base CX0 k "tupled" ["thing"] sp_tupled) (D_done : Df P w K mg base CX0 k "done" ["deed", "spot", "owner"] sp_done) (D_is_right : Df P w K mg base CX0 k "is_right" ["deed", "spot", "owner"] sp_is_right) {f : Addr} {cdv : Value} {A : Around} {outer : List Env} {s : Shared} {H : Hp} {E : XK} (hr : Room k (A.deeper (envOfC "play" (defScope (top 20)) s.heap.objs.size f cdv))) : PSs (cxOf CX0 P w K mg base ["world", "history", "owners", "points", "found", "place", "deed", "spots", "spot", "size", "first", "point", "owner"] "play" (defScope (top 20)) f cdv A outer s H E).nox (defBody (top 20)) (t_play K sp_tupled sp_done sp_is_right) := by
  unfold t_play
  exact (by exact pss_cons (by exact ps_par (i := 3) (j := 4) rfl sc_play.nd rfl rfl (by decide) rfl rfl (by exact pa_cons (by exact pe_df D_tupled hr pass0 (by exact pa_cons (by exact pv 0) pa_nil)) (by exact pa_cons (by exact pe_lst pa_nil) pa_nil)) (by rfl)) (by exact pss_cons (by exact ps_setLc (i := 2) (own := [("spot", 8), ("size", 9), ("first", 10)]) (wi := (iSeq K (tVar 3))) (g := (gTup K 3 (gCons (gName 8) (gCons (gName 9) (gCons (gName 10) gNil))))) (tt := tYes) (te := (tVar 10)) rfl sc_play.nd rfl rfl (sw_true rfl rfl rfl (by decide +kernel)) (by exact pi_seq (by exact pv 3)) (blkOk_by (N := ["world", "history", "owners", "points", "found", "place", "deed", "spots", "spot", "size", "first", "point", "owner"]) (sc := defScope (top 20)) (by decide +kernel)) (fun _ _ _ _ _ => (by exact pg_tup rfl (by exact pgs_cons (by exact pg_name (i := 8) sc_play.nd rfl (Or.inl rfl)) (by exact pgs_cons (by exact pg_name (i := 9) sc_play.nd rfl (Or.inl rfl)) (by exact pgs_cons (by exact pg_name (i := 10) sc_play.nd rfl (Or.inl rfl)) pgs_nil))))) (fun _ _ _ _ _ => pts_nil) (fun _ _ _ _ _ => (by exact pv 10))) (by exact pss_cons (by exact ps_for PassesOwn.never rfl (by exact pi_enumS g.enumerate (by exact pa_cons (by exact pe_df D_tupled hr pass0 (by exact pa_cons (by exact pv 1) pa_nil)) pa_nil)) (by exact pg_tup rfl (by exact pgs_cons (by exact pg_name (i := 5) sc_play.nd rfl (Or.inl rfl)) (by exact pgs_cons (by exact pg_name (i := 6) sc_play.nd rfl (Or.inr rfl)) pgs_nil))) (by exact pss_cons (by exact ps_setLc (i := 7) (own := [("point", 11), ("owner", 12)]) (wi := (iZipS K (tCons (tVar 3) (tCons (tVar 2) tNil)))) (g := (gTup K 2 (gCons (gName 11) (gCons (gName 12) gNil)))) (tt := tYes) (te := (tTup (tCons (tOp (rIx K) (tVar 11) (tC (.int 0))) (tCons (tVar 12) tNil)))) rfl sc_play.nd rfl rfl (sw_true rfl rfl rfl (by decide +kernel)) (by exact pi_zipS g.zip (by exact pa_cons (by exact pv 3) (by exact pa_cons (by exact pv 2) pa_nil))) (blkOk_by (N := ["world", "history", "owners", "points", "found", "place", "deed", "spots", "spot", "size", "first", "point", "owner"]) (sc := defScope (top 20)) (by decide +kernel)) (fun _ _ _ _ _ => (by exact pg_tup rfl (by exact pgs_cons (by exact pg_name (i := 11) sc_play.nd rfl (Or.inl rfl)) (by exact pgs_cons (by exact pg_name (i := 12) sc_play.nd rfl (Or.inl rfl)) pgs_nil)))) (fun _ _ _ _ _ => pts_nil) (fun _ _ _ _ _ => (by exact pe_tup (by exact pa_cons (by exact pe_ix ix_seq (by exact pv 11) pe_int (fun _ _ => rfl)) (by exact pa_cons (by exact pv 12) pa_nil))))) (by exact pss_cons (by exact ps_if (by exact pt_cmpR op_eq (by exact pe_ix ix_seq (by exact pv 6) pe_int (fun _ _ => rfl)) (by exact pe_glob (by rfl) g.whole.choose_spec ⟨_, rfl⟩) (nomark _)) (by exact pss_cons (by exact ps_if (by exact pt_not (by exact pt_val (by exact pe_callB (cr_all rfl) (by rfl) g.all (by decide +kernel) (by exact pa_cons (by exact pe_lc (own := [("spot", 8), ("owner", 12)]) (wi := (iSeq K (tVar 7))) (g := (gTup K 2 (gCons (gName 8) (gCons (gName 12) gNil)))) (tt := tYes) (te := (tCall sp_is_right [] E0 (tCons (tVar 6) (tCons (tVar 8) (tCons (tVar 12) tNil))))) rfl sc_play.nd (by exact pi_seq (by exact pv 7)) (blkOk_by (N := ["world", "history", "owners", "points", "found", "place", "deed", "spots", "spot", "size", "first", "point", "owner"]) (sc := defScope (top 20)) (by decide +kernel)) (fun _ _ _ _ _ => (by exact pg_tup rfl (by exact pgs_cons (by exact pg_name (i := 8) sc_play.nd rfl (Or.inl rfl)) (by exact pgs_cons (by exact pg_name (i := 12) sc_play.nd rfl (Or.inl rfl)) pgs_nil)))) (fun _ _ _ _ _ => pts_nil) (fun _ _ _ _ _ => (by exact pe_df D_is_right hr pass0 (by exact pa_cons (by exact pv 6) (by exact pa_cons (by exact pv 8) (by exact pa_cons (by exact pv 12) pa_nil)))))) pa_nil)))) (by exact pss_one ps_continue) pss_nil) (by exact pss_one (by exact ps_expr (by exact pe_bm PySem.F.plainAttrs_list PySem.F.slot_list_append PySem.F.type_list_append mt_append (by exact pv 4) (by exact pa_cons (by exact pv 5) pa_nil))))) pss_nil) (by exact pss_one (by exact ps_setLc (i := 2) (own := [("spot", 8), ("owner", 12)]) (wi := (iSeq K (tVar 7))) (g := (gTup K 2 (gCons (gName 8) (gCons (gName 12) gNil)))) (tt := tYes) (te := (tCall sp_done [] E0 (tCons (tVar 6) (tCons (tVar 8) (tCons (tVar 12) tNil))))) rfl sc_play.nd rfl rfl (sw_true rfl rfl rfl (by decide +kernel)) (by exact pi_seq (by exact pv 7)) (blkOk_by (N := ["world", "history", "owners", "points", "found", "place", "deed", "spots", "spot", "size", "first", "point", "owner"]) (sc := defScope (top 20)) (by decide +kernel)) (fun _ _ _ _ _ => (by exact pg_tup rfl (by exact pgs_cons (by exact pg_name (i := 8) sc_play.nd rfl (Or.inl rfl)) (by exact pgs_cons (by exact pg_name (i := 12) sc_play.nd rfl (Or.inl rfl)) pgs_nil)))) (fun _ _ _ _ _ => pts_nil) (fun _ _ _ _ _ => (by exact pe_df D_done hr pass0 (by exact pa_cons (by exact pv 6) (by exact pa_cons (by exact pv 8) (by exact pa_cons (by exact pv 12) pa_nil)))))))))) (by exact pss_one (by exact ps_ret (by exact pe_tup (by exact pa_cons (by exact pe_callTy cr_tupleOf (by rfl) g.tuple (by decide +kernel) (by exact pa_cons (by exact pv 4) pa_nil)) (by exact pa_cons (by exact pe_callTy cr_tupleOf (by rfl) g.tuple (by decide +kernel) (by exact pa_cons (by exact pv 2) pa_nil)) pa_nil))))))))
theorem sc_let_wholes : FnScope ["world", "history"] ["world", "history"] (defScope (top 21)) := ⟨rfl, rfl, rfl, by decide +kernel, rfl, by decide +kernel, by decide +kernel⟩
def t_let_wholes (K : PySem.W.Frag) (sp_play : Sp) : TS := (tRet (tOp (rIx K) (tCall sp_play [] E0 (tCons (tVar 0) (tCons (tVar 1) tNil))) (tC (.int 0))))
theorem ps_let_wholes {P : Program} {w : World} {K : PySem.W.Frag} {mg : Str → Option Value} {base : Heap} {k : Nat} {sp_play : Sp} (g : G0 K mg) (D_play : Df P w K mg base CX0 k "play" ["world", "history"] sp_play) {f : Addr} {cdv : Value} {A : Around} {outer : List Env} {s : Shared} {H : Hp} {E : XK} (hr : Room k (A.deeper (envOfC "let_wholes" (defScope (top 21)) s.heap.objs.size f cdv))) : PSs (cxOf CX0 P w K mg base ["world", "history"] "let_wholes" (defScope (top 21)) f cdv A outer s H E).nox (defBody (top 21)) (t_let_wholes K sp_play) := by
  unfold t_let_wholes
  exact (by exact pss_one (by exact ps_ret (by exact pe_ix ix_seq (by exact pe_df D_play hr pass0 (by exact pa_cons (by exact pv 0) (by exact pa_cons (by exact pv 1) pa_nil))) pe_int (fun _ _ => rfl))))
theorem sc_owners_in : FnScope ["world", "history"] ["world", "history"] (defScope (top 22)) := ⟨rfl, rfl, rfl, by decide +kernel, rfl, by decide +kernel, by decide +kernel⟩
def t_owners_in (K : PySem.W.Frag) (sp_play : Sp) : TS := (tRet (tOp (rIx K) (tCall sp_play [] E0 (tCons (tVar 0) (tCons (tVar 1) tNil))) (tC (.int 1))))
theorem ps_owners_in {P : Program} {w : World} {K : PySem.W.Frag} {mg : Str → Option Value} {base : Heap} {k : Nat} {sp_play : Sp} (g : G0 K mg) (D_play : Df P w K mg base CX0 k "play" ["world", "history"] sp_play) {f : Addr} {cdv : Value} {A : Around} {outer : List Env} {s : Shared} {H : Hp} {E : XK} (hr : Room k (A.deeper (envOfC "owners_in" (defScope (top 22)) s.heap.objs.size f cdv))) : PSs (cxOf CX0 P w K mg base ["world", "history"] "owners_in" (defScope (top 22)) f cdv A outer s H E).nox (defBody (top 22)) (t_owners_in K sp_play) := by
  unfold t_owners_in
  exact (by exact pss_one (by exact ps_ret (by exact pe_ix ix_seq (by exact pe_df D_play hr pass0 (by exact pa_cons (by exact pv 0) (by exact pa_cons (by exact pv 1) pa_nil))) pe_int (fun _ _ => rfl))))
end K30
set_option Elab.async false
set_option linter.all false
set_option maxRecDepth 100000
set_option maxHeartbeats 1000000
namespace K30
open PySem PySem.Spec PyProof.Rows L2
theorem sc_law_in : FnScope ["_law_spot_so", "_law_cut_so", "_law_own", "_law_tag", "_law_side_so"] ["_law_spot_so", "_law_cut_so"] (defScope (top 32)) := ⟨rfl, rfl, rfl, by decide +kernel, rfl, by decide +kernel, by decide +kernel⟩
def t_law_in (K : PySem.W.Frag) : TS := (tSeq (tFor (iSeq K (tVar 1)) (gName 2) (tIfS (tTest (tOp (rEqD K) (tLc (iSeq K (tVar 2)) (gTup K 2 (gCons (gName 3) (gCons (gName 4) gNil))) (tTest (tOp rNe (tOp (rIn K false) (tVar 3) (tVar 0)) (tVar 4))) (tVar 3) [3, 4]) (tLst tNil))) (tRet (tC (.bl true))) tNext)) (tRet (tC (.bl false))))
theorem ps_law_in {P : Program} {w : World} {K : PySem.W.Frag} {mg : Str → Option Value} {base : Heap} {k : Nat} (g : G0 K mg) {f : Addr} {cdv : Value} {A : Around} {outer : List Env} {s : Shared} {H : Hp} {E : XK} (hr : Room k (A.deeper (envOfC "_law_in" (defScope (top 32)) s.heap.objs.size f cdv))) : PSs (cxOf CX0 P w K mg base ["_law_spot_so", "_law_cut_so", "_law_own", "_law_tag", "_law_side_so"] "_law_in" (defScope (top 32)) f cdv A outer s H E).nox (defBody (top 32)) (t_law_in K) := by
  unfold t_law_in
  exact (by exact pss_cons (by exact ps_for PassesOwn.never rfl (by exact pi_seq (by exact pv 1)) (by exact pg_name (i := 2) sc_law_in.nd rfl (Or.inl rfl)) (by exact pss_one (by exact ps_if (by exact pt_cmpR (op_eqD hr.units) (by exact pe_lc (own := [("_law_tag", 3), ("_law_side_so", 4)]) (wi := (iSeq K (tVar 2))) (g := (gTup K 2 (gCons (gName 3) (gCons (gName 4) gNil)))) (tt := (tTest (tOp rNe (tOp (rIn K false) (tVar 3) (tVar 0)) (tVar 4)))) (te := (tVar 3)) rfl sc_law_in.nd (by exact pi_seq (by exact pv 2)) (blkOk_by (N := ["_law_spot_so", "_law_cut_so", "_law_own", "_law_tag", "_law_side_so"]) (sc := defScope (top 32)) (by decide +kernel)) (fun _ _ _ _ _ => (by exact pg_tup rfl (by exact pgs_cons (by exact pg_name (i := 3) sc_law_in.nd rfl (Or.inl rfl)) (by exact pgs_cons (by exact pg_name (i := 4) sc_law_in.nd rfl (Or.inl rfl)) pgs_nil)))) (fun _ _ _ _ _ => (by exact pts_one (by exact pt_cmpR op_ne (by exact pe_cmpR op_in_seq (by exact pv 3) (by exact pv 0) (by rfl)) (by exact pv 4) (nomark _)))) (fun _ _ _ _ _ => (by exact pv 3))) (by exact pe_lst pa_nil) (nomark _)) (by exact pss_one (by exact ps_ret pe_bl)) pss_nil))) (by exact pss_one (by exact ps_ret pe_bl)))
theorem sc_law_let : FnScope ["_law_chart_so", "_law_own"] ["_law_chart_so"] (defScope (top 33)) := ⟨rfl, rfl, rfl, by decide +kernel, rfl, by decide +kernel, by decide +kernel⟩
def t_law_let (K : PySem.W.Frag) (sp_law_spots : Sp) (sp_law_in : Sp) : TS := (tRet (tLc (iSeq K (tCall sp_law_spots [] E0 (tCons (tOp (rIx K) (tVar 0) (tC (.int 0))) tNil))) (gName 1) (tNot (tB (tCall sp_law_in [] E0 (tCons (tVar 1) (tCons (tOp (rIx K) (tVar 0) (tC (.int 1))) tNil))))) (tVar 1) [1]))
theorem ps_law_let {P : Program} {w : World} {K : PySem.W.Frag} {mg : Str → Option Value} {base : Heap} {k : Nat} {sp_law_spots : Sp} {sp_law_in : Sp} (g : G0 K mg) (D_law_spots : Df P w K mg base CX0 k "_law_spots" ["_law_areas_so"] sp_law_spots) (D_law_in : Df P w K mg base CX0 k "_law_in" ["_law_spot_so", "_law_cut_so"] sp_law_in) {f : Addr} {cdv : Value} {A : Around} {outer : List Env} {s : Shared} {H : Hp} {E : XK} (hr : Room k (A.deeper (envOfC "_law_let" (defScope (top 33)) s.heap.objs.size f cdv))) : PSs (cxOf CX0 P w K mg base ["_law_chart_so", "_law_own"] "_law_let" (defScope (top 33)) f cdv A outer s H E).nox (defBody (top 33)) (t_law_let K sp_law_spots sp_law_in) := by
  unfold t_law_let
  exact (by exact pss_one (by exact ps_ret (by exact pe_lc (own := [("_law_own", 1)]) (wi := (iSeq K (tCall sp_law_spots [] E0 (tCons (tOp (rIx K) (tVar 0) (tC (.int 0))) tNil)))) (g := (gName 1)) (tt := (tNot (tB (tCall sp_law_in [] E0 (tCons (tVar 1) (tCons (tOp (rIx K) (tVar 0) (tC (.int 1))) tNil)))))) (te := (tVar 1)) rfl sc_law_let.nd (by exact pi_seq (by exact pe_df D_law_spots hr pass0 (by exact pa_cons (by exact pe_ix ix_seq (by exact pv 0) pe_int (fun _ _ => rfl)) pa_nil))) (blkOk_by (N := ["_law_chart_so", "_law_own"]) (sc := defScope (top 33)) (by decide +kernel)) (fun _ _ _ _ _ => (by exact pg_name (i := 1) sc_law_let.nd rfl (Or.inl rfl))) (fun _ _ _ _ _ => (by exact pts_one (by exact pt_not (by exact pt_val (by exact pe_df D_law_in hr pass0 (by exact pa_cons (by exact pv 1) (by exact pa_cons (by exact pe_ix ix_seq (by exact pv 0) pe_int (fun _ _ => rfl)) pa_nil))))))) (fun _ _ _ _ _ => (by exact pv 1)))))
theorem sc_law_turned : FnScope ["_law_deed_so", "_law_spot_so", "_law_owner_so"] ["_law_deed_so", "_law_spot_so", "_law_owner_so"] (defScope (top 39)) := ⟨rfl, rfl, rfl, by decide +kernel, rfl, by decide +kernel, by decide +kernel⟩
def t_law_turned (K : PySem.W.Frag) (sp_law_in : Sp) : TS := (tSeq (tIfS (tOr (tTest (tOp (rIn K true) (tOp (rIx K) (tVar 0) (tC (.int 0))) (tTup (tCons (tC (.str "give")) (tCons (tC (.str "vest")) (tCons (tC (.str "swap")) (tCons (tC (.str "whole")) tNil))))))) (tNot (tB (tCall sp_law_in [] E0 (tCons (tVar 1) (tCons (tOp (rIx K) (tVar 0) (tUn (rU fun i => .int (-i)) (tC (.int 1)))) tNil)))))) (tRet (tVar 2)) tNext) (tSeq (tIfS (tTest (tOp rEq (tOp (rIx K) (tVar 0) (tC (.int 0))) (tC (.str "vest")))) (tRet (tOp (rIx K) (tVar 0) (tC (.int 1)))) tNext) (tSeq (tIfS (tTest (tOp rEq (tVar 2) (tOp (rIx K) (tVar 0) (tC (.int 1))))) (tRet (tOp (rIx K) (tVar 0) (tC (.int 2)))) tNext) (tRet (tIf (tAnd (tTest (tOp rEq (tOp (rIx K) (tVar 0) (tC (.int 0))) (tC (.str "swap")))) (tTest (tOp rEq (tVar 2) (tOp (rIx K) (tVar 0) (tC (.int 2)))))) (tOp (rIx K) (tVar 0) (tC (.int 1))) (tVar 2))))))
theorem ps_law_turned {P : Program} {w : World} {K : PySem.W.Frag} {mg : Str → Option Value} {base : Heap} {k : Nat} {sp_law_in : Sp} (g : G0 K mg) (D_law_in : Df P w K mg base CX0 k "_law_in" ["_law_spot_so", "_law_cut_so"] sp_law_in) {f : Addr} {cdv : Value} {A : Around} {outer : List Env} {s : Shared} {H : Hp} {E : XK} (hr : Room k (A.deeper (envOfC "_law_turned" (defScope (top 39)) s.heap.objs.size f cdv))) : PSs (cxOf CX0 P w K mg base ["_law_deed_so", "_law_spot_so", "_law_owner_so"] "_law_turned" (defScope (top 39)) f cdv A outer s H E).nox (defBody (top 39)) (t_law_turned K sp_law_in) := by
  unfold t_law_turned
  exact (by exact pss_cons (by exact ps_if (by exact PW.pt (by exact pw_or (by exact pt_cmpR op_notIn_seq (by exact pe_ix ix_seq (by exact pv 0) pe_int (fun _ _ => rfl)) (by exact pe_tup (by exact pa_cons pe_str (by exact pa_cons pe_str (by exact pa_cons pe_str (by exact pa_cons pe_str pa_nil))))) (by rfl)) (by exact pw_or1 (by exact pt_not (by exact pt_val (by exact pe_df D_law_in hr pass0 (by exact pa_cons (by exact pv 1) (by exact pa_cons (by exact pe_ix ix_seq (by exact pv 0) (by exact pe_un un_neg pe_int) (fun _ _ => rfl)) pa_nil)))))))) (by exact pss_one (by exact ps_ret (by exact pv 2))) pss_nil) (by exact pss_cons (by exact ps_if (by exact pt_cmpR op_eq (by exact pe_ix ix_seq (by exact pv 0) pe_int (fun _ _ => rfl)) pe_str (nomark _)) (by exact pss_one (by exact ps_ret (by exact pe_ix ix_seq (by exact pv 0) pe_int (fun _ _ => rfl)))) pss_nil) (by exact pss_cons (by exact ps_if (by exact pt_cmpR op_eq (by exact pv 2) (by exact pe_ix ix_seq (by exact pv 0) pe_int (fun _ _ => rfl)) (nomark _)) (by exact pss_one (by exact ps_ret (by exact pe_ix ix_seq (by exact pv 0) pe_int (fun _ _ => rfl)))) pss_nil) (by exact pss_one (by exact ps_ret (by exact pe_ifExp (by exact PW.pt (by exact pw_and (by exact pt_cmpR op_eq (by exact pe_ix ix_seq (by exact pv 0) pe_int (fun _ _ => rfl)) pe_str (nomark _)) (by exact pw_and1 (by exact pt_cmpR op_eq (by exact pv 2) (by exact pe_ix ix_seq (by exact pv 0) pe_int (fun _ _ => rfl)) (nomark _))))) (by exact pe_ix ix_seq (by exact pv 0) pe_int (fun _ _ => rfl)) (by exact pv 2)))))))
theorem sc_law_wholes : FnScope ["_law_deeds_so", "_law_k", "_law_deed_so"] ["_law_deeds_so"] (defScope (top 40)) := ⟨rfl, rfl, rfl, by decide +kernel, rfl, by decide +kernel, by decide +kernel⟩
def t_law_wholes (K : PySem.W.Frag) : TS := (tRet (tLc (iEnumS K (tCons (tVar 0) tNil)) (gTup K 2 (gCons (gName 1) (gCons (gName 2) gNil))) (tTest (tOp rEq (tOp (rIx K) (tVar 2) (tC (.int 0))) (tC (.str "whole")))) (tVar 1) [1, 2]))
theorem ps_law_wholes {P : Program} {w : World} {K : PySem.W.Frag} {mg : Str → Option Value} {base : Heap} {k : Nat} (g : G0 K mg) {f : Addr} {cdv : Value} {A : Around} {outer : List Env} {s : Shared} {H : Hp} {E : XK} (hr : Room k (A.deeper (envOfC "_law_wholes" (defScope (top 40)) s.heap.objs.size f cdv))) : PSs (cxOf CX0 P w K mg base ["_law_deeds_so", "_law_k", "_law_deed_so"] "_law_wholes" (defScope (top 40)) f cdv A outer s H E).nox (defBody (top 40)) (t_law_wholes K) := by
  unfold t_law_wholes
  exact (by exact pss_one (by exact ps_ret (by exact pe_lc (own := [("_law_k", 1), ("_law_deed_so", 2)]) (wi := (iEnumS K (tCons (tVar 0) tNil))) (g := (gTup K 2 (gCons (gName 1) (gCons (gName 2) gNil)))) (tt := (tTest (tOp rEq (tOp (rIx K) (tVar 2) (tC (.int 0))) (tC (.str "whole"))))) (te := (tVar 1)) rfl sc_law_wholes.nd (by exact pi_enumS g.enumerate (by exact pa_cons (by exact pv 0) pa_nil)) (blkOk_by (N := ["_law_deeds_so", "_law_k", "_law_deed_so"]) (sc := defScope (top 40)) (by decide +kernel)) (fun _ _ _ _ _ => (by exact pg_tup rfl (by exact pgs_cons (by exact pg_name (i := 1) sc_law_wholes.nd rfl (Or.inl rfl)) (by exact pgs_cons (by exact pg_name (i := 2) sc_law_wholes.nd rfl (Or.inl rfl)) pgs_nil)))) (fun _ _ _ _ _ => (by exact pts_one (by exact pt_cmpR op_eq (by exact pe_ix ix_seq (by exact pv 2) pe_int (fun _ _ => rfl)) pe_str (nomark _)))) (fun _ _ _ _ _ => (by exact pv 1)))))
theorem sc_law_lists : FnScope ["_law_matter_so", "_law_bit"] ["_law_matter_so"] (defScope (top 28)) := ⟨rfl, rfl, rfl, by decide +kernel, rfl, by decide +kernel, by decide +kernel⟩
def t_law_lists (K : PySem.W.Frag) (sp_law_lists : Sp) : TS := (tRet (tIf (tB (tCB (rIsiT K) (tCons (tVar 0) (tCons (tTup (tCons (tC (.ty "list")) (tCons (tC (.ty "tuple")) tNil))) tNil)))) (tLc (iSeq K (tVar 0)) (gName 1) tYes (tCall sp_law_lists [] E0 (tCons (tVar 1) tNil)) [1]) (tVar 0)))
theorem ps_law_lists {P : Program} {w : World} {K : PySem.W.Frag} {mg : Str → Option Value} {base : Heap} {k : Nat} {sp_law_lists : Sp} (g : G0 K mg) (D_law_lists : Df P w K mg base CX0 k "_law_lists" ["_law_matter_so"] sp_law_lists) {f : Addr} {cdv : Value} {A : Around} {outer : List Env} {s : Shared} {H : Hp} {E : XK} (hr : Room k (A.deeper (envOfC "_law_lists" (defScope (top 28)) s.heap.objs.size f cdv))) : PSs (cxOf CX0 P w K mg base ["_law_matter_so", "_law_bit"] "_law_lists" (defScope (top 28)) f cdv A outer s H E).nox (defBody (top 28)) (t_law_lists K sp_law_lists) := by
  unfold t_law_lists
  exact (by exact pss_one (by exact ps_ret (by exact pe_ifExp (by exact pt_val (by exact pe_callB call_isiT (by rfl) g.isinstance (by decide +kernel) (by exact pa_cons (by exact pv 0) (by exact pa_cons (by exact pe_tup (by exact pa_cons (by exact pe_bltn (v := .ty "list") (by rfl) g.list (by decide +kernel) rfl) (by exact pa_cons (by exact pe_bltn (v := .ty "tuple") (by rfl) g.tuple (by decide +kernel) rfl) pa_nil))) pa_nil)))) (by exact pe_lc (own := [("_law_bit", 1)]) (wi := (iSeq K (tVar 0))) (g := (gName 1)) (tt := tYes) (te := (tCall sp_law_lists [] E0 (tCons (tVar 1) tNil))) rfl sc_law_lists.nd (by exact pi_seq (by exact pv 0)) (blkOk_by (N := ["_law_matter_so", "_law_bit"]) (sc := defScope (top 28)) (by decide +kernel)) (fun _ _ _ _ _ => (by exact pg_name (i := 1) sc_law_lists.nd rfl (Or.inl rfl))) (fun _ _ _ _ _ => pts_nil) (fun _ _ _ _ _ => (by exact pe_df D_law_lists hr pass0 (by exact pa_cons (by exact pv 1) pa_nil)))) (by exact pv 0))))
theorem sc_law_same : FnScope ["_law_got", "_law_due", "_law_mine", "_law_its"] ["_law_got", "_law_due"] (defScope (top 27)) := ⟨rfl, rfl, rfl, by decide +kernel, rfl, by decide +kernel, by decide +kernel⟩
def t_law_same (K : PySem.W.Frag) (sp_law_same : Sp) : TS := (tSeq (tIfS (tB (tCB (rIsiT K) (tCons (tVar 1) (tCons (tTup (tCons (tC (.ty "list")) (tCons (tC (.ty "tuple")) tNil))) tNil)))) (tSeq (tIfS (tOr (tTest (tOp rNe (tCB (rIsi K) (tCons (tVar 0) (tCons (tC (.ty "list")) tNil))) (tCB (rIsi K) (tCons (tVar 1) (tCons (tC (.ty "list")) tNil))))) (tTest (tOp rNe (tCB (rIsi K) (tCons (tVar 0) (tCons (tC (.ty "tuple")) tNil))) (tCB (rIsi K) (tCons (tVar 1) (tCons (tC (.ty "tuple")) tNil)))))) (tRet (tC (.bl false))) tNext) (tRet (tAndV (tOp rEq (tCB (rLenOf K) (tCons (tVar 0) tNil)) (tCB (rLenOf K) (tCons (tVar 1) tNil))) (tCB (rAll K) (tCons (tLc (iZipS K (tCons (tVar 0) (tCons (tVar 1) tNil))) (gTup K 2 (gCons (gName 2) (gCons (gName 3) gNil))) tYes (tCall sp_law_same [] E0 (tCons (tVar 2) (tCons (tVar 3) tNil))) [2, 3]) tNil))))) tNext) (tSeq (tIfS (tOr (tTest (tOp (fun x y H Q => y = .non ∧ Q (.bl (decide (x = .non))) H) (tVar 1) (tC .non))) (tB (tCB (rIsiT K) (tCons (tVar 1) (tCons (tTup (tCons (tC (.ty "bool")) (tCons (tC (.ty "str")) tNil))) tNil))))) (tRet (tAndV (tOp rEq (tVar 0) (tVar 1)) (tAndV (tOp rEq (tCB (rIsi K) (tCons (tVar 0) (tCons (tC (.ty "bool")) tNil))) (tCB (rIsi K) (tCons (tVar 1) (tCons (tC (.ty "bool")) tNil)))) (tOp rEq (tOp (fun x y H Q => y = .non ∧ Q (.bl (decide (x = .non))) H) (tVar 0) (tC .non)) (tOp (fun x y H Q => y = .non ∧ Q (.bl (decide (x = .non))) H) (tVar 1) (tC .non)))))) tNext) (tRet (tAndV (tCB (rIsi K) (tCons (tVar 0) (tCons (tC (.ty "int")) tNil))) (tAndV (tNotV (tCB (rIsi K) (tCons (tVar 0) (tCons (tC (.ty "bool")) tNil)))) (tOp rEq (tVar 0) (tVar 1)))))))
theorem ps_law_same {P : Program} {w : World} {K : PySem.W.Frag} {mg : Str → Option Value} {base : Heap} {k : Nat} {sp_law_same : Sp} (g : G0 K mg) (D_law_same : Df P w K mg base CX0 k "_law_same" ["_law_got", "_law_due"] sp_law_same) {f : Addr} {cdv : Value} {A : Around} {outer : List Env} {s : Shared} {H : Hp} {E : XK} (hr : Room k (A.deeper (envOfC "_law_same" (defScope (top 27)) s.heap.objs.size f cdv))) : PSs (cxOf CX0 P w K mg base ["_law_got", "_law_due", "_law_mine", "_law_its"] "_law_same" (defScope (top 27)) f cdv A outer s H E).nox (defBody (top 27)) (t_law_same K sp_law_same) := by
  unfold t_law_same
  exact (by exact pss_cons (by exact ps_if (by exact pt_val (by exact pe_callB call_isiT (by rfl) g.isinstance (by decide +kernel) (by exact pa_cons (by exact pv 1) (by exact pa_cons (by exact pe_tup (by exact pa_cons (by exact pe_bltn (v := .ty "list") (by rfl) g.list (by decide +kernel) rfl) (by exact pa_cons (by exact pe_bltn (v := .ty "tuple") (by rfl) g.tuple (by decide +kernel) rfl) pa_nil))) pa_nil)))) (by exact pss_cons (by exact ps_if (by exact PW.pt (by exact pw_or (by exact pt_cmpR op_ne (by exact pe_callB call_isi (by rfl) g.isinstance (by decide +kernel) (by exact pa_cons (by exact pv 0) (by exact pa_cons (by exact pe_bltn (v := .ty "list") (by rfl) g.list (by decide +kernel) rfl) pa_nil))) (by exact pe_callB call_isi (by rfl) g.isinstance (by decide +kernel) (by exact pa_cons (by exact pv 1) (by exact pa_cons (by exact pe_bltn (v := .ty "list") (by rfl) g.list (by decide +kernel) rfl) pa_nil))) (nomark _)) (by exact pw_or1 (by exact pt_cmpR op_ne (by exact pe_callB call_isi (by rfl) g.isinstance (by decide +kernel) (by exact pa_cons (by exact pv 0) (by exact pa_cons (by exact pe_bltn (v := .ty "tuple") (by rfl) g.tuple (by decide +kernel) rfl) pa_nil))) (by exact pe_callB call_isi (by rfl) g.isinstance (by decide +kernel) (by exact pa_cons (by exact pv 1) (by exact pa_cons (by exact pe_bltn (v := .ty "tuple") (by rfl) g.tuple (by decide +kernel) rfl) pa_nil))) (nomark _))))) (by exact pss_one (by exact ps_ret pe_bl)) pss_nil) (by exact pss_one (by exact ps_ret (by exact pe_and (by exact pe_cmpR op_eq (by exact pe_callB cr_lenOf (by rfl) g.len (by decide +kernel) (by exact pa_cons (by exact pv 0) pa_nil)) (by exact pe_callB cr_lenOf (by rfl) g.len (by decide +kernel) (by exact pa_cons (by exact pv 1) pa_nil)) (nomark _)) (by exact pe_one (by exact pe_callB (cr_all rfl) (by rfl) g.all (by decide +kernel) (by exact pa_cons (by exact pe_lc (own := [("_law_mine", 2), ("_law_its", 3)]) (wi := (iZipS K (tCons (tVar 0) (tCons (tVar 1) tNil)))) (g := (gTup K 2 (gCons (gName 2) (gCons (gName 3) gNil)))) (tt := tYes) (te := (tCall sp_law_same [] E0 (tCons (tVar 2) (tCons (tVar 3) tNil)))) rfl sc_law_same.nd (by exact pi_zipS g.zip (by exact pa_cons (by exact pv 0) (by exact pa_cons (by exact pv 1) pa_nil))) (blkOk_by (N := ["_law_got", "_law_due", "_law_mine", "_law_its"]) (sc := defScope (top 27)) (by decide +kernel)) (fun _ _ _ _ _ => (by exact pg_tup rfl (by exact pgs_cons (by exact pg_name (i := 2) sc_law_same.nd rfl (Or.inl rfl)) (by exact pgs_cons (by exact pg_name (i := 3) sc_law_same.nd rfl (Or.inl rfl)) pgs_nil)))) (fun _ _ _ _ _ => pts_nil) (fun _ _ _ _ _ => (by exact pe_df D_law_same hr pass0 (by exact pa_cons (by exact pv 2) (by exact pa_cons (by exact pv 3) pa_nil))))) pa_nil))))))) pss_nil) (by exact pss_cons (by exact ps_if (by exact PW.pt (by exact pw_or (by exact pt_cmpR op_isN (by exact pv 1) pe_non (nomark _)) (by exact pw_or1 (by exact pt_val (by exact pe_callB call_isiT (by rfl) g.isinstance (by decide +kernel) (by exact pa_cons (by exact pv 1) (by exact pa_cons (by exact pe_tup (by exact pa_cons (by exact pe_bltn (v := .ty "bool") (by rfl) g.bool (by decide +kernel) rfl) (by exact pa_cons (by exact pe_bltn (v := .ty "str") (by rfl) g.str (by decide +kernel) rfl) pa_nil))) pa_nil))))))) (by exact pss_one (by exact ps_ret (by exact pe_and (by exact pe_cmpR op_eq (by exact pv 0) (by exact pv 1) (nomark _)) (by exact pe_and (by exact pe_cmpR op_eq (by exact pe_callB call_isi (by rfl) g.isinstance (by decide +kernel) (by exact pa_cons (by exact pv 0) (by exact pa_cons (by exact pe_bltn (v := .ty "bool") (by rfl) g.bool (by decide +kernel) rfl) pa_nil))) (by exact pe_callB call_isi (by rfl) g.isinstance (by decide +kernel) (by exact pa_cons (by exact pv 1) (by exact pa_cons (by exact pe_bltn (v := .ty "bool") (by rfl) g.bool (by decide +kernel) rfl) pa_nil))) (nomark _)) (by exact pe_one (by exact pe_cmpR op_eq (by exact pe_cmpR op_isN (by exact pv 0) pe_non (nomark _)) (by exact pe_cmpR op_isN (by exact pv 1) pe_non (nomark _)) (nomark _))))))) pss_nil) (by exact pss_one (by exact ps_ret (by exact pe_and (by exact pe_callB call_isi (by rfl) g.isinstance (by decide +kernel) (by exact pa_cons (by exact pv 0) (by exact pa_cons (by exact pe_bltn (v := .ty "int") (by rfl) g.int (by decide +kernel) rfl) pa_nil))) (by exact pe_and (by exact pe_not (by exact pe_callB call_isi (by rfl) g.isinstance (by decide +kernel) (by exact pa_cons (by exact pv 0) (by exact pa_cons (by exact pe_bltn (v := .ty "bool") (by rfl) g.bool (by decide +kernel) rfl) pa_nil)))) (by exact pe_one (by exact pe_cmpR op_eq (by exact pv 0) (by exact pv 1) (nomark _)))))))))
theorem sc_law_left : FnScope ["_law_deeds_so", "_law_lot_so", "_law_found", "_law_k", "_law_own"] ["_law_deeds_so", "_law_lot_so"] (defScope (top 45)) := ⟨rfl, rfl, rfl, by decide +kernel, rfl, by decide +kernel, by decide +kernel⟩
def t_law_left (K : PySem.W.Frag) : TS := (tSeq (tAsg (tLst tNil) (gName 2)) (tSeq (tFor (iEnumS K (tCons (tVar 0) tNil)) (gTup K 2 (gCons (gName 3) (gCons (gName 4) gNil))) (tIfS (tOr (tTest (tOp rNe (tOp (rIx K) (tVar 4) (tC (.int 0))) (tC (.str "whole")))) (tTest (tOp (rIn K false) (tVar 3) (tVar 1)))) (tDrop (tBM K "list" rAppend (tVar 2) (tCons (tIf (tTest (tOp rEq (tOp (rIx K) (tVar 4) (tC (.int 0))) (tC (.str "whole")))) (tOp (rCatA K) (tTup (tCons (tC (.str "give")) tNil)) (tSl (rSlA K) (tVar 4) (tPart (tC (.int 1))) tNoPart)) (tVar 4)) tNil))) tNext)) (tRet (tCB (rTupleOf K) (tCons (tVar 2) tNil)))))
theorem ps_law_left {P : Program} {w : World} {K : PySem.W.Frag} {mg : Str → Option Value} {base : Heap} {k : Nat} (g : G0 K mg) {f : Addr} {cdv : Value} {A : Around} {outer : List Env} {s : Shared} {H : Hp} {E : XK} (hr : Room k (A.deeper (envOfC "_law_left" (defScope (top 45)) s.heap.objs.size f cdv))) : PSs (cxOf CX0 P w K mg base ["_law_deeds_so", "_law_lot_so", "_law_found", "_law_k", "_law_own"] "_law_left" (defScope (top 45)) f cdv A outer s H E).nox (defBody (top 45)) (t_law_left K) := by
  unfold t_law_left
  exact (by exact pss_cons (by exact ps_set (i := 2) sc_law_left.nd rfl (Or.inl rfl) (by exact pe_lst pa_nil)) (by exact pss_cons (by exact ps_for PassesOwn.never rfl (by exact pi_enumS g.enumerate (by exact pa_cons (by exact pv 0) pa_nil)) (by exact pg_tup rfl (by exact pgs_cons (by exact pg_name (i := 3) sc_law_left.nd rfl (Or.inl rfl)) (by exact pgs_cons (by exact pg_name (i := 4) sc_law_left.nd rfl (Or.inl rfl)) pgs_nil))) (by exact pss_one (by exact ps_if (by exact PW.pt (by exact pw_or (by exact pt_cmpR op_ne (by exact pe_ix ix_seq (by exact pv 4) pe_int (fun _ _ => rfl)) pe_str (nomark _)) (by exact pw_or1 (by exact pt_cmpR op_in_seq (by exact pv 3) (by exact pv 1) (by rfl))))) (by exact pss_one (by exact ps_expr (by exact pe_bm PySem.F.plainAttrs_list PySem.F.slot_list_append PySem.F.type_list_append mt_append (by exact pv 2) (by exact pa_cons (by exact pe_ifExp (by exact pt_cmpR op_eq (by exact pe_ix ix_seq (by exact pv 4) pe_int (fun _ _ => rfl)) pe_str (nomark _)) (by exact pe_op op_catA (by exact pe_tup (by exact pa_cons pe_str pa_nil)) (by exact pe_slice sl_tupA (by exact pv 4) (by exact po_some pe_int) po_none)) (by exact pv 4)) pa_nil)))) pss_nil))) (by exact pss_one (by exact ps_ret (by exact pe_callTy cr_tupleOf (by rfl) g.tuple (by decide +kernel) (by exact pa_cons (by exact pv 2) pa_nil))))))
theorem sc_law_play : FnScope ["_law_world_so", "_law_deeds_so", "_law_owners_so", "_law_fine", "_law_bad_so", "_law_k", "_law_deed_so", "_law_odd_so", "_law_j", "_law_own"] ["_law_world_so", "_law_deeds_so"] (defScope (top 41)) := ⟨rfl, rfl, rfl, by decide +kernel, rfl, by decide +kernel, by decide +kernel⟩
def t_law_play (K : PySem.W.Frag) (sp_law_turned : Sp) (sp_law_in : Sp) : TS := (tSeq (tAsg (tTup (tCons (tLc (iSeq K (tVar 0)) (gName 9) tYes (tOp (rIx K) (tVar 9) (tC (.int 2))) [9]) (tCons (tLst tNil) (tCons tDNewK tNil)))) (gTup K 3 (gCons (gName 2) (gCons (gName 3) (gCons (gName 4) gNil))))) (tSeq (tFor (iEnumS K (tCons (tVar 1) tNil)) (gTup K 2 (gCons (gName 5) (gCons (gName 6) gNil))) (tSeq (tAsg (tLst tNil) (gName 7)) (tSeq (tFor (iEnumS K (tCons (tVar 0) tNil)) (gTup K 2 (gCons (gName 8) (gCons (gName 9) gNil))) (tIfS (tAnd (tTest (tOp rEq (tOp (rIx K) (tVar 6) (tC (.int 0))) (tC (.str "whole")))) (tAnd (tB (tCall sp_law_in [] E0 (tCons (tOp (rIx K) (tVar 9) (tC (.int 0))) (tCons (tOp (rIx K) (tVar 6) (tUn (rU fun i => .int (-i)) (tC (.int 1)))) tNil)))) (tTest (tOp rNe (tOp (rIx K) (tVar 2) (tVar 8)) (tOp (rIx K) (tVar 6) (tC (.int 1))))))) (tDrop (tBM K "list" rAppend (tVar 7) (tCons (tVar 8) tNil))) tNext)) (tSeq (tIfS (tTest (tOp rEq (tOp (rIx K) (tVar 6) (tC (.int 0))) (tC (.str "whole")))) (tSeq (sDPut (tVar 4) (tVar 5) (tVar 7)) (tAsg (tOp rCat (tVar 3) (tIf (tTest (tOp (rEqD K) (tVar 7) (tLst tNil))) (tLst (tCons (tVar 5) tNil)) (tLst tNil))) (gName 3))) tNext) (tIfS (tTest (tOp (rEqD K) (tVar 7) (tLst tNil))) (tAsg (tLc (iEnumS K (tCons (tVar 0) tNil)) (gTup K 2 (gCons (gName 8) (gCons (gName 9) gNil))) tYes (tCall sp_law_turned [] E0 (tCons (tVar 6) (tCons (tOp (rIx K) (tVar 9) (tC (.int 0))) (tCons (tOp (rIx K) (tVar 2) (tVar 8)) tNil)))) [8, 9]) (gName 2)) tNext))))) (tRet (tTup (tCons (tCB (rTupleOf K) (tCons (tVar 3) tNil)) (tCons (tCB (rTupleOf K) (tCons (tVar 2) tNil)) (tCons (tVar 4) tNil)))))))
theorem ps_law_play {P : Program} {w : World} {K : PySem.W.Frag} {mg : Str → Option Value} {base : Heap} {k : Nat} {sp_law_turned : Sp} {sp_law_in : Sp} (g : G0 K mg) (D_law_turned : Df P w K mg base CX0 k "_law_turned" ["_law_deed_so", "_law_spot_so", "_law_owner_so"] sp_law_turned) (D_law_in : Df P w K mg base CX0 k "_law_in" ["_law_spot_so", "_law_cut_so"] sp_law_in) {f : Addr} {cdv : Value} {A : Around} {outer : List Env} {s : Shared} {H : Hp} {E : XK} (hr : Room k (A.deeper (envOfC "_law_play" (defScope (top 41)) s.heap.objs.size f cdv))) : PSs (cxOf CX0 P w K mg base ["_law_world_so", "_law_deeds_so", "_law_owners_so", "_law_fine", "_law_bad_so", "_law_k", "_law_deed_so", "_law_odd_so", "_law_j", "_law_own"] "_law_play" (defScope (top 41)) f cdv A outer s H E).nox (defBody (top 41)) (t_law_play K sp_law_turned sp_law_in) := by
  unfold t_law_play
  exact (by exact pss_cons (by exact ps_asg (by exact pe_tup (by exact pa_cons (by exact pe_lc (own := [("_law_own", 9)]) (wi := (iSeq K (tVar 0))) (g := (gName 9)) (tt := tYes) (te := (tOp (rIx K) (tVar 9) (tC (.int 2)))) rfl sc_law_play.nd (by exact pi_seq (by exact pv 0)) (blkOk_by (N := ["_law_world_so", "_law_deeds_so", "_law_owners_so", "_law_fine", "_law_bad_so", "_law_k", "_law_deed_so", "_law_odd_so", "_law_j", "_law_own"]) (sc := defScope (top 41)) (by decide +kernel)) (fun _ _ _ _ _ => (by exact pg_name (i := 9) sc_law_play.nd rfl (Or.inl rfl))) (fun _ _ _ _ _ => pts_nil) (fun _ _ _ _ _ => (by exact pe_ix ix_seq (by exact pv 9) pe_int (fun _ _ => rfl)))) (by exact pa_cons (by exact pe_lst pa_nil) (by exact pa_cons pe_dnewK pa_nil)))) (by exact pg_tup rfl (by exact pgs_cons (by exact pg_name (i := 2) sc_law_play.nd rfl (Or.inr rfl)) (by exact pgs_cons (by exact pg_name (i := 3) sc_law_play.nd rfl (Or.inl rfl)) (by exact pgs_cons (by exact pg_name (i := 4) sc_law_play.nd rfl (Or.inl rfl)) pgs_nil))))) (by exact pss_cons (by exact ps_for PassesOwn.never rfl (by exact pi_enumS g.enumerate (by exact pa_cons (by exact pv 1) pa_nil)) (by exact pg_tup rfl (by exact pgs_cons (by exact pg_name (i := 5) sc_law_play.nd rfl (Or.inl rfl)) (by exact pgs_cons (by exact pg_name (i := 6) sc_law_play.nd rfl (Or.inr rfl)) pgs_nil))) (by exact pss_cons (by exact ps_set (i := 7) sc_law_play.nd rfl (Or.inl rfl) (by exact pe_lst pa_nil)) (by exact pss_cons (by exact ps_for PassesOwn.never rfl (by exact pi_enumS g.enumerate (by exact pa_cons (by exact pv 0) pa_nil)) (by exact pg_tup rfl (by exact pgs_cons (by exact pg_name (i := 8) sc_law_play.nd rfl (Or.inl rfl)) (by exact pgs_cons (by exact pg_name (i := 9) sc_law_play.nd rfl (Or.inl rfl)) pgs_nil))) (by exact pss_one (by exact ps_if (by exact PW.pt (by exact pw_and (by exact pt_cmpR op_eq (by exact pe_ix ix_seq (by exact pv 6) pe_int (fun _ _ => rfl)) pe_str (nomark _)) (by exact pw_and (by exact pt_val (by exact pe_df D_law_in hr pass0 (by exact pa_cons (by exact pe_ix ix_seq (by exact pv 9) pe_int (fun _ _ => rfl)) (by exact pa_cons (by exact pe_ix ix_seq (by exact pv 6) (by exact pe_un un_neg pe_int) (fun _ _ => rfl)) pa_nil)))) (by exact pw_and1 (by exact pt_cmpR op_ne (by exact pe_ix ix_seq (by exact pv 2) (by exact pv 8) (fun _ _ => rfl)) (by exact pe_ix ix_seq (by exact pv 6) pe_int (fun _ _ => rfl)) (nomark _)))))) (by exact pss_one (by exact ps_expr (by exact pe_bm PySem.F.plainAttrs_list PySem.F.slot_list_append PySem.F.type_list_append mt_append (by exact pv 7) (by exact pa_cons (by exact pv 8) pa_nil)))) pss_nil))) (by exact pss_cons (by exact ps_if (by exact pt_cmpR op_eq (by exact pe_ix ix_seq (by exact pv 6) pe_int (fun _ _ => rfl)) pe_str (nomark _)) (by exact pss_cons (by exact ps_dput (hu_of hr) (by exact pv 4) (by exact pv 5) (by exact pv 7) rfl) (by exact pss_one (by exact ps_set (i := 3) sc_law_play.nd rfl (Or.inl rfl) (by exact pe_op op_cat (by exact pv 3) (by exact pe_ifExp (by exact pt_cmpR (op_eqD hr.units) (by exact pv 7) (by exact pe_lst pa_nil) (nomark _)) (by exact pe_lst (by exact pa_cons (by exact pv 5) pa_nil)) (by exact pe_lst pa_nil)))))) pss_nil) (by exact pss_one (by exact ps_if (by exact pt_cmpR (op_eqD hr.units) (by exact pv 7) (by exact pe_lst pa_nil) (nomark _)) (by exact pss_one (by exact ps_set (i := 2) sc_law_play.nd rfl (Or.inr rfl) (by exact pe_lc (own := [("_law_j", 8), ("_law_own", 9)]) (wi := (iEnumS K (tCons (tVar 0) tNil))) (g := (gTup K 2 (gCons (gName 8) (gCons (gName 9) gNil)))) (tt := tYes) (te := (tCall sp_law_turned [] E0 (tCons (tVar 6) (tCons (tOp (rIx K) (tVar 9) (tC (.int 0))) (tCons (tOp (rIx K) (tVar 2) (tVar 8)) tNil))))) rfl sc_law_play.nd (by exact pi_enumS g.enumerate (by exact pa_cons (by exact pv 0) pa_nil)) (blkOk_by (N := ["_law_world_so", "_law_deeds_so", "_law_owners_so", "_law_fine", "_law_bad_so", "_law_k", "_law_deed_so", "_law_odd_so", "_law_j", "_law_own"]) (sc := defScope (top 41)) (by decide +kernel)) (fun _ _ _ _ _ => (by exact pg_tup rfl (by exact pgs_cons (by exact pg_name (i := 8) sc_law_play.nd rfl (Or.inl rfl)) (by exact pgs_cons (by exact pg_name (i := 9) sc_law_play.nd rfl (Or.inl rfl)) pgs_nil)))) (fun _ _ _ _ _ => pts_nil) (fun _ _ _ _ _ => (by exact pe_df D_law_turned hr pass0 (by exact pa_cons (by exact pv 6) (by exact pa_cons (by exact pe_ix ix_seq (by exact pv 9) pe_int (fun _ _ => rfl)) (by exact pa_cons (by exact pe_ix ix_seq (by exact pv 2) (by exact pv 8) (fun _ _ => rfl)) pa_nil)))))))) pss_nil)))))) (by exact pss_one (by exact ps_ret (by exact pe_tup (by exact pa_cons (by exact pe_callTy cr_tupleOf (by rfl) g.tuple (by decide +kernel) (by exact pa_cons (by exact pv 3) pa_nil)) (by exact pa_cons (by exact pe_callTy cr_tupleOf (by rfl) g.tuple (by decide +kernel) (by exact pa_cons (by exact pv 2) pa_nil)) (by exact pa_cons (by exact pv 4) pa_nil))))))))
end K30
set_option Elab.async false
set_option linter.all false
set_option maxRecDepth 100000
set_option maxHeartbeats 1000000
namespace K30
open PySem PySem.Spec PyProof.Rows L2
theorem sc_law_box : FnScope ["_law_script", "_law_k", "_law_cell"] ["_law_script", "_law_k"] (defScope (top 24)) := ⟨rfl, rfl, rfl, by decide +kernel, rfl, by decide +kernel, by decide +kernel⟩
def t_law_box (K : PySem.W.Frag) : TS := (tSeq (tAsg (tIf (tTest (tOp (rI0 fun i j => .bl (decide (i < j))) (tVar 1) (tCB (rLenOf K) (tCons (tVar 0) tNil)))) (tOp (rIx K) (tVar 0) (tVar 1)) (tC (.int 0))) (gName 2)) (tRet (tLst (tCons (tOp (rI CMul fun i j => .int (i * j)) (tCB rAbsOf (tCons (tVar 2) tNil)) (tCB rIntOf (tCons (tOp (rI0 fun i j => .bl (decide (j ≤ i))) (tCB rAbsOf (tCons (tVar 2) tNil)) (tOp (rI CPow fun i j => .int (i ^ j.toNat)) (tC (.int 10)) (tC (.int 18)))) tNil))) (tCons (tOp (rI0 fun i j => .int (i + j)) (tOp (rI0 fun i j => .int (i + j)) (tOp (rI (fun _ j => 0 < j) fun i j => .int (i % j)) (tCB rIntOf (tCons (tVar 2) tNil)) (tC (.int 2305843009213693951))) (tOp (rI CMul fun i j => .int (i * j)) (tC (.int 39373)) (tVar 1))) (tC (.int 1071030))) (tCons (tC (.int 0)) tNil))))))
theorem ps_law_box {P : Program} {w : World} {K : PySem.W.Frag} {mg : Str → Option Value} {base : Heap} {k : Nat} (g : G0 K mg) {f : Addr} {cdv : Value} {A : Around} {outer : List Env} {s : Shared} {H : Hp} {E : XK} (hr : Room k (A.deeper (envOfC "_law_box" (defScope (top 24)) s.heap.objs.size f cdv))) : PSs (cxOf CX0 P w K mg base ["_law_script", "_law_k", "_law_cell"] "_law_box" (defScope (top 24)) f cdv A outer s H E).nox (defBody (top 24)) (t_law_box K) := by
  unfold t_law_box
  exact (by exact pss_cons (by exact ps_set (i := 2) sc_law_box.nd rfl (Or.inl rfl) (by exact pe_ifExp (by exact pt_cmpR op_lt (by exact pv 1) (by exact pe_callB cr_lenOf (by rfl) g.len (by decide +kernel) (by exact pa_cons (by exact pv 0) pa_nil)) (nomark _)) (by exact pe_ix ix_seq (by exact pv 0) (by exact pv 1) (fun _ _ => rfl)) pe_int)) (by exact pss_one (by exact ps_ret (by exact pe_lst (by exact pa_cons (by exact pe_op op_mul (by exact pe_callB cr_absOf (by rfl) g.abs (by decide +kernel) (by exact pa_cons (by exact pv 2) pa_nil)) (by exact pe_callTy cr_intOf (by rfl) g.int (by decide +kernel) (by exact pa_cons (by exact pe_cmpR op_ge (by exact pe_callB cr_absOf (by rfl) g.abs (by decide +kernel) (by exact pa_cons (by exact pv 2) pa_nil)) (by exact pe_op op_pow pe_int pe_int) (nomark _)) pa_nil))) (by exact pa_cons (by exact pe_op op_add (by exact pe_op op_add (by exact pe_op op_mod (by exact pe_callTy cr_intOf (by rfl) g.int (by decide +kernel) (by exact pa_cons (by exact pv 2) pa_nil)) pe_int) (by exact pe_op op_mul pe_int (by exact pv 1))) pe_int) (by exact pa_cons pe_int pa_nil)))))))
theorem sc_law_take : FnScope ["_law_box_here", "_law_below_so", "_law_once", "_law_far", "_law_twice", "_law_drawn"] ["_law_box_here", "_law_below_so"] (defScope (top 25)) := ⟨rfl, rfl, rfl, by decide +kernel, rfl, by decide +kernel, by decide +kernel⟩
def t_law_take (K : PySem.W.Frag) : TS := (tSeq (tIfS (tTest (tOp (rI0 fun i j => .bl (decide (j < i))) (tOp (rIx K) (tVar 0) (tC (.int 0))) (tC (.int 0)))) (tSeq (tAsg (tOp (rI (fun _ j => 0 < j) fun i j => .int (i % j)) (tCB rIntOf (tCons (tOp (rIx K) (tVar 0) (tC (.int 0))) tNil)) (tVar 1)) (gName 5)) (tSeq (tAsg (tOp (rI CDiv fun i j => .int (i / j)) (tOp (rIx K) (tVar 0) (tC (.int 0))) (tVar 1)) (gSub (tVar 0) (tC (.int 0)) rSetL)) (tRet (tVar 5)))) tNext) (tSeq (tAsg (tOp (rI0 fun i j => .int (i + j)) (tOp (rIx K) (tVar 0) (tC (.int 2))) (tC (.int 1))) (gSub (tVar 0) (tC (.int 2)) rSetL)) (tSeq (tAsg (tOp (rI (fun _ j => 0 < j) fun i j => .int (i % j)) (tCB rIntOf (tCons (tOp (rI CMul fun i j => .int (i * j)) (tOp (rI0 fun i j => .int (i + j)) (tOp (rIx K) (tVar 0) (tC (.int 1))) (tOp (rI CMul fun i j => .int (i * j)) (tC (.int 48271)) (tOp (rIx K) (tVar 0) (tC (.int 2))))) (tOp (rI0 fun i j => .int (i + j)) (tC (.int 39373)) (tOp (rIx K) (tVar 0) (tC (.int 2))))) tNil)) (tC (.int 2147483647))) (gName 2)) (tSeq (tAsg (tOp (rI0 fun i j => .int (i + j)) (tOp (rI (fun _ j => 0 < j) fun i j => .int (i % j)) (tCB rIntOf (tCons (tVar 2) tNil)) (tC (.int 40009))) (tC (.int 7))) (gName 3)) (tSeq (tAsg (tOp (rI (fun _ j => 0 < j) fun i j => .int (i % j)) (tCB rIntOf (tCons (tOp (rI CMul fun i j => .int (i * j)) (tOp (rI0 fun i j => .int (i + j)) (tOp (rI0 fun i j => .int (i + j)) (tVar 2) (tOp (rIx K) (tVar 0) (tC (.int 2)))) (tOp (rI CDiv fun i j => .int (i / j)) (tOp (rIx K) (tVar 0) (tC (.int 1))) (tC (.int 1000003)))) (tVar 3)) tNil)) (tC (.int 2147483629))) (gName 4)) (tRet (tOp (rI (fun _ j => 0 < j) fun i j => .int (i % j)) (tCB rIntOf (tCons (tOp (rI CDiv fun i j => .int (i / j)) (tOp (rI (fun _ j => 0 < j) fun i j => .int (i % j)) (tCB rIntOf (tCons (tOp (rI0 fun i j => .int (i + j)) (tOp (rI CMul fun i j => .int (i * j)) (tVar 4) (tC (.int 48271))) (tVar 2)) tNil)) (tC (.int 2147483587))) (tC (.int 64))) tNil)) (tVar 1))))))))
theorem ps_law_take {P : Program} {w : World} {K : PySem.W.Frag} {mg : Str → Option Value} {base : Heap} {k : Nat} (g : G0 K mg) {f : Addr} {cdv : Value} {A : Around} {outer : List Env} {s : Shared} {H : Hp} {E : XK} (hr : Room k (A.deeper (envOfC "_law_take" (defScope (top 25)) s.heap.objs.size f cdv))) : PSs (cxOf CX0 P w K mg base ["_law_box_here", "_law_below_so", "_law_once", "_law_far", "_law_twice", "_law_drawn"] "_law_take" (defScope (top 25)) f cdv A outer s H E).nox (defBody (top 25)) (t_law_take K) := by
  unfold t_law_take
  exact (by exact pss_cons (by exact ps_if (by exact pt_cmpR op_gt (by exact pe_ix ix_seq (by exact pv 0) pe_int (fun _ _ => rfl)) pe_int (nomark _)) (by exact pss_cons (by exact ps_set (i := 5) sc_law_take.nd rfl (Or.inl rfl) (by exact pe_op op_mod (by exact pe_callTy cr_intOf (by rfl) g.int (by decide +kernel) (by exact pa_cons (by exact pe_ix ix_seq (by exact pv 0) pe_int (fun _ _ => rfl)) pa_nil)) (by exact pv 1))) (by exact pss_cons (by exact ps_asg (by exact pe_op op_fdiv (by exact pe_ix ix_seq (by exact pv 0) pe_int (fun _ _ => rfl)) (by exact pv 1)) (by exact pg_sub (by exact pv 0) pe_int set_list)) (by exact pss_one (by exact ps_ret (by exact pv 5))))) pss_nil) (by exact pss_cons (by exact ps_asg (by exact pe_op op_add (by exact pe_ix ix_seq (by exact pv 0) pe_int (fun _ _ => rfl)) pe_int) (by exact pg_sub (by exact pv 0) pe_int set_list)) (by exact pss_cons (by exact ps_set (i := 2) sc_law_take.nd rfl (Or.inl rfl) (by exact pe_op op_mod (by exact pe_callTy cr_intOf (by rfl) g.int (by decide +kernel) (by exact pa_cons (by exact pe_op op_mul (by exact pe_op op_add (by exact pe_ix ix_seq (by exact pv 0) pe_int (fun _ _ => rfl)) (by exact pe_op op_mul pe_int (by exact pe_ix ix_seq (by exact pv 0) pe_int (fun _ _ => rfl)))) (by exact pe_op op_add pe_int (by exact pe_ix ix_seq (by exact pv 0) pe_int (fun _ _ => rfl)))) pa_nil)) pe_int)) (by exact pss_cons (by exact ps_set (i := 3) sc_law_take.nd rfl (Or.inl rfl) (by exact pe_op op_add (by exact pe_op op_mod (by exact pe_callTy cr_intOf (by rfl) g.int (by decide +kernel) (by exact pa_cons (by exact pv 2) pa_nil)) pe_int) pe_int)) (by exact pss_cons (by exact ps_set (i := 4) sc_law_take.nd rfl (Or.inl rfl) (by exact pe_op op_mod (by exact pe_callTy cr_intOf (by rfl) g.int (by decide +kernel) (by exact pa_cons (by exact pe_op op_mul (by exact pe_op op_add (by exact pe_op op_add (by exact pv 2) (by exact pe_ix ix_seq (by exact pv 0) pe_int (fun _ _ => rfl))) (by exact pe_op op_fdiv (by exact pe_ix ix_seq (by exact pv 0) pe_int (fun _ _ => rfl)) pe_int)) (by exact pv 3)) pa_nil)) pe_int)) (by exact pss_one (by exact ps_ret (by exact pe_op op_mod (by exact pe_callTy cr_intOf (by rfl) g.int (by decide +kernel) (by exact pa_cons (by exact pe_op op_fdiv (by exact pe_op op_mod (by exact pe_callTy cr_intOf (by rfl) g.int (by decide +kernel) (by exact pa_cons (by exact pe_op op_add (by exact pe_op op_mul (by exact pv 4) pe_int) (by exact pv 2)) pa_nil)) pe_int) pe_int) pa_nil)) (by exact pv 1)))))))))
theorem sc_law_cells : FnScope ["_law_script", "_law_top_so", "_law_cells_so", "_law_k", "_law_cell", "_law_at_so"] ["_law_script", "_law_top_so"] (defScope (top 26)) := ⟨rfl, rfl, rfl, by decide +kernel, rfl, by decide +kernel, by decide +kernel⟩
def t_law_cells (K : PySem.W.Frag) : TS := (tSeq (tAsg (tOrT K (tCB (rListOf K) (tCons (tSl (rSlL K) (tVar 0) tNoPart (tPart (tVar 1))) tNil)) (tLst (tCons (tC (.int 0)) tNil))) (gName 2)) (tSeq (tFor (iEnumS K (tCons (tSl (rSlL K) (tVar 0) (tPart (tVar 1)) (tPart (tC (.int 63)))) tNil)) (gTup K 2 (gCons (gName 3) (gCons (gName 4) gNil))) (tSeq (tAsg (tOp (rI (fun _ j => 0 < j) fun i j => .int (i % j)) (tCB rIntOf (tCons (tVar 3) tNil)) (tVar 1)) (gName 5)) (tAsg (tOp (rI0 fun i j => .int (i + j)) (tOp (rIx K) (tVar 2) (tVar 5)) (tOp (rI CMul fun i j => .int (i * j)) (tVar 4) (tOp (rI0 fun i j => .int (i + j)) (tVar 3) (tC (.int 2))))) (gSub (tVar 2) (tVar 5) rSetL)))) (tRet (tVar 2))))
theorem ps_law_cells {P : Program} {w : World} {K : PySem.W.Frag} {mg : Str → Option Value} {base : Heap} {k : Nat} (g : G0 K mg) {f : Addr} {cdv : Value} {A : Around} {outer : List Env} {s : Shared} {H : Hp} {E : XK} (hr : Room k (A.deeper (envOfC "_law_cells" (defScope (top 26)) s.heap.objs.size f cdv))) : PSs (cxOf CX0 P w K mg base ["_law_script", "_law_top_so", "_law_cells_so", "_law_k", "_law_cell", "_law_at_so"] "_law_cells" (defScope (top 26)) f cdv A outer s H E).nox (defBody (top 26)) (t_law_cells K) := by
  unfold t_law_cells
  exact (by exact pss_cons (by exact ps_set (i := 2) sc_law_cells.nd rfl (Or.inl rfl) (by exact pe_orT (by exact pe_callTy cr_listOf (by rfl) g.list (by decide +kernel) (by exact pa_cons (by exact pe_slice sl_list (by exact pv 0) po_none (by exact po_some (by exact pv 1))) pa_nil)) (by exact pe_one (by exact pe_lst (by exact pa_cons pe_int pa_nil))))) (by exact pss_cons (by exact ps_for PassesOwn.never rfl (by exact pi_enumS g.enumerate (by exact pa_cons (by exact pe_slice sl_list (by exact pv 0) (by exact po_some (by exact pv 1)) (by exact po_some pe_int)) pa_nil)) (by exact pg_tup rfl (by exact pgs_cons (by exact pg_name (i := 3) sc_law_cells.nd rfl (Or.inl rfl)) (by exact pgs_cons (by exact pg_name (i := 4) sc_law_cells.nd rfl (Or.inl rfl)) pgs_nil))) (by exact pss_cons (by exact ps_set (i := 5) sc_law_cells.nd rfl (Or.inl rfl) (by exact pe_op op_mod (by exact pe_callTy cr_intOf (by rfl) g.int (by decide +kernel) (by exact pa_cons (by exact pv 3) pa_nil)) (by exact pv 1))) (by exact pss_one (by exact ps_asg (by exact pe_op op_add (by exact pe_ix ix_seq (by exact pv 2) (by exact pv 5) (fun _ _ => rfl)) (by exact pe_op op_mul (by exact pv 4) (by exact pe_op op_add (by exact pv 3) pe_int))) (by exact pg_sub (by exact pv 2) (by exact pv 5) set_list))))) (by exact pss_one (by exact ps_ret (by exact pv 2)))))
theorem sc_law_of : FnScope ["_law_box_here", "_law_pool_so"] ["_law_box_here", "_law_pool_so"] (defScope (top 29)) := ⟨rfl, rfl, rfl, by decide +kernel, rfl, by decide +kernel, by decide +kernel⟩
def t_law_of (K : PySem.W.Frag) (sp_law_take : Sp) : TS := (tRet (tOp (rIx K) (tVar 1) (tCall sp_law_take [] E0 (tCons (tVar 0) (tCons (tCB (rLenOf K) (tCons (tVar 1) tNil)) tNil)))))
theorem ps_law_of {P : Program} {w : World} {K : PySem.W.Frag} {mg : Str → Option Value} {base : Heap} {k : Nat} {sp_law_take : Sp} (g : G0 K mg) (D_law_take : Df P w K mg base CX0 k "_law_take" ["_law_box_here", "_law_below_so"] sp_law_take) {f : Addr} {cdv : Value} {A : Around} {outer : List Env} {s : Shared} {H : Hp} {E : XK} (hr : Room k (A.deeper (envOfC "_law_of" (defScope (top 29)) s.heap.objs.size f cdv))) : PSs (cxOf CX0 P w K mg base ["_law_box_here", "_law_pool_so"] "_law_of" (defScope (top 29)) f cdv A outer s H E).nox (defBody (top 29)) (t_law_of K sp_law_take) := by
  unfold t_law_of
  exact (by exact pss_one (by exact ps_ret (by exact pe_ix ix_seq (by exact pv 1) (by exact pe_df D_law_take hr pass0 (by exact pa_cons (by exact pv 0) (by exact pa_cons (by exact pe_callB cr_lenOf (by rfl) g.len (by decide +kernel) (by exact pa_cons (by exact pv 1) pa_nil)) pa_nil))) (fun _ _ => rfl))))
theorem sc_law_clause : FnScope ["_law_box_here", "_law_areas_so", "_law_ways_so", "_law_tag", "_law_way_so"] ["_law_box_here", "_law_areas_so"] (defScope (top 34)) := ⟨rfl, rfl, rfl, by decide +kernel, rfl, by decide +kernel, by decide +kernel⟩
def t_law_clause (K : PySem.W.Frag) (sp_law_take : Sp) : TS := (tSeq (tAsg (tLc (iSeq K (tVar 1)) (gName 3) tYes (tTup (tCons (tVar 3) (tCons (tCall sp_law_take [] E0 (tCons (tVar 0) (tCons (tC (.int 4)) tNil))) tNil))) [3]) (gName 2)) (tRet (tCB (rTupleOf K) (tCons (tLc (iSeq K (tVar 2)) (gTup K 2 (gCons (gName 3) (gCons (gName 4) gNil))) (tTest (tOp (rI0 fun i j => .bl (decide (i < j))) (tVar 4) (tC (.int 2)))) (tTup (tCons (tVar 3) (tCons (tOp rEq (tVar 4) (tC (.int 1))) tNil))) [3, 4]) tNil))))
theorem ps_law_clause {P : Program} {w : World} {K : PySem.W.Frag} {mg : Str → Option Value} {base : Heap} {k : Nat} {sp_law_take : Sp} (g : G0 K mg) (D_law_take : Df P w K mg base CX0 k "_law_take" ["_law_box_here", "_law_below_so"] sp_law_take) {f : Addr} {cdv : Value} {A : Around} {outer : List Env} {s : Shared} {H : Hp} {E : XK} (hr : Room k (A.deeper (envOfC "_law_clause" (defScope (top 34)) s.heap.objs.size f cdv))) : PSs (cxOf CX0 P w K mg base ["_law_box_here", "_law_areas_so", "_law_ways_so", "_law_tag", "_law_way_so"] "_law_clause" (defScope (top 34)) f cdv A outer s H E).nox (defBody (top 34)) (t_law_clause K sp_law_take) := by
  unfold t_law_clause
  exact (by exact pss_cons (by exact ps_setLc (i := 2) (own := [("_law_tag", 3)]) (wi := (iSeq K (tVar 1))) (g := (gName 3)) (tt := tYes) (te := (tTup (tCons (tVar 3) (tCons (tCall sp_law_take [] E0 (tCons (tVar 0) (tCons (tC (.int 4)) tNil))) tNil)))) rfl sc_law_clause.nd rfl rfl (sw_true rfl rfl rfl (by decide +kernel)) (by exact pi_seq (by exact pv 1)) (blkOk_by (N := ["_law_box_here", "_law_areas_so", "_law_ways_so", "_law_tag", "_law_way_so"]) (sc := defScope (top 34)) (by decide +kernel)) (fun _ _ _ _ _ => (by exact pg_name (i := 3) sc_law_clause.nd rfl (Or.inl rfl))) (fun _ _ _ _ _ => pts_nil) (fun _ _ _ _ _ => (by exact pe_tup (by exact pa_cons (by exact pv 3) (by exact pa_cons (by exact pe_df D_law_take hr pass0 (by exact pa_cons (by exact pv 0) (by exact pa_cons pe_int pa_nil))) pa_nil))))) (by exact pss_one (by exact ps_ret (by exact pe_callTy cr_tupleOf (by rfl) g.tuple (by decide +kernel) (by exact pa_cons (by exact pe_lc (own := [("_law_tag", 3), ("_law_way_so", 4)]) (wi := (iSeq K (tVar 2))) (g := (gTup K 2 (gCons (gName 3) (gCons (gName 4) gNil)))) (tt := (tTest (tOp (rI0 fun i j => .bl (decide (i < j))) (tVar 4) (tC (.int 2))))) (te := (tTup (tCons (tVar 3) (tCons (tOp rEq (tVar 4) (tC (.int 1))) tNil)))) rfl sc_law_clause.nd (by exact pi_seq (by exact pv 2)) (blkOk_by (N := ["_law_box_here", "_law_areas_so", "_law_ways_so", "_law_tag", "_law_way_so"]) (sc := defScope (top 34)) (by decide +kernel)) (fun _ _ _ _ _ => (by exact pg_tup rfl (by exact pgs_cons (by exact pg_name (i := 3) sc_law_clause.nd rfl (Or.inl rfl)) (by exact pgs_cons (by exact pg_name (i := 4) sc_law_clause.nd rfl (Or.inl rfl)) pgs_nil)))) (fun _ _ _ _ _ => (by exact pts_one (by exact pt_cmpR op_lt (by exact pv 4) pe_int (nomark _)))) (fun _ _ _ _ _ => (by exact pe_tup (by exact pa_cons (by exact pv 3) (by exact pa_cons (by exact pe_cmpR op_eq (by exact pv 4) pe_int (nomark _)) pa_nil))))) pa_nil)))))
theorem sc_law_world : FnScope ["_law_box_here", "_law_chart_so", "_law_most_so", "_law_turn", "_law_let_so", "_law_found", "_law_size_so"] ["_law_box_here", "_law_chart_so", "_law_most_so"] (defScope (top 37)) := ⟨rfl, rfl, rfl, by decide +kernel, rfl, by decide +kernel, by decide +kernel⟩
def t_law_world (K : PySem.W.Frag) (sp_law_take : Sp) (sp_law_of : Sp) (sp_law_let : Sp) : TS := (tSeq (tPar 4 5 (tCons (tCall sp_law_let [] E0 (tCons (tVar 1) tNil)) (tCons (tLst tNil) tNil))) (tSeq (tFor (iRng1 (tCons (tIf (tTest (tOp (rNeD K) (tVar 4) (tLst tNil))) (tCall sp_law_take [] E0 (tCons (tVar 0) (tCons (tOp (rI0 fun i j => .int (i + j)) (tVar 2) (tC (.int 1))) tNil))) (tC (.int 0))) tNil)) (gName 3) (tSeq (tAsg (tCall sp_law_of [] E0 (tCons (tVar 0) (tCons (tLst (tCons (tC (.int 1)) (tCons (tC (.int 1)) (tCons (tC (.int 2)) (tCons (tC (.int 3)) (tCons (tOp (rI CPow fun i j => .int (i ^ j.toNat)) (tC (.int 10)) (tC (.int 30))) tNil)))))) tNil))) (gName 6)) (tDrop (tBM K "list" rAppend (tVar 5) (tCons (tTup (tCons (tCall sp_law_of [] E0 (tCons (tVar 0) (tCons (tVar 4) tNil))) (tCons (tVar 6) (tCons (tCall sp_law_of [] E0 (tCons (tVar 0) (tCons (tLst (tCons (tC (.str "cy")) (tCons (tC (.str "ann")) (tCons (tC (.str "bob")) (tCons (tC (.str "zz")) tNil))))) tNil))) tNil)))) tNil))))) (tRet (tCB (rTupleOf K) (tCons (tVar 5) tNil)))))
theorem ps_law_world {P : Program} {w : World} {K : PySem.W.Frag} {mg : Str → Option Value} {base : Heap} {k : Nat} {sp_law_take : Sp} {sp_law_of : Sp} {sp_law_let : Sp} (g : G0 K mg) (D_law_take : Df P w K mg base CX0 k "_law_take" ["_law_box_here", "_law_below_so"] sp_law_take) (D_law_of : Df P w K mg base CX0 k "_law_of" ["_law_box_here", "_law_pool_so"] sp_law_of) (D_law_let : Df P w K mg base CX0 k "_law_let" ["_law_chart_so"] sp_law_let) {f : Addr} {cdv : Value} {A : Around} {outer : List Env} {s : Shared} {H : Hp} {E : XK} (hr : Room k (A.deeper (envOfC "_law_world" (defScope (top 37)) s.heap.objs.size f cdv))) : PSs (cxOf CX0 P w K mg base ["_law_box_here", "_law_chart_so", "_law_most_so", "_law_turn", "_law_let_so", "_law_found", "_law_size_so"] "_law_world" (defScope (top 37)) f cdv A outer s H E).nox (defBody (top 37)) (t_law_world K sp_law_take sp_law_of sp_law_let) := by
  unfold t_law_world
  exact (by exact pss_cons (by exact ps_par (i := 4) (j := 5) rfl sc_law_world.nd rfl rfl (by decide) rfl rfl (by exact pa_cons (by exact pe_df D_law_let hr pass0 (by exact pa_cons (by exact pv 1) pa_nil)) (by exact pa_cons (by exact pe_lst pa_nil) pa_nil)) (by rfl)) (by exact pss_cons (by exact ps_for PassesOwn.never rfl (by exact pi_range1 (by rfl) g.range (by exact pa_cons (by exact pe_ifExp (by exact pt_cmpR (op_neD hr.units) (by exact pv 4) (by exact pe_lst pa_nil) (nomark _)) (by exact pe_df D_law_take hr pass0 (by exact pa_cons (by exact pv 0) (by exact pa_cons (by exact pe_op op_add (by exact pv 2) pe_int) pa_nil))) pe_int) pa_nil)) (by exact pg_name (i := 3) sc_law_world.nd rfl (Or.inl rfl)) (by exact pss_cons (by exact ps_set (i := 6) sc_law_world.nd rfl (Or.inl rfl) (by exact pe_df D_law_of hr pass0 (by exact pa_cons (by exact pv 0) (by exact pa_cons (by exact pe_lst (by exact pa_cons pe_int (by exact pa_cons pe_int (by exact pa_cons pe_int (by exact pa_cons pe_int (by exact pa_cons (by exact pe_op op_pow pe_int pe_int) pa_nil)))))) pa_nil)))) (by exact pss_one (by exact ps_expr (by exact pe_bm PySem.F.plainAttrs_list PySem.F.slot_list_append PySem.F.type_list_append mt_append (by exact pv 5) (by exact pa_cons (by exact pe_tup (by exact pa_cons (by exact pe_df D_law_of hr pass0 (by exact pa_cons (by exact pv 0) (by exact pa_cons (by exact pv 4) pa_nil))) (by exact pa_cons (by exact pv 6) (by exact pa_cons (by exact pe_df D_law_of hr pass0 (by exact pa_cons (by exact pv 0) (by exact pa_cons (by exact pe_lst (by exact pa_cons pe_str (by exact pa_cons pe_str (by exact pa_cons pe_str (by exact pa_cons pe_str pa_nil))))) pa_nil))) pa_nil)))) pa_nil)))))) (by exact pss_one (by exact ps_ret (by exact pe_callTy cr_tupleOf (by rfl) g.tuple (by decide +kernel) (by exact pa_cons (by exact pv 5) pa_nil))))))
theorem sc_law_deed : FnScope ["_law_box_here", "_law_areas_so", "_law_sorts_so", "_law_near", "_law_far", "_law_names_so", "_law_name_so", "_law_sort_so", "_law_cut_so", "_law_tag"] ["_law_box_here", "_law_areas_so", "_law_sorts_so"] (defScope (top 38)) := ⟨rfl, rfl, rfl, by decide +kernel, rfl, by decide +kernel, by decide +kernel⟩
def t_law_deed (K : PySem.W.Frag) (sp_law_of : Sp) (sp_law_cut : Sp) : TS := (tSeq (tPar 7 8 (tCons (tCall sp_law_of [] E0 (tCons (tVar 0) (tCons (tVar 2) tNil))) (tCons (tCall sp_law_cut [] E0 (tCons (tVar 0) (tCons (tVar 1) (tCons (tC (.int 2)) tNil)))) tNil))) (tSeq (tAsg (tCall sp_law_of [] E0 (tCons (tVar 0) (tCons (tLst (tCons (tC (.str "cy")) (tCons (tC (.str "ann")) (tCons (tC (.str "bob")) tNil)))) tNil))) (gName 3)) (tSeq (tAsg (tCall sp_law_of [] E0 (tCons (tVar 0) (tCons (tLc (iSeq K (tLst (tCons (tC (.str "cy")) (tCons (tC (.str "ann")) (tCons (tC (.str "bob")) (tCons (tC (.str "eve")) tNil)))))) (gName 9) (tTest (tOp rNe (tVar 9) (tVar 3))) (tVar 9) [9]) tNil))) (gName 4)) (tSeq (tIfS (tTest (tOp (rIn K false) (tVar 7) (tTup (tCons (tC (.str "give")) (tCons (tC (.str "swap")) (tCons (tC (.str "whole")) tNil)))))) (tRet (tTup (tCons (tVar 7) (tCons (tVar 3) (tCons (tVar 4) (tCons (tVar 8) tNil)))))) tNext) (tSeq (tIfS (tTest (tOp rEq (tVar 7) (tC (.str "vest")))) (tRet (tTup (tCons (tVar 7) (tCons (tVar 4) (tCons (tVar 8) tNil))))) tNext) (tSeq (tIfS (tTest (tOp (rIn K false) (tVar 7) (tTup (tCons (tC (.str "way")) (tCons (tC (.str "end")) tNil))))) (tRet (tTup (tCons (tVar 7) (tCons (tVar 8) (tCons (tCall sp_law_cut [] E0 (tCons (tVar 0) (tCons (tVar 1) (tCons (tC (.int 2)) tNil)))) tNil))))) tNext) (tSeq (tAsg (tLst (tCons (tC (.str "q")) (tCons (tC (.str "p")) (tCons (tC (.str "r")) tNil)))) (gName 5)) (tSeq (tAsg (tCall sp_law_of [] E0 (tCons (tVar 0) (tCons (tVar 5) tNil))) (gName 6)) (tSeq (tIfS (tTest (tOp rEq (tVar 7) (tC (.str "yield")))) (tRet (tTup (tCons (tVar 7) (tCons (tVar 6) (tCons (tCall sp_law_of [] E0 (tCons (tVar 0) (tCons (tLc (iSeq K (tVar 5)) (gName 9) (tTest (tOp rNe (tVar 9) (tVar 6))) (tVar 9) [9]) tNil))) (tCons (tVar 8) tNil)))))) tNext) (tRet (tTup (tCons (tVar 7) (tCons (tVar 6) (tCons (tVar 8) tNil))))))))))))))
theorem ps_law_deed {P : Program} {w : World} {K : PySem.W.Frag} {mg : Str → Option Value} {base : Heap} {k : Nat} {sp_law_of : Sp} {sp_law_cut : Sp} (g : G0 K mg) (D_law_of : Df P w K mg base CX0 k "_law_of" ["_law_box_here", "_law_pool_so"] sp_law_of) (D_law_cut : Df P w K mg base CX0 k "_law_cut" ["_law_box_here", "_law_areas_so", "_law_most_so"] sp_law_cut) {f : Addr} {cdv : Value} {A : Around} {outer : List Env} {s : Shared} {H : Hp} {E : XK} (hr : Room k (A.deeper (envOfC "_law_deed" (defScope (top 38)) s.heap.objs.size f cdv))) : PSs (cxOf CX0 P w K mg base ["_law_box_here", "_law_areas_so", "_law_sorts_so", "_law_near", "_law_far", "_law_names_so", "_law_name_so", "_law_sort_so", "_law_cut_so", "_law_tag"] "_law_deed" (defScope (top 38)) f cdv A outer s H E).nox (defBody (top 38)) (t_law_deed K sp_law_of sp_law_cut) := by
  unfold t_law_deed
  exact (by exact pss_cons (by exact ps_par (i := 7) (j := 8) rfl sc_law_deed.nd rfl rfl (by decide) rfl rfl (by exact pa_cons (by exact pe_df D_law_of hr pass0 (by exact pa_cons (by exact pv 0) (by exact pa_cons (by exact pv 2) pa_nil))) (by exact pa_cons (by exact pe_df D_law_cut hr pass0 (by exact pa_cons (by exact pv 0) (by exact pa_cons (by exact pv 1) (by exact pa_cons pe_int pa_nil)))) pa_nil)) (by rfl)) (by exact pss_cons (by exact ps_set (i := 3) sc_law_deed.nd rfl (Or.inr rfl) (by exact pe_df D_law_of hr pass0 (by exact pa_cons (by exact pv 0) (by exact pa_cons (by exact pe_lst (by exact pa_cons pe_str (by exact pa_cons pe_str (by exact pa_cons pe_str pa_nil)))) pa_nil)))) (by exact pss_cons (by exact ps_set (i := 4) sc_law_deed.nd rfl (Or.inl rfl) (by exact pe_df D_law_of hr pass0 (by exact pa_cons (by exact pv 0) (by exact pa_cons (by exact pe_lc (own := [("_law_tag", 9)]) (wi := (iSeq K (tLst (tCons (tC (.str "cy")) (tCons (tC (.str "ann")) (tCons (tC (.str "bob")) (tCons (tC (.str "eve")) tNil))))))) (g := (gName 9)) (tt := (tTest (tOp rNe (tVar 9) (tVar 3)))) (te := (tVar 9)) rfl sc_law_deed.nd (by exact pi_seq (by exact pe_lst (by exact pa_cons pe_str (by exact pa_cons pe_str (by exact pa_cons pe_str (by exact pa_cons pe_str pa_nil)))))) (blkOk_by (N := ["_law_box_here", "_law_areas_so", "_law_sorts_so", "_law_near", "_law_far", "_law_names_so", "_law_name_so", "_law_sort_so", "_law_cut_so", "_law_tag"]) (sc := defScope (top 38)) (by decide +kernel)) (fun _ _ _ _ _ => (by exact pg_name (i := 9) sc_law_deed.nd rfl (Or.inl rfl))) (fun _ _ _ _ _ => (by exact pts_one (by exact pt_cmpR op_ne (by exact pv 9) (by exact pv 3) (nomark _)))) (fun _ _ _ _ _ => (by exact pv 9))) pa_nil)))) (by exact pss_cons (by exact ps_if (by exact pt_cmpR op_in_seq (by exact pv 7) (by exact pe_tup (by exact pa_cons pe_str (by exact pa_cons pe_str (by exact pa_cons pe_str pa_nil)))) (by rfl)) (by exact pss_one (by exact ps_ret (by exact pe_tup (by exact pa_cons (by exact pv 7) (by exact pa_cons (by exact pv 3) (by exact pa_cons (by exact pv 4) (by exact pa_cons (by exact pv 8) pa_nil))))))) pss_nil) (by exact pss_cons (by exact ps_if (by exact pt_cmpR op_eq (by exact pv 7) pe_str (nomark _)) (by exact pss_one (by exact ps_ret (by exact pe_tup (by exact pa_cons (by exact pv 7) (by exact pa_cons (by exact pv 4) (by exact pa_cons (by exact pv 8) pa_nil)))))) pss_nil) (by exact pss_cons (by exact ps_if (by exact pt_cmpR op_in_seq (by exact pv 7) (by exact pe_tup (by exact pa_cons pe_str (by exact pa_cons pe_str pa_nil))) (by rfl)) (by exact pss_one (by exact ps_ret (by exact pe_tup (by exact pa_cons (by exact pv 7) (by exact pa_cons (by exact pv 8) (by exact pa_cons (by exact pe_df D_law_cut hr pass0 (by exact pa_cons (by exact pv 0) (by exact pa_cons (by exact pv 1) (by exact pa_cons pe_int pa_nil)))) pa_nil)))))) pss_nil) (by exact pss_cons (by exact ps_set (i := 5) sc_law_deed.nd rfl (Or.inl rfl) (by exact pe_lst (by exact pa_cons pe_str (by exact pa_cons pe_str (by exact pa_cons pe_str pa_nil))))) (by exact pss_cons (by exact ps_set (i := 6) sc_law_deed.nd rfl (Or.inr rfl) (by exact pe_df D_law_of hr pass0 (by exact pa_cons (by exact pv 0) (by exact pa_cons (by exact pv 5) pa_nil)))) (by exact pss_cons (by exact ps_if (by exact pt_cmpR op_eq (by exact pv 7) pe_str (nomark _)) (by exact pss_one (by exact ps_ret (by exact pe_tup (by exact pa_cons (by exact pv 7) (by exact pa_cons (by exact pv 6) (by exact pa_cons (by exact pe_df D_law_of hr pass0 (by exact pa_cons (by exact pv 0) (by exact pa_cons (by exact pe_lc (own := [("_law_tag", 9)]) (wi := (iSeq K (tVar 5))) (g := (gName 9)) (tt := (tTest (tOp rNe (tVar 9) (tVar 6)))) (te := (tVar 9)) rfl sc_law_deed.nd (by exact pi_seq (by exact pv 5)) (blkOk_by (N := ["_law_box_here", "_law_areas_so", "_law_sorts_so", "_law_near", "_law_far", "_law_names_so", "_law_name_so", "_law_sort_so", "_law_cut_so", "_law_tag"]) (sc := defScope (top 38)) (by decide +kernel)) (fun _ _ _ _ _ => (by exact pg_name (i := 9) sc_law_deed.nd rfl (Or.inl rfl))) (fun _ _ _ _ _ => (by exact pts_one (by exact pt_cmpR op_ne (by exact pv 9) (by exact pv 6) (nomark _)))) (fun _ _ _ _ _ => (by exact pv 9))) pa_nil))) (by exact pa_cons (by exact pv 8) pa_nil))))))) pss_nil) (by exact pss_one (by exact ps_ret (by exact pe_tup (by exact pa_cons (by exact pv 7) (by exact pa_cons (by exact pv 6) (by exact pa_cons (by exact pv 8) pa_nil)))))))))))))))
theorem sc_law_book : FnScope ["_law_box_here", "_law_areas_so", "_law_most_so", "_law_whole_so", "_law_found", "_law_turn", "_law_sorts_so"] ["_law_box_here", "_law_areas_so", "_law_most_so", "_law_whole_so"] (defScope (top 42)) := ⟨rfl, rfl, rfl, by decide +kernel, rfl, by decide +kernel, by decide +kernel⟩
def t_law_book (K : PySem.W.Frag) (sp_law_take : Sp) (sp_law_deed : Sp) (sp_law_wholes : Sp) : TS := (tSeq (tAsg (tLst tNil) (gName 4)) (tSeq (tFor (iRng1 (tCons (tCall sp_law_take [] E0 (tCons (tVar 0) (tCons (tOp (rI0 fun i j => .int (i + j)) (tVar 2) (tC (.int 1))) tNil))) tNil)) (gName 5) (tSeq (tAsg (tLst (tCons (tC (.str "give")) (tCons (tC (.str "vest")) (tCons (tC (.str "swap")) tNil)))) (gName 6)) (tSeq (tIfS (tTest (tOp (rI0 fun i j => .bl (decide (i < j))) (tCB (rLenOf K) (tCons (tCall sp_law_wholes [] E0 (tCons (tVar 4) tNil)) tNil)) (tVar 3))) (tAsg (tOp rCat (tVar 6) (tLst (tCons (tC (.str "whole")) (tCons (tC (.str "whole")) (tCons (tC (.str "whole")) tNil))))) (gName 6)) tNext) (tDrop (tBM K "list" rAppend (tVar 4) (tCons (tCall sp_law_deed [] E0 (tCons (tVar 0) (tCons (tVar 1) (tCons (tVar 6) tNil)))) tNil)))))) (tRet (tCB (rTupleOf K) (tCons (tVar 4) tNil)))))
theorem ps_law_book {P : Program} {w : World} {K : PySem.W.Frag} {mg : Str → Option Value} {base : Heap} {k : Nat} {sp_law_take : Sp} {sp_law_deed : Sp} {sp_law_wholes : Sp} (g : G0 K mg) (D_law_take : Df P w K mg base CX0 k "_law_take" ["_law_box_here", "_law_below_so"] sp_law_take) (D_law_deed : Df P w K mg base CX0 k "_law_deed" ["_law_box_here", "_law_areas_so", "_law_sorts_so"] sp_law_deed) (D_law_wholes : Df P w K mg base CX0 k "_law_wholes" ["_law_deeds_so"] sp_law_wholes) {f : Addr} {cdv : Value} {A : Around} {outer : List Env} {s : Shared} {H : Hp} {E : XK} (hr : Room k (A.deeper (envOfC "_law_book" (defScope (top 42)) s.heap.objs.size f cdv))) : PSs (cxOf CX0 P w K mg base ["_law_box_here", "_law_areas_so", "_law_most_so", "_law_whole_so", "_law_found", "_law_turn", "_law_sorts_so"] "_law_book" (defScope (top 42)) f cdv A outer s H E).nox (defBody (top 42)) (t_law_book K sp_law_take sp_law_deed sp_law_wholes) := by
  unfold t_law_book
  exact (by exact pss_cons (by exact ps_set (i := 4) sc_law_book.nd rfl (Or.inl rfl) (by exact pe_lst pa_nil)) (by exact pss_cons (by exact ps_for PassesOwn.never rfl (by exact pi_range1 (by rfl) g.range (by exact pa_cons (by exact pe_df D_law_take hr pass0 (by exact pa_cons (by exact pv 0) (by exact pa_cons (by exact pe_op op_add (by exact pv 2) pe_int) pa_nil))) pa_nil)) (by exact pg_name (i := 5) sc_law_book.nd rfl (Or.inl rfl)) (by exact pss_cons (by exact ps_set (i := 6) sc_law_book.nd rfl (Or.inl rfl) (by exact pe_lst (by exact pa_cons pe_str (by exact pa_cons pe_str (by exact pa_cons pe_str pa_nil))))) (by exact pss_cons (by exact ps_if (by exact pt_cmpR op_lt (by exact pe_callB cr_lenOf (by rfl) g.len (by decide +kernel) (by exact pa_cons (by exact pe_df D_law_wholes hr pass0 (by exact pa_cons (by exact pv 4) pa_nil)) pa_nil)) (by exact pv 3) (nomark _)) (by exact pss_one (by exact ps_set (i := 6) sc_law_book.nd rfl (Or.inl rfl) (by exact pe_op op_cat (by exact pv 6) (by exact pe_lst (by exact pa_cons pe_str (by exact pa_cons pe_str (by exact pa_cons pe_str pa_nil))))))) pss_nil) (by exact pss_one (by exact ps_expr (by exact pe_bm PySem.F.plainAttrs_list PySem.F.slot_list_append PySem.F.type_list_append mt_append (by exact pv 4) (by exact pa_cons (by exact pe_df D_law_deed hr pass0 (by exact pa_cons (by exact pv 0) (by exact pa_cons (by exact pv 1) (by exact pa_cons (by exact pv 6) pa_nil)))) pa_nil))))))) (by exact pss_one (by exact ps_ret (by exact pe_callTy cr_tupleOf (by rfl) g.tuple (by decide +kernel) (by exact pa_cons (by exact pv 4) pa_nil))))))
theorem sc_law_right : FnScope ["_law_box_here", "_law_turn", "_law_chart_so"] ["_law_box_here"] (defScope (top 49)) := ⟨rfl, rfl, rfl, by decide +kernel, rfl, by decide +kernel, by decide +kernel⟩
def t_law_right (K : PySem.W.Frag) (sp_law_case_right : Sp) (sp_law_world : Sp) (sp_law_book : Sp) (sp_law_chart : Sp) : TS := (tSeq (tFor (iRng1 (tCons (tC (.int 3)) tNil)) (gName 1) (tSeq (tAsg (tCall sp_law_chart [] E0 (tCons (tVar 0) (tCons (tC (.int 3)) tNil))) (gName 2)) (tIfS (tNot (tB (tCall sp_law_case_right [] E0 (tCons (tCall sp_law_book [] E0 (tCons (tVar 0) (tCons (tOp (rIx K) (tVar 2) (tC (.int 0))) (tCons (tC (.int 8)) (tCons (tC (.int 4)) tNil))))) (tCons (tCall sp_law_world [] E0 (tCons (tVar 0) (tCons (tVar 2) (tCons (tC (.int 6)) tNil)))) tNil))))) (tRet (tC (.bl false))) tNext))) (tRet (tC (.bl true))))
theorem ps_law_right {P : Program} {w : World} {K : PySem.W.Frag} {mg : Str → Option Value} {base : Heap} {k : Nat} {sp_law_case_right : Sp} {sp_law_world : Sp} {sp_law_book : Sp} {sp_law_chart : Sp} (g : G0 K mg) (D_law_case_right : Df P w K mg base CX0 k "_law_case_right" ["_law_deeds_so", "_law_world_so"] sp_law_case_right) (D_law_world : Df P w K mg base CX0 k "_law_world" ["_law_box_here", "_law_chart_so", "_law_most_so"] sp_law_world) (D_law_book : Df P w K mg base CX0 k "_law_book" ["_law_box_here", "_law_areas_so", "_law_most_so", "_law_whole_so"] sp_law_book) (D_law_chart : Df P w K mg base CX0 k "_law_chart" ["_law_box_here", "_law_many_so"] sp_law_chart) {f : Addr} {cdv : Value} {A : Around} {outer : List Env} {s : Shared} {H : Hp} {E : XK} (hr : Room k (A.deeper (envOfC "_law_right" (defScope (top 49)) s.heap.objs.size f cdv))) : PSs (cxOf CX0 P w K mg base ["_law_box_here", "_law_turn", "_law_chart_so"] "_law_right" (defScope (top 49)) f cdv A outer s H E).nox (defBody (top 49)) (t_law_right K sp_law_case_right sp_law_world sp_law_book sp_law_chart) := by
  unfold t_law_right
  exact (by exact pss_cons (by exact ps_for PassesOwn.never rfl (by exact pi_range1 (by rfl) g.range (by exact pa_cons pe_int pa_nil)) (by exact pg_name (i := 1) sc_law_right.nd rfl (Or.inl rfl)) (by exact pss_cons (by exact ps_set (i := 2) sc_law_right.nd rfl (Or.inl rfl) (by exact pe_df D_law_chart hr pass0 (by exact pa_cons (by exact pv 0) (by exact pa_cons pe_int pa_nil)))) (by exact pss_one (by exact ps_if (by exact pt_not (by exact pt_val (by exact pe_df D_law_case_right hr pass0 (by exact pa_cons (by exact pe_df D_law_book hr pass0 (by exact pa_cons (by exact pv 0) (by exact pa_cons (by exact pe_ix ix_seq (by exact pv 2) pe_int (fun _ _ => rfl)) (by exact pa_cons pe_int (by exact pa_cons pe_int pa_nil))))) (by exact pa_cons (by exact pe_df D_law_world hr pass0 (by exact pa_cons (by exact pv 0) (by exact pa_cons (by exact pv 2) (by exact pa_cons pe_int pa_nil)))) pa_nil))))) (by exact pss_one (by exact ps_ret pe_bl)) pss_nil)))) (by exact pss_one (by exact ps_ret pe_bl)))
theorem sc_law : FnScope ["_law_script", "_law_cells_so", "_law_k"] ["_law_script"] (defScope (top 50)) := ⟨rfl, rfl, rfl, by decide +kernel, rfl, by decide +kernel, by decide +kernel⟩
def t_law (K : PySem.W.Frag) (sp_law_right : Sp) (sp_law_box : Sp) (sp_law_cells : Sp) (sp_law_by_hand_right : Sp) : TS := (tSeq (tIfS (tNot (tB (tCall sp_law_by_hand_right [] E0 tNil))) (tRet (tC (.bl false))) tNext) (tSeq (tAsg (tCall sp_law_cells [] E0 (tCons (tVar 0) (tCons (tC (.int 3)) tNil))) (gName 1)) (tRet (tCB (rAll K) (tCons (tLc (iRng1 (tCons (tCB (rLenOf K) (tCons (tVar 1) tNil)) tNil)) (gName 2) tYes (tCall sp_law_right [] E0 (tCons (tCall sp_law_box [] E0 (tCons (tVar 1) (tCons (tVar 2) tNil))) tNil)) [2]) tNil)))))
theorem ps_law {P : Program} {w : World} {K : PySem.W.Frag} {mg : Str → Option Value} {base : Heap} {k : Nat} {sp_law_right : Sp} {sp_law_box : Sp} {sp_law_cells : Sp} {sp_law_by_hand_right : Sp} (g : G0 K mg) (D_law_right : Df P w K mg base CX0 k "_law_right" ["_law_box_here"] sp_law_right) (D_law_box : Df P w K mg base CX0 k "_law_box" ["_law_script", "_law_k"] sp_law_box) (D_law_cells : Df P w K mg base CX0 k "_law_cells" ["_law_script", "_law_top_so"] sp_law_cells) (D_law_by_hand_right : Df P w K mg base CX0 k "_law_by_hand_right" [] sp_law_by_hand_right) {f : Addr} {cdv : Value} {A : Around} {outer : List Env} {s : Shared} {H : Hp} {E : XK} (hr : Room k (A.deeper (envOfC "law" (defScope (top 50)) s.heap.objs.size f cdv))) : PSs (cxOf CX0 P w K mg base ["_law_script", "_law_cells_so", "_law_k"] "law" (defScope (top 50)) f cdv A outer s H E).nox (defBody (top 50)) (t_law K sp_law_right sp_law_box sp_law_cells sp_law_by_hand_right) := by
  unfold t_law
  exact (by exact pss_cons (by exact ps_if (by exact pt_not (by exact pt_val (by exact pe_df0 D_law_by_hand_right hr pass0))) (by exact pss_one (by exact ps_ret pe_bl)) pss_nil) (by exact pss_cons (by exact ps_set (i := 1) sc_law.nd rfl (Or.inr rfl) (by exact pe_df D_law_cells hr pass0 (by exact pa_cons (by exact pv 0) (by exact pa_cons pe_int pa_nil)))) (by exact pss_one (by exact ps_ret (by exact pe_callB (cr_all rfl) (by rfl) g.all (by decide +kernel) (by exact pa_cons (by exact pe_lc (own := [("_law_k", 2)]) (wi := (iRng1 (tCons (tCB (rLenOf K) (tCons (tVar 1) tNil)) tNil))) (g := (gName 2)) (tt := tYes) (te := (tCall sp_law_right [] E0 (tCons (tCall sp_law_box [] E0 (tCons (tVar 1) (tCons (tVar 2) tNil))) tNil))) rfl sc_law.nd (by exact pi_range1 (by rfl) g.range (by exact pa_cons (by exact pe_callB cr_lenOf (by rfl) g.len (by decide +kernel) (by exact pa_cons (by exact pv 1) pa_nil)) pa_nil)) (blkOk_by (N := ["_law_script", "_law_cells_so", "_law_k"]) (sc := defScope (top 50)) (by decide +kernel)) (fun _ _ _ _ _ => (by exact pg_name (i := 2) sc_law.nd rfl (Or.inl rfl))) (fun _ _ _ _ _ => pts_nil) (fun _ _ _ _ _ => (by exact pe_df D_law_right hr pass0 (by exact pa_cons (by exact pe_df D_law_box hr pass0 (by exact pa_cons (by exact pv 1) (by exact pa_cons (by exact pv 2) pa_nil))) pa_nil)))) pa_nil))))))
theorem sc_law_field : FnScope ["_law_book_so", "_law_west_so", "_law_both_so"] [] (defScope (top 43)) := ⟨rfl, rfl, rfl, by decide +kernel, rfl, by decide +kernel, by decide +kernel⟩
def t_law_field (K : PySem.W.Frag) : TS := (tSeq (tAsg (tTup (tCons (tTup (tCons (tTup (tCons (tTup (tCons (tC (.str "w")) (tCons (tC (.bl true)) tNil))) tNil)) tNil)) (tCons (tTup (tCons (tTup (tCons (tTup (tCons (tC (.str "e")) (tCons (tC (.bl true)) tNil))) (tCons (tTup (tCons (tC (.str "w")) (tCons (tC (.bl true)) tNil))) tNil))) tNil)) tNil))) (gTup K 2 (gCons (gName 1) (gCons (gName 2) gNil)))) (tSeq (tAsg (tTup (tCons (tTup (tCons (tC (.str "vest")) (tCons (tC (.str "ann")) (tCons (tVar 1) tNil)))) (tCons (tTup (tCons (tC (.str "give")) (tCons (tC (.str "ann")) (tCons (tC (.str "cid")) (tCons (tVar 2) tNil))))) (tCons (tTup (tCons (tC (.str "whole")) (tCons (tC (.str "ann")) (tCons (tC (.str "bob")) (tCons (tVar 1) tNil))))) tNil)))) (gName 0)) (tRet (tTup (tCons (tTup (tCons (tTup (tCons (tC (.str "e")) (tCons (tC (.str "w")) tNil))) (tCons (tTup tNil) tNil))) (tCons (tTup (tCons (tTup (tCons (tC (.str "e")) (tCons (tC (.str "w")) tNil))) (tCons (tVar 2) tNil))) (tCons (tVar 0) tNil)))))))
theorem ps_law_field {P : Program} {w : World} {K : PySem.W.Frag} {mg : Str → Option Value} {base : Heap} {k : Nat} (g : G0 K mg) {f : Addr} {cdv : Value} {A : Around} {outer : List Env} {s : Shared} {H : Hp} {E : XK} (hr : Room k (A.deeper (envOfC "_law_field" (defScope (top 43)) s.heap.objs.size f cdv))) : PSs (cxOf CX0 P w K mg base ["_law_book_so", "_law_west_so", "_law_both_so"] "_law_field" (defScope (top 43)) f cdv A outer s H E).nox (defBody (top 43)) (t_law_field K) := by
  unfold t_law_field
  exact (by exact pss_cons (by exact ps_asg (by exact pe_tup (by exact pa_cons (by exact pe_tup (by exact pa_cons (by exact pe_tup (by exact pa_cons (by exact pe_tup (by exact pa_cons pe_str (by exact pa_cons pe_bl pa_nil))) pa_nil)) pa_nil)) (by exact pa_cons (by exact pe_tup (by exact pa_cons (by exact pe_tup (by exact pa_cons (by exact pe_tup (by exact pa_cons pe_str (by exact pa_cons pe_bl pa_nil))) (by exact pa_cons (by exact pe_tup (by exact pa_cons pe_str (by exact pa_cons pe_bl pa_nil))) pa_nil))) pa_nil)) pa_nil))) (by exact pg_tup rfl (by exact pgs_cons (by exact pg_name (i := 1) sc_law_field.nd rfl (Or.inl rfl)) (by exact pgs_cons (by exact pg_name (i := 2) sc_law_field.nd rfl (Or.inl rfl)) pgs_nil)))) (by exact pss_cons (by exact ps_set (i := 0) sc_law_field.nd rfl (Or.inl rfl) (by exact pe_tup (by exact pa_cons (by exact pe_tup (by exact pa_cons pe_str (by exact pa_cons pe_str (by exact pa_cons (by exact pv 1) pa_nil)))) (by exact pa_cons (by exact pe_tup (by exact pa_cons pe_str (by exact pa_cons pe_str (by exact pa_cons pe_str (by exact pa_cons (by exact pv 2) pa_nil))))) (by exact pa_cons (by exact pe_tup (by exact pa_cons pe_str (by exact pa_cons pe_str (by exact pa_cons pe_str (by exact pa_cons (by exact pv 1) pa_nil))))) pa_nil))))) (by exact pss_one (by exact ps_ret (by exact pe_tup (by exact pa_cons (by exact pe_tup (by exact pa_cons (by exact pe_tup (by exact pa_cons pe_str (by exact pa_cons pe_str pa_nil))) (by exact pa_cons (by exact pe_tup pa_nil) pa_nil))) (by exact pa_cons (by exact pe_tup (by exact pa_cons (by exact pe_tup (by exact pa_cons pe_str (by exact pa_cons pe_str pa_nil))) (by exact pa_cons (by exact pv 2) pa_nil))) (by exact pa_cons (by exact pv 0) pa_nil))))))))
end K30
set_option Elab.async false
set_option linter.all false
set_option maxRecDepth 100000
set_option maxHeartbeats 1000000
namespace K30
open PySem PySem.Spec PyProof.Rows L2
theorem sc_law_subs : FnScope ["_law_some_so", "_law_found", "_law_own", "_law_lot_so"] ["_law_some_so"] (defScope (top 30)) := ⟨rfl, rfl, rfl, by decide +kernel, rfl, by decide +kernel, by decide +kernel⟩
def t_law_subs (K : PySem.W.Frag) : TS := (tSeq (tAsg (tLst (tCons (tTup tNil) tNil)) (gName 1)) (tSeq (tFor (iSeq K (tVar 0)) (gName 2) (tAsg (tOp rCat (tVar 1) (tLc (iSeq K (tVar 1)) (gName 3) tYes (tOp (rCatA K) (tVar 3) (tTup (tCons (tVar 2) tNil))) [3])) (gName 1))) (tRet (tCB (rSortT K) (tCons (tVar 1) tNil)))))
theorem ps_law_subs {P : Program} {w : World} {K : PySem.W.Frag} {mg : Str → Option Value} {base : Heap} {k : Nat} (g : G0 K mg) {f : Addr} {cdv : Value} {A : Around} {outer : List Env} {s : Shared} {H : Hp} {E : XK} (hr : Room k (A.deeper (envOfC "_law_subs" (defScope (top 30)) s.heap.objs.size f cdv))) : PSs (cxOf CX0 P w K mg base ["_law_some_so", "_law_found", "_law_own", "_law_lot_so"] "_law_subs" (defScope (top 30)) f cdv A outer s H E).nox (defBody (top 30)) (t_law_subs K) := by
  unfold t_law_subs
  exact (by exact pss_cons (by exact ps_set (i := 1) sc_law_subs.nd rfl (Or.inl rfl) (by exact pe_lst (by exact pa_cons (by exact pe_tup pa_nil) pa_nil))) (by exact pss_cons (by exact ps_for PassesOwn.never rfl (by exact pi_seq (by exact pv 0)) (by exact pg_name (i := 2) sc_law_subs.nd rfl (Or.inr rfl)) (by exact pss_one (by exact ps_set (i := 1) sc_law_subs.nd rfl (Or.inl rfl) (by exact pe_op op_cat (by exact pv 1) (by exact pe_lc (own := [("_law_lot_so", 3)]) (wi := (iSeq K (tVar 1))) (g := (gName 3)) (tt := tYes) (te := (tOp (rCatA K) (tVar 3) (tTup (tCons (tVar 2) tNil)))) rfl sc_law_subs.nd (by exact pi_seq (by exact pv 1)) (blkOk_by (N := ["_law_some_so", "_law_found", "_law_own", "_law_lot_so"]) (sc := defScope (top 30)) (by decide +kernel)) (fun _ _ _ _ _ => (by exact pg_name (i := 3) sc_law_subs.nd rfl (Or.inl rfl))) (fun _ _ _ _ _ => pts_nil) (fun _ _ _ _ _ => (by exact pe_op op_catA (by exact pv 3) (by exact pe_tup (by exact pa_cons (by exact pv 2) pa_nil))))))))) (by exact pss_one (by exact ps_ret (by exact pe_callB (cr_sortT hr.units) (by rfl) g.sorted (by decide +kernel) (by exact pa_cons (by exact pv 1) pa_nil))))))
theorem sc_law_spots : FnScope ["_law_areas_so", "_law_found", "_law_tag", "_law_own"] ["_law_areas_so"] (defScope (top 31)) := ⟨rfl, rfl, rfl, by decide +kernel, rfl, by decide +kernel, by decide +kernel⟩
def t_law_spots (K : PySem.W.Frag) : TS := (tSeq (tAsg (tLst (tCons (tTup tNil) tNil)) (gName 1)) (tSeq (tFor (iSeq K (tVar 0)) (gName 2) (tAsg (tOp rCat (tVar 1) (tLc (iSeq K (tVar 1)) (gName 3) tYes (tOp (rCatA K) (tVar 3) (tTup (tCons (tVar 2) tNil))) [3])) (gName 1))) (tRet (tCB (rSortT K) (tCons (tVar 1) tNil)))))
theorem ps_law_spots {P : Program} {w : World} {K : PySem.W.Frag} {mg : Str → Option Value} {base : Heap} {k : Nat} (g : G0 K mg) {f : Addr} {cdv : Value} {A : Around} {outer : List Env} {s : Shared} {H : Hp} {E : XK} (hr : Room k (A.deeper (envOfC "_law_spots" (defScope (top 31)) s.heap.objs.size f cdv))) : PSs (cxOf CX0 P w K mg base ["_law_areas_so", "_law_found", "_law_tag", "_law_own"] "_law_spots" (defScope (top 31)) f cdv A outer s H E).nox (defBody (top 31)) (t_law_spots K) := by
  unfold t_law_spots
  exact (by exact pss_cons (by exact ps_set (i := 1) sc_law_spots.nd rfl (Or.inl rfl) (by exact pe_lst (by exact pa_cons (by exact pe_tup pa_nil) pa_nil))) (by exact pss_cons (by exact ps_for PassesOwn.never rfl (by exact pi_seq (by exact pv 0)) (by exact pg_name (i := 2) sc_law_spots.nd rfl (Or.inr rfl)) (by exact pss_one (by exact ps_set (i := 1) sc_law_spots.nd rfl (Or.inl rfl) (by exact pe_op op_cat (by exact pv 1) (by exact pe_lc (own := [("_law_own", 3)]) (wi := (iSeq K (tVar 1))) (g := (gName 3)) (tt := tYes) (te := (tOp (rCatA K) (tVar 3) (tTup (tCons (tVar 2) tNil)))) rfl sc_law_spots.nd (by exact pi_seq (by exact pv 1)) (blkOk_by (N := ["_law_areas_so", "_law_found", "_law_tag", "_law_own"]) (sc := defScope (top 31)) (by decide +kernel)) (fun _ _ _ _ _ => (by exact pg_name (i := 3) sc_law_spots.nd rfl (Or.inl rfl))) (fun _ _ _ _ _ => pts_nil) (fun _ _ _ _ _ => (by exact pe_op op_catA (by exact pv 3) (by exact pe_tup (by exact pa_cons (by exact pv 2) pa_nil))))))))) (by exact pss_one (by exact ps_ret (by exact pe_callB (cr_sortT hr.units) (by rfl) g.sorted (by decide +kernel) (by exact pa_cons (by exact pv 1) pa_nil))))))
theorem sc_law_cut : FnScope ["_law_box_here", "_law_areas_so", "_law_most_so", "_law_turn"] ["_law_box_here", "_law_areas_so", "_law_most_so"] (defScope (top 35)) := ⟨rfl, rfl, rfl, by decide +kernel, rfl, by decide +kernel, by decide +kernel⟩
def t_law_cut (K : PySem.W.Frag) (sp_law_take : Sp) (sp_law_clause : Sp) : TS := (tRet (tCB (rTupleOf K) (tCons (tSortSet K (tLc (iRng1 (tCons (tCall sp_law_take [] E0 (tCons (tVar 0) (tCons (tOp (rI0 fun i j => .int (i + j)) (tVar 2) (tC (.int 1))) tNil))) tNil)) (gName 3) tYes (tCall sp_law_clause [] E0 (tCons (tVar 0) (tCons (tVar 1) tNil))) [3])) tNil)))
theorem ps_law_cut {P : Program} {w : World} {K : PySem.W.Frag} {mg : Str → Option Value} {base : Heap} {k : Nat} {sp_law_take : Sp} {sp_law_clause : Sp} (g : G0 K mg) (D_law_take : Df P w K mg base CX0 k "_law_take" ["_law_box_here", "_law_below_so"] sp_law_take) (D_law_clause : Df P w K mg base CX0 k "_law_clause" ["_law_box_here", "_law_areas_so"] sp_law_clause) {f : Addr} {cdv : Value} {A : Around} {outer : List Env} {s : Shared} {H : Hp} {E : XK} (hr : Room k (A.deeper (envOfC "_law_cut" (defScope (top 35)) s.heap.objs.size f cdv))) : PSs (cxOf CX0 P w K mg base ["_law_box_here", "_law_areas_so", "_law_most_so", "_law_turn"] "_law_cut" (defScope (top 35)) f cdv A outer s H E).nox (defBody (top 35)) (t_law_cut K sp_law_take sp_law_clause) := by
  unfold t_law_cut
  exact (by exact pss_one (by exact ps_ret (by exact pe_callTy cr_tupleOf (by rfl) g.tuple (by decide +kernel) (by exact pa_cons (by exact pe_sortSet hr.units rfl (by rfl) g.sorted (by rfl) g.set (by exact pe_lc (own := [("_law_turn", 3)]) (wi := (iRng1 (tCons (tCall sp_law_take [] E0 (tCons (tVar 0) (tCons (tOp (rI0 fun i j => .int (i + j)) (tVar 2) (tC (.int 1))) tNil))) tNil))) (g := (gName 3)) (tt := tYes) (te := (tCall sp_law_clause [] E0 (tCons (tVar 0) (tCons (tVar 1) tNil)))) rfl sc_law_cut.nd (by exact pi_range1 (by rfl) g.range (by exact pa_cons (by exact pe_df D_law_take hr pass0 (by exact pa_cons (by exact pv 0) (by exact pa_cons (by exact pe_op op_add (by exact pv 2) pe_int) pa_nil))) pa_nil)) (blkOk_by (N := ["_law_box_here", "_law_areas_so", "_law_most_so", "_law_turn"]) (sc := defScope (top 35)) (by decide +kernel)) (fun _ _ _ _ _ => (by exact pg_name (i := 3) sc_law_cut.nd rfl (Or.inl rfl))) (fun _ _ _ _ _ => pts_nil) (fun _ _ _ _ _ => (by exact pe_df D_law_clause hr pass0 (by exact pa_cons (by exact pv 0) (by exact pa_cons (by exact pv 1) pa_nil)))))) pa_nil))))
theorem sc_law_chart : FnScope ["_law_box_here", "_law_many_so", "_law_areas_so", "_law_bare_so", "_law_turn", "_law_own"] ["_law_box_here", "_law_many_so"] (defScope (top 36)) := ⟨rfl, rfl, rfl, by decide +kernel, rfl, by decide +kernel, by decide +kernel⟩
def t_law_chart (K : PySem.W.Frag) (sp_law_take : Sp) (sp_law_clause : Sp) : TS := (tSeq (tAsg (tCB (rSortedS K) (tCons (tSl (rSlL K) (tLst (tCons (tC (.str "m")) (tCons (tC (.str "b")) (tCons (tC (.str "x")) (tCons (tC (.str "aa")) (tCons (tC (.str "k")) tNil)))))) tNoPart (tPart (tOp (rI0 fun i j => .int (i - j)) (tVar 1) (tCB rIntOf (tCons (tOp rEq (tCall sp_law_take [] E0 (tCons (tVar 0) (tCons (tC (.int 6)) tNil))) (tC (.int 0))) tNil))))) tNil)) (gName 2)) (tSeq (tAsg (tLc (iRng1 (tCons (tCall sp_law_take [] E0 (tCons (tVar 0) (tCons (tC (.int 4)) tNil))) tNil)) (gName 4) tYes (tCall sp_law_clause [] E0 (tCons (tVar 0) (tCons (tVar 2) tNil))) [4]) (gName 3)) (tRet (tTup (tCons (tCB (rTupleOf K) (tCons (tVar 2) tNil)) (tCons (tCB (rTupleOf K) (tCons (tSortSet K (tLc (iSeq K (tVar 3)) (gName 5) (tTest (tOp (rI0 fun i j => .bl (decide (j < i))) (tCB (rLenOf K) (tCons (tVar 5) tNil)) (tC (.int 1)))) (tVar 5) [5])) tNil)) tNil))))))
theorem ps_law_chart {P : Program} {w : World} {K : PySem.W.Frag} {mg : Str → Option Value} {base : Heap} {k : Nat} {sp_law_take : Sp} {sp_law_clause : Sp} (g : G0 K mg) (D_law_take : Df P w K mg base CX0 k "_law_take" ["_law_box_here", "_law_below_so"] sp_law_take) (D_law_clause : Df P w K mg base CX0 k "_law_clause" ["_law_box_here", "_law_areas_so"] sp_law_clause) {f : Addr} {cdv : Value} {A : Around} {outer : List Env} {s : Shared} {H : Hp} {E : XK} (hr : Room k (A.deeper (envOfC "_law_chart" (defScope (top 36)) s.heap.objs.size f cdv))) : PSs (cxOf CX0 P w K mg base ["_law_box_here", "_law_many_so", "_law_areas_so", "_law_bare_so", "_law_turn", "_law_own"] "_law_chart" (defScope (top 36)) f cdv A outer s H E).nox (defBody (top 36)) (t_law_chart K sp_law_take sp_law_clause) := by
  unfold t_law_chart
  exact (by exact pss_cons (by exact ps_set (i := 2) sc_law_chart.nd rfl (Or.inr rfl) (by exact pe_callB cr_sortedS (by rfl) g.sorted (by decide +kernel) (by exact pa_cons (by exact pe_slice sl_list (by exact pe_lst (by exact pa_cons pe_str (by exact pa_cons pe_str (by exact pa_cons pe_str (by exact pa_cons pe_str (by exact pa_cons pe_str pa_nil)))))) po_none (by exact po_some (by exact pe_op op_sub (by exact pv 1) (by exact pe_callTy cr_intOf (by rfl) g.int (by decide +kernel) (by exact pa_cons (by exact pe_cmpR op_eq (by exact pe_df D_law_take hr pass0 (by exact pa_cons (by exact pv 0) (by exact pa_cons pe_int pa_nil))) pe_int (nomark _)) pa_nil))))) pa_nil))) (by exact pss_cons (by exact ps_setLc (i := 3) (own := [("_law_turn", 4)]) (wi := (iRng1 (tCons (tCall sp_law_take [] E0 (tCons (tVar 0) (tCons (tC (.int 4)) tNil))) tNil))) (g := (gName 4)) (tt := tYes) (te := (tCall sp_law_clause [] E0 (tCons (tVar 0) (tCons (tVar 2) tNil)))) rfl sc_law_chart.nd rfl rfl (sw_true rfl rfl rfl (by decide +kernel)) (by exact pi_range1 (by rfl) g.range (by exact pa_cons (by exact pe_df D_law_take hr pass0 (by exact pa_cons (by exact pv 0) (by exact pa_cons pe_int pa_nil))) pa_nil)) (blkOk_by (N := ["_law_box_here", "_law_many_so", "_law_areas_so", "_law_bare_so", "_law_turn", "_law_own"]) (sc := defScope (top 36)) (by decide +kernel)) (fun _ _ _ _ _ => (by exact pg_name (i := 4) sc_law_chart.nd rfl (Or.inl rfl))) (fun _ _ _ _ _ => pts_nil) (fun _ _ _ _ _ => (by exact pe_df D_law_clause hr pass0 (by exact pa_cons (by exact pv 0) (by exact pa_cons (by exact pv 2) pa_nil))))) (by exact pss_one (by exact ps_ret (by exact pe_tup (by exact pa_cons (by exact pe_callTy cr_tupleOf (by rfl) g.tuple (by decide +kernel) (by exact pa_cons (by exact pv 2) pa_nil)) (by exact pa_cons (by exact pe_callTy cr_tupleOf (by rfl) g.tuple (by decide +kernel) (by exact pa_cons (by exact pe_sortSet hr.units rfl (by rfl) g.sorted (by rfl) g.set (by exact pe_lc (own := [("_law_own", 5)]) (wi := (iSeq K (tVar 3))) (g := (gName 5)) (tt := (tTest (tOp (rI0 fun i j => .bl (decide (j < i))) (tCB (rLenOf K) (tCons (tVar 5) tNil)) (tC (.int 1))))) (te := (tVar 5)) rfl sc_law_chart.nd (by exact pi_seq (by exact pv 3)) (blkOk_by (N := ["_law_box_here", "_law_many_so", "_law_areas_so", "_law_bare_so", "_law_turn", "_law_own"]) (sc := defScope (top 36)) (by decide +kernel)) (fun _ _ _ _ _ => (by exact pg_name (i := 5) sc_law_chart.nd rfl (Or.inl rfl))) (fun _ _ _ _ _ => (by exact pts_one (by exact pt_cmpR op_gt (by exact pe_callB cr_lenOf (by rfl) g.len (by decide +kernel) (by exact pa_cons (by exact pv 5) pa_nil)) pe_int (nomark _)))) (fun _ _ _ _ _ => (by exact pv 5)))) pa_nil)) pa_nil)))))))
end K30
set_option Elab.async false
set_option linter.all false
set_option maxRecDepth 100000
set_option maxHeartbeats 1000000
namespace K30
open PySem PySem.Spec PyProof.Rows L2
theorem sc_law_case_right : FnScope ["_law_deeds_so", "_law_world_so", "_law_got", "_law_due", "_law_lot_so", "_law_less_so", "_law_soft", "_law_fine_so", "_law_owners_so", "_law_bad_so"] ["_law_deeds_so", "_law_world_so"] (defScope (top 46)) := ⟨rfl, rfl, rfl, by decide +kernel, rfl, by decide +kernel, by decide +kernel⟩
def t_law_case_right (K : PySem.W.Frag) (sp_law_same : Sp) (sp_law_lists : Sp) (sp_wholes_of : Sp) (sp_let_wholes : Sp) (sp_owners_in : Sp) (sp_played : Sp) (sp_law_subs : Sp) (sp_law_wholes : Sp) (sp_law_left : Sp) (sp_law_play : Sp) : TS := (tSeq (tAsg (tTup (tCons (tCall sp_law_lists [] E0 (tCons (tLst (tCons (tVar 0) (tCons (tVar 1) tNil))) tNil)) (tCons (tCall sp_law_play [] E0 (tCons (tVar 1) (tCons (tVar 0) tNil))) tNil))) (gTup K 2 (gCons (gName 6) (gCons (gTup K 3 (gCons (gName 7) (gCons (gName 8) (gCons (gName 9) gNil)))) gNil)))) (tSeq (tAsg (tLst (tCons (tCall sp_let_wholes [] E0 (tCons (tVar 1) (tCons (tVar 0) tNil))) (tCons (tCall sp_owners_in [] E0 (tCons (tVar 1) (tCons (tVar 0) tNil))) (tCons (tCall sp_wholes_of [] E0 (tCons (tVar 0) tNil)) tNil)))) (gName 2)) (tSeq (tAsg (tOp rCat (tVar 2) (tLst (tCons (tCall sp_let_wholes [] E0 (tCons (tOp (rIx K) (tVar 6) (tC (.int 1))) (tCons (tOp (rIx K) (tVar 6) (tC (.int 0))) tNil))) (tCons (tCall sp_owners_in [] E0 (tCons (tOp (rIx K) (tVar 6) (tC (.int 1))) (tCons (tOp (rIx K) (tVar 6) (tC (.int 0))) tNil))) (tCons (tCall sp_wholes_of [] E0 (tCons (tOp (rIx K) (tVar 6) (tC (.int 0))) tNil)) tNil))))) (gName 2)) (tSeq (tAsg (tOp rRep (tLst (tCons (tVar 7) (tCons (tVar 8) (tCons (tCB (rTupleOf K) (tCons (tCall sp_law_wholes [] E0 (tCons (tVar 0) tNil)) tNil)) tNil)))) (tC (.int 2))) (gName 3)) (tSeq (tFor (iSeq K (tCall sp_law_subs [] E0 (tCons (tCall sp_law_wholes [] E0 (tCons (tVar 0) tNil)) tNil))) (gName 4) (tSeq (tAsg (tOp rCat (tVar 2) (tLst (tCons (tCall sp_played [] E0 (tCons (tVar 0) (tCons (tVar 4) tNil))) (tCons (tCall sp_played [] E0 (tCons (tOp (rIx K) (tVar 6) (tC (.int 0))) (tCons (tCB (rListOf K) (tCons (tVar 4) tNil)) tNil))) tNil)))) (gName 2)) (tAsg (tOp rCat (tVar 3) (tOp rRep (tLst (tCons (tCall sp_law_left [] E0 (tCons (tVar 0) (tCons (tVar 4) tNil))) tNil)) (tC (.int 2)))) (gName 3)))) (tSeq (tAsg (tCall sp_played [] E0 (tCons (tVar 0) (tCons (tVar 7) tNil))) (gName 5)) (tSeq (tAsg (tOp rCat (tVar 2) (tLst (tCons (tCall sp_owners_in [] E0 (tCons (tVar 1) (tCons (tVar 5) tNil))) (tCons (tCall sp_let_wholes [] E0 (tCons (tVar 1) (tCons (tVar 5) tNil))) (tCons (tCall sp_wholes_of [] E0 (tCons (tVar 5) tNil)) (tCons (tVar 6) tNil)))))) (gName 2)) (tRet (tCall sp_law_same [] E0 (tCons (tVar 2) (tCons (tOp rCat (tVar 3) (tLst (tCons (tVar 8) (tCons (tTup tNil) (tCons (tTup tNil) (tCons (tCall sp_law_lists [] E0 (tCons (tLst (tCons (tVar 0) (tCons (tVar 1) tNil))) tNil)) tNil)))))) tNil)))))))))))
theorem ps_law_case_right {P : Program} {w : World} {K : PySem.W.Frag} {mg : Str → Option Value} {base : Heap} {k : Nat} {sp_law_same : Sp} {sp_law_lists : Sp} {sp_wholes_of : Sp} {sp_let_wholes : Sp} {sp_owners_in : Sp} {sp_played : Sp} {sp_law_subs : Sp} {sp_law_wholes : Sp} {sp_law_left : Sp} {sp_law_play : Sp} (g : G0 K mg) (D_law_same : Df P w K mg base CX0 k "_law_same" ["_law_got", "_law_due"] sp_law_same) (D_law_lists : Df P w K mg base CX0 k "_law_lists" ["_law_matter_so"] sp_law_lists) (D_wholes_of : Df P w K mg base CX0 k "wholes_of" ["history"] sp_wholes_of) (D_let_wholes : Df P w K mg base CX0 k "let_wholes" ["world", "history"] sp_let_wholes) (D_owners_in : Df P w K mg base CX0 k "owners_in" ["world", "history"] sp_owners_in) (D_played : Df P w K mg base (L2.CX P w) k "played" ["history", "guess"] sp_played) (D_law_subs : Df P w K mg base CX0 k "_law_subs" ["_law_some_so"] sp_law_subs) (D_law_wholes : Df P w K mg base CX0 k "_law_wholes" ["_law_deeds_so"] sp_law_wholes) (D_law_left : Df P w K mg base CX0 k "_law_left" ["_law_deeds_so", "_law_lot_so"] sp_law_left) (D_law_play : Df P w K mg base CX0 k "_law_play" ["_law_world_so", "_law_deeds_so"] sp_law_play) {f : Addr} {cdv : Value} {A : Around} {outer : List Env} {s : Shared} {H : Hp} {E : XK} (hr : Room k (A.deeper (envOfC "_law_case_right" (defScope (top 46)) s.heap.objs.size f cdv))) : PSs (cxOf CX0 P w K mg base ["_law_deeds_so", "_law_world_so", "_law_got", "_law_due", "_law_lot_so", "_law_less_so", "_law_soft", "_law_fine_so", "_law_owners_so", "_law_bad_so"] "_law_case_right" (defScope (top 46)) f cdv A outer s H E).nox (defBody (top 46)) (t_law_case_right K sp_law_same sp_law_lists sp_wholes_of sp_let_wholes sp_owners_in sp_played sp_law_subs sp_law_wholes sp_law_left sp_law_play) := by
  unfold t_law_case_right
  exact (by exact pss_cons (by exact ps_asg (by exact pe_tup (by exact pa_cons (by exact pe_df D_law_lists hr pass0 (by exact pa_cons (by exact pe_lst (by exact pa_cons (by exact pv 0) (by exact pa_cons (by exact pv 1) pa_nil))) pa_nil)) (by exact pa_cons (by exact pe_df D_law_play hr pass0 (by exact pa_cons (by exact pv 1) (by exact pa_cons (by exact pv 0) pa_nil))) pa_nil))) (by exact pg_tup rfl (by exact pgs_cons (by exact pg_name (i := 6) sc_law_case_right.nd rfl (Or.inl rfl)) (by exact pgs_cons (by exact pg_tup rfl (by exact pgs_cons (by exact pg_name (i := 7) sc_law_case_right.nd rfl (Or.inl rfl)) (by exact pgs_cons (by exact pg_name (i := 8) sc_law_case_right.nd rfl (Or.inl rfl)) (by exact pgs_cons (by exact pg_name (i := 9) sc_law_case_right.nd rfl (Or.inl rfl)) pgs_nil)))) pgs_nil)))) (by exact pss_cons (by exact ps_set (i := 2) sc_law_case_right.nd rfl (Or.inl rfl) (by exact pe_lst (by exact pa_cons (by exact pe_df D_let_wholes hr pass0 (by exact pa_cons (by exact pv 1) (by exact pa_cons (by exact pv 0) pa_nil))) (by exact pa_cons (by exact pe_df D_owners_in hr pass0 (by exact pa_cons (by exact pv 1) (by exact pa_cons (by exact pv 0) pa_nil))) (by exact pa_cons (by exact pe_df D_wholes_of hr pass0 (by exact pa_cons (by exact pv 0) pa_nil)) pa_nil))))) (by exact pss_cons (by exact ps_set (i := 2) sc_law_case_right.nd rfl (Or.inl rfl) (by exact pe_op op_cat (by exact pv 2) (by exact pe_lst (by exact pa_cons (by exact pe_df D_let_wholes hr pass0 (by exact pa_cons (by exact pe_ix ix_seq (by exact pv 6) pe_int (fun _ _ => rfl)) (by exact pa_cons (by exact pe_ix ix_seq (by exact pv 6) pe_int (fun _ _ => rfl)) pa_nil))) (by exact pa_cons (by exact pe_df D_owners_in hr pass0 (by exact pa_cons (by exact pe_ix ix_seq (by exact pv 6) pe_int (fun _ _ => rfl)) (by exact pa_cons (by exact pe_ix ix_seq (by exact pv 6) pe_int (fun _ _ => rfl)) pa_nil))) (by exact pa_cons (by exact pe_df D_wholes_of hr pass0 (by exact pa_cons (by exact pe_ix ix_seq (by exact pv 6) pe_int (fun _ _ => rfl)) pa_nil)) pa_nil)))))) (by exact pss_cons (by exact ps_set (i := 3) sc_law_case_right.nd rfl (Or.inl rfl) (by exact pe_op op_rep (by exact pe_lst (by exact pa_cons (by exact pv 7) (by exact pa_cons (by exact pv 8) (by exact pa_cons (by exact pe_callTy cr_tupleOf (by rfl) g.tuple (by decide +kernel) (by exact pa_cons (by exact pe_df D_law_wholes hr pass0 (by exact pa_cons (by exact pv 0) pa_nil)) pa_nil)) pa_nil)))) pe_int)) (by exact pss_cons (by exact ps_for PassesOwn.never rfl (by exact pi_seq (by exact pe_df D_law_subs hr pass0 (by exact pa_cons (by exact pe_df D_law_wholes hr pass0 (by exact pa_cons (by exact pv 0) pa_nil)) pa_nil))) (by exact pg_name (i := 4) sc_law_case_right.nd rfl (Or.inl rfl)) (by exact pss_cons (by exact ps_set (i := 2) sc_law_case_right.nd rfl (Or.inl rfl) (by exact pe_op op_cat (by exact pv 2) (by exact pe_lst (by exact pa_cons (by exact pe_df D_played hr passL (by exact pa_cons (by exact pv 0) (by exact pa_cons (by exact pv 4) pa_nil))) (by exact pa_cons (by exact pe_df D_played hr passL (by exact pa_cons (by exact pe_ix ix_seq (by exact pv 6) pe_int (fun _ _ => rfl)) (by exact pa_cons (by exact pe_callTy cr_listOf (by rfl) g.list (by decide +kernel) (by exact pa_cons (by exact pv 4) pa_nil)) pa_nil))) pa_nil))))) (by exact pss_one (by exact ps_set (i := 3) sc_law_case_right.nd rfl (Or.inl rfl) (by exact pe_op op_cat (by exact pv 3) (by exact pe_op op_rep (by exact pe_lst (by exact pa_cons (by exact pe_df D_law_left hr pass0 (by exact pa_cons (by exact pv 0) (by exact pa_cons (by exact pv 4) pa_nil))) pa_nil)) pe_int)))))) (by exact pss_cons (by exact ps_set (i := 5) sc_law_case_right.nd rfl (Or.inl rfl) (by exact pe_df D_played hr passL (by exact pa_cons (by exact pv 0) (by exact pa_cons (by exact pv 7) pa_nil)))) (by exact pss_cons (by exact ps_set (i := 2) sc_law_case_right.nd rfl (Or.inl rfl) (by exact pe_op op_cat (by exact pv 2) (by exact pe_lst (by exact pa_cons (by exact pe_df D_owners_in hr pass0 (by exact pa_cons (by exact pv 1) (by exact pa_cons (by exact pv 5) pa_nil))) (by exact pa_cons (by exact pe_df D_let_wholes hr pass0 (by exact pa_cons (by exact pv 1) (by exact pa_cons (by exact pv 5) pa_nil))) (by exact pa_cons (by exact pe_df D_wholes_of hr pass0 (by exact pa_cons (by exact pv 5) pa_nil)) (by exact pa_cons (by exact pv 6) pa_nil))))))) (by exact pss_one (by exact ps_ret (by exact pe_df D_law_same hr pass0 (by exact pa_cons (by exact pv 2) (by exact pa_cons (by exact pe_op op_cat (by exact pv 3) (by exact pe_lst (by exact pa_cons (by exact pv 8) (by exact pa_cons (by exact pe_tup pa_nil) (by exact pa_cons (by exact pe_tup pa_nil) (by exact pa_cons (by exact pe_df D_law_lists hr pass0 (by exact pa_cons (by exact pe_lst (by exact pa_cons (by exact pv 0) (by exact pa_cons (by exact pv 1) pa_nil))) pa_nil)) pa_nil)))))) pa_nil))))))))))))
end K30
set_option Elab.async false
set_option linter.all false
set_option maxRecDepth 100000
set_option maxHeartbeats 1000000
namespace K30
open PySem PySem.Spec PyProof.Rows L2
theorem sc_law_by_hand_right : FnScope ["_law_got", "_law_due", "_law_more_so", "_law_worlds_so", "_law_chart_so", "_law_apart_so", "_law_book_so", "_law_alone_so", "_law_both_so", "_law_all_so", "_law_east_so", "_law_own"] [] (defScope (top 47)) := ⟨rfl, rfl, rfl, by decide +kernel, rfl, by decide +kernel, by decide +kernel⟩
def t_law_by_hand_right (K : PySem.W.Frag) (sp_law_same : Sp) (sp_law_more_right : Sp) (sp_owners_in : Sp) (sp_let_wholes : Sp) (sp_played : Sp) (sp_wholes_of : Sp) (sp_law_field : Sp) : TS := (tSeq (tAsg (tCall sp_law_field [] E0 tNil) (gTup K 3 (gCons (gName 4) (gCons (gName 5) (gCons (gName 6) gNil))))) (tSeq (tAsg (tTup (tCons (tTup (tCons (tTup (tCons (tTup (tCons (tC (.str "w")) tNil)) (tCons (tC (.int 1)) (tCons (tC (.str "eve")) tNil)))) tNil)) (tCons (tTup (tCons (tTup (tCons (tTup (tCons (tC (.str "w")) tNil)) (tCons (tC (.int 1)) (tCons (tC (.str "eve")) tNil)))) (tCons (tTup (tCons (tTup (tCons (tC (.str "e")) (tCons (tC (.str "w")) tNil))) (tCons (tC (.int 5)) (tCons (tC (.str "eve")) tNil)))) tNil))) tNil))) (gTup K 2 (gCons (gName 7) (gCons (gName 8) gNil)))) (tSeq (tAsg (tLst (tCons (tCall sp_wholes_of [] E0 (tCons (tVar 6) tNil)) (tCons (tCall sp_wholes_of [] E0 (tCons (tTup tNil) tNil)) (tCons (tCall sp_let_wholes [] E0 (tCons (tVar 7) (tCons (tVar 6) tNil))) (tCons (tCall sp_owners_in [] E0 (tCons (tVar 7) (tCons (tVar 6) tNil))) tNil))))) (gName 0)) (tSeq (tAsg (tOp rCat (tVar 0) (tLst (tCons (tCall sp_let_wholes [] E0 (tCons (tVar 8) (tCons (tVar 6) tNil))) (tCons (tCall sp_owners_in [] E0 (tCons (tVar 8) (tCons (tVar 6) tNil))) (tCons (tCall sp_let_wholes [] E0 (tCons (tTup tNil) (tCons (tVar 6) tNil))) (tCons (tCall sp_owners_in [] E0 (tCons (tTup tNil) (tCons (tVar 6) tNil))) tNil)))))) (gName 0)) (tSeq (tAsg (tLst (tCons (tTup (tCons (tC (.int 2)) tNil)) (tCons (tTup tNil) (tCons (tTup (tCons (tC (.int 2)) tNil)) (tCons (tTup (tCons (tC (.str "bob")) tNil)) (tCons (tTup tNil) (tCons (tTup (tCons (tC (.str "ann")) (tCons (tC (.str "cid")) tNil))) (tCons (tTup (tCons (tC (.int 2)) tNil)) (tCons (tTup tNil) tNil))))))))) (gName 1)) (tSeq (tAsg (tOp rCat (tVar 0) (tLst (tCons (tCall sp_played [] E0 (tCons (tVar 6) (tCons (tTup (tCons (tC (.int 2)) tNil)) tNil))) (tCons (tCall sp_played [] E0 (tCons (tVar 6) (tCons (tTup tNil) tNil))) (tCons (tCall sp_played [] E0 (tCons (tTup tNil) (tCons (tTup tNil) tNil))) tNil))))) (gName 0)) (tSeq (tAsg (tOp rCat (tVar 1) (tLst (tCons (tOp (rCatA K) (tSl (rSlA K) (tVar 6) tNoPart (tPart (tC (.int 2)))) (tTup (tCons (tOp (rCatA K) (tTup (tCons (tC (.str "give")) tNil)) (tSl (rSlA K) (tOp (rIx K) (tVar 6) (tC (.int 2))) (tPart (tC (.int 1))) tNoPart)) tNil))) (tCons (tSl (rSlA K) (tVar 6) tNoPart (tPart (tC (.int 2)))) (tCons (tTup tNil) tNil))))) (gName 1)) (tSeq (tAsg (tTup (tCons (tTup (tCons (tTup tNil) tNil)) (tCons (tTup (tCons (tTup (tCons (tTup (tCons (tC (.str "e")) (tCons (tC (.bl true)) tNil))) tNil)) tNil)) tNil))) (gTup K 2 (gCons (gName 9) (gCons (gName 10) gNil)))) (tSeq (tAsg (tTup (tCons (tTup (tCons (tC (.str "whole")) (tCons (tC (.str "ann")) (tCons (tC (.str "bob")) (tCons (tVar 9) tNil))))) (tCons (tTup (tCons (tC (.str "whole")) (tCons (tC (.str "ann")) (tCons (tC (.str "cy")) (tCons (tVar 10) tNil))))) (tCons (tTup (tCons (tC (.str "whole")) (tCons (tC (.str "cy")) (tCons (tC (.str "ann")) (tCons (tVar 10) tNil))))) tNil)))) (gName 2)) (tSeq (tAsg (tOp (rCatA K) (tVar 2) (tTup (tCons (tTup (tCons (tC (.str "whole")) (tCons (tC (.str "ann")) (tCons (tC (.str "bob")) (tCons (tTup tNil) tNil))))) (tCons (tTup (tCons (tC (.str "charge")) (tCons (tC (.str "ann")) (tCons (tVar 9) tNil)))) (tCons (tTup (tCons (tC (.str "way")) (tCons (tVar 9) (tCons (tVar 9) tNil)))) tNil))))) (gName 2)) (tSeq (tAsg (tLst (tCons (tTup (tCons (tTup (tCons (tTup (tCons (tC (.str "e")) tNil)) (tCons (tC (.int 3)) (tCons (tC (.str "ann")) tNil)))) (tCons (tTup (tCons (tTup tNil) (tCons (tC (.int 1)) (tCons (tC (.str "bob")) tNil)))) tNil))) (tCons (tTup (tCons (tTup (tCons (tTup (tCons (tC (.str "e")) tNil)) (tCons (tC (.int 3)) (tCons (tC (.str "ann")) tNil)))) (tCons (tTup (tCons (tTup (tCons (tC (.str "e")) tNil)) (tCons (tC (.int 3)) (tCons (tC (.str "ann")) tNil)))) tNil))) (tCons (tTup (tCons (tTup (tCons (tTup (tCons (tC (.str "e")) tNil)) (tCons (tC (.int 1)) (tCons (tC (.str "bob")) tNil)))) tNil)) tNil)))) (gName 3)) (tSeq (tAsg (tOp rCat (tVar 0) (tLst (tCons (tLc (iSeq K (tVar 3)) (gName 11) tYes (tCall sp_let_wholes [] E0 (tCons (tVar 11) (tCons (tVar 2) tNil))) [11]) (tCons (tLc (iSeq K (tVar 3)) (gName 11) tYes (tCall sp_owners_in [] E0 (tCons (tVar 11) (tCons (tVar 2) tNil))) [11]) tNil)))) (gName 0)) (tSeq (tAsg (tOp rCat (tVar 1) (tLst (tCons (tLst (tCons (tTup (tCons (tC (.int 1)) (tCons (tC (.int 2)) (tCons (tC (.int 3)) tNil)))) (tCons (tTup (tCons (tC (.int 0)) (tCons (tC (.int 3)) tNil))) (tCons (tTup (tCons (tC (.int 3)) tNil)) tNil)))) (tCons (tLst (tCons (tTup (tCons (tC (.str "ann")) (tCons (tC (.str "bob")) tNil))) (tCons (tTup (tCons (tC (.str "bob")) (tCons (tC (.str "bob")) tNil))) (tCons (tTup (tCons (tC (.str "bob")) tNil)) tNil)))) tNil)))) (gName 1)) (tRet (tAndV (tCall sp_law_same [] E0 (tCons (tVar 0) (tCons (tVar 1) tNil))) (tCall sp_law_more_right [] E0 (tCons (tVar 6) (tCons (tVar 2) (tCons (tVar 3) tNil)))))))))))))))))))
theorem ps_law_by_hand_right {P : Program} {w : World} {K : PySem.W.Frag} {mg : Str → Option Value} {base : Heap} {k : Nat} {sp_law_same : Sp} {sp_law_more_right : Sp} {sp_owners_in : Sp} {sp_let_wholes : Sp} {sp_played : Sp} {sp_wholes_of : Sp} {sp_law_field : Sp} (g : G0 K mg) (D_law_same : Df P w K mg base CX0 k "_law_same" ["_law_got", "_law_due"] sp_law_same) (D_law_more_right : Df P w K mg base CX0 k "_law_more_right" ["_law_book_so", "_law_more_so", "_law_worlds_so"] sp_law_more_right) (D_owners_in : Df P w K mg base CX0 k "owners_in" ["world", "history"] sp_owners_in) (D_let_wholes : Df P w K mg base CX0 k "let_wholes" ["world", "history"] sp_let_wholes) (D_played : Df P w K mg base (L2.CX P w) k "played" ["history", "guess"] sp_played) (D_wholes_of : Df P w K mg base CX0 k "wholes_of" ["history"] sp_wholes_of) (D_law_field : Df P w K mg base CX0 k "_law_field" [] sp_law_field) {f : Addr} {cdv : Value} {A : Around} {outer : List Env} {s : Shared} {H : Hp} {E : XK} (hr : Room k (A.deeper (envOfC "_law_by_hand_right" (defScope (top 47)) s.heap.objs.size f cdv))) : PSs (cxOf CX0 P w K mg base ["_law_got", "_law_due", "_law_more_so", "_law_worlds_so", "_law_chart_so", "_law_apart_so", "_law_book_so", "_law_alone_so", "_law_both_so", "_law_all_so", "_law_east_so", "_law_own"] "_law_by_hand_right" (defScope (top 47)) f cdv A outer s H E).nox (defBody (top 47)) (t_law_by_hand_right K sp_law_same sp_law_more_right sp_owners_in sp_let_wholes sp_played sp_wholes_of sp_law_field) := by
  unfold t_law_by_hand_right
  exact (by exact pss_cons (by exact ps_asg (by exact pe_df0 D_law_field hr pass0) (by exact pg_tup rfl (by exact pgs_cons (by exact pg_name (i := 4) sc_law_by_hand_right.nd rfl (Or.inl rfl)) (by exact pgs_cons (by exact pg_name (i := 5) sc_law_by_hand_right.nd rfl (Or.inl rfl)) (by exact pgs_cons (by exact pg_name (i := 6) sc_law_by_hand_right.nd rfl (Or.inl rfl)) pgs_nil))))) (by exact pss_cons (by exact ps_asg (by exact pe_tup (by exact pa_cons (by exact pe_tup (by exact pa_cons (by exact pe_tup (by exact pa_cons (by exact pe_tup (by exact pa_cons pe_str pa_nil)) (by exact pa_cons pe_int (by exact pa_cons pe_str pa_nil)))) pa_nil)) (by exact pa_cons (by exact pe_tup (by exact pa_cons (by exact pe_tup (by exact pa_cons (by exact pe_tup (by exact pa_cons pe_str pa_nil)) (by exact pa_cons pe_int (by exact pa_cons pe_str pa_nil)))) (by exact pa_cons (by exact pe_tup (by exact pa_cons (by exact pe_tup (by exact pa_cons pe_str (by exact pa_cons pe_str pa_nil))) (by exact pa_cons pe_int (by exact pa_cons pe_str pa_nil)))) pa_nil))) pa_nil))) (by exact pg_tup rfl (by exact pgs_cons (by exact pg_name (i := 7) sc_law_by_hand_right.nd rfl (Or.inl rfl)) (by exact pgs_cons (by exact pg_name (i := 8) sc_law_by_hand_right.nd rfl (Or.inl rfl)) pgs_nil)))) (by exact pss_cons (by exact ps_set (i := 0) sc_law_by_hand_right.nd rfl (Or.inl rfl) (by exact pe_lst (by exact pa_cons (by exact pe_df D_wholes_of hr pass0 (by exact pa_cons (by exact pv 6) pa_nil)) (by exact pa_cons (by exact pe_df D_wholes_of hr pass0 (by exact pa_cons (by exact pe_tup pa_nil) pa_nil)) (by exact pa_cons (by exact pe_df D_let_wholes hr pass0 (by exact pa_cons (by exact pv 7) (by exact pa_cons (by exact pv 6) pa_nil))) (by exact pa_cons (by exact pe_df D_owners_in hr pass0 (by exact pa_cons (by exact pv 7) (by exact pa_cons (by exact pv 6) pa_nil))) pa_nil)))))) (by exact pss_cons (by exact ps_set (i := 0) sc_law_by_hand_right.nd rfl (Or.inl rfl) (by exact pe_op op_cat (by exact pv 0) (by exact pe_lst (by exact pa_cons (by exact pe_df D_let_wholes hr pass0 (by exact pa_cons (by exact pv 8) (by exact pa_cons (by exact pv 6) pa_nil))) (by exact pa_cons (by exact pe_df D_owners_in hr pass0 (by exact pa_cons (by exact pv 8) (by exact pa_cons (by exact pv 6) pa_nil))) (by exact pa_cons (by exact pe_df D_let_wholes hr pass0 (by exact pa_cons (by exact pe_tup pa_nil) (by exact pa_cons (by exact pv 6) pa_nil))) (by exact pa_cons (by exact pe_df D_owners_in hr pass0 (by exact pa_cons (by exact pe_tup pa_nil) (by exact pa_cons (by exact pv 6) pa_nil))) pa_nil))))))) (by exact pss_cons (by exact ps_set (i := 1) sc_law_by_hand_right.nd rfl (Or.inl rfl) (by exact pe_lst (by exact pa_cons (by exact pe_tup (by exact pa_cons pe_int pa_nil)) (by exact pa_cons (by exact pe_tup pa_nil) (by exact pa_cons (by exact pe_tup (by exact pa_cons pe_int pa_nil)) (by exact pa_cons (by exact pe_tup (by exact pa_cons pe_str pa_nil)) (by exact pa_cons (by exact pe_tup pa_nil) (by exact pa_cons (by exact pe_tup (by exact pa_cons pe_str (by exact pa_cons pe_str pa_nil))) (by exact pa_cons (by exact pe_tup (by exact pa_cons pe_int pa_nil)) (by exact pa_cons (by exact pe_tup pa_nil) pa_nil)))))))))) (by exact pss_cons (by exact ps_set (i := 0) sc_law_by_hand_right.nd rfl (Or.inl rfl) (by exact pe_op op_cat (by exact pv 0) (by exact pe_lst (by exact pa_cons (by exact pe_df D_played hr passL (by exact pa_cons (by exact pv 6) (by exact pa_cons (by exact pe_tup (by exact pa_cons pe_int pa_nil)) pa_nil))) (by exact pa_cons (by exact pe_df D_played hr passL (by exact pa_cons (by exact pv 6) (by exact pa_cons (by exact pe_tup pa_nil) pa_nil))) (by exact pa_cons (by exact pe_df D_played hr passL (by exact pa_cons (by exact pe_tup pa_nil) (by exact pa_cons (by exact pe_tup pa_nil) pa_nil))) pa_nil)))))) (by exact pss_cons (by exact ps_set (i := 1) sc_law_by_hand_right.nd rfl (Or.inl rfl) (by exact pe_op op_cat (by exact pv 1) (by exact pe_lst (by exact pa_cons (by exact pe_op op_catA (by exact pe_slice sl_tupA (by exact pv 6) po_none (by exact po_some pe_int)) (by exact pe_tup (by exact pa_cons (by exact pe_op op_catA (by exact pe_tup (by exact pa_cons pe_str pa_nil)) (by exact pe_slice sl_tupA (by exact pe_ix ix_seq (by exact pv 6) pe_int (fun _ _ => rfl)) (by exact po_some pe_int) po_none)) pa_nil))) (by exact pa_cons (by exact pe_slice sl_tupA (by exact pv 6) po_none (by exact po_some pe_int)) (by exact pa_cons (by exact pe_tup pa_nil) pa_nil)))))) (by exact pss_cons (by exact ps_asg (by exact pe_tup (by exact pa_cons (by exact pe_tup (by exact pa_cons (by exact pe_tup pa_nil) pa_nil)) (by exact pa_cons (by exact pe_tup (by exact pa_cons (by exact pe_tup (by exact pa_cons (by exact pe_tup (by exact pa_cons pe_str (by exact pa_cons pe_bl pa_nil))) pa_nil)) pa_nil)) pa_nil))) (by exact pg_tup rfl (by exact pgs_cons (by exact pg_name (i := 9) sc_law_by_hand_right.nd rfl (Or.inl rfl)) (by exact pgs_cons (by exact pg_name (i := 10) sc_law_by_hand_right.nd rfl (Or.inl rfl)) pgs_nil)))) (by exact pss_cons (by exact ps_set (i := 2) sc_law_by_hand_right.nd rfl (Or.inr rfl) (by exact pe_tup (by exact pa_cons (by exact pe_tup (by exact pa_cons pe_str (by exact pa_cons pe_str (by exact pa_cons pe_str (by exact pa_cons (by exact pv 9) pa_nil))))) (by exact pa_cons (by exact pe_tup (by exact pa_cons pe_str (by exact pa_cons pe_str (by exact pa_cons pe_str (by exact pa_cons (by exact pv 10) pa_nil))))) (by exact pa_cons (by exact pe_tup (by exact pa_cons pe_str (by exact pa_cons pe_str (by exact pa_cons pe_str (by exact pa_cons (by exact pv 10) pa_nil))))) pa_nil))))) (by exact pss_cons (by exact ps_set (i := 2) sc_law_by_hand_right.nd rfl (Or.inr rfl) (by exact pe_op op_catA (by exact pv 2) (by exact pe_tup (by exact pa_cons (by exact pe_tup (by exact pa_cons pe_str (by exact pa_cons pe_str (by exact pa_cons pe_str (by exact pa_cons (by exact pe_tup pa_nil) pa_nil))))) (by exact pa_cons (by exact pe_tup (by exact pa_cons pe_str (by exact pa_cons pe_str (by exact pa_cons (by exact pv 9) pa_nil)))) (by exact pa_cons (by exact pe_tup (by exact pa_cons pe_str (by exact pa_cons (by exact pv 9) (by exact pa_cons (by exact pv 9) pa_nil)))) pa_nil)))))) (by exact pss_cons (by exact ps_set (i := 3) sc_law_by_hand_right.nd rfl (Or.inl rfl) (by exact pe_lst (by exact pa_cons (by exact pe_tup (by exact pa_cons (by exact pe_tup (by exact pa_cons (by exact pe_tup (by exact pa_cons pe_str pa_nil)) (by exact pa_cons pe_int (by exact pa_cons pe_str pa_nil)))) (by exact pa_cons (by exact pe_tup (by exact pa_cons (by exact pe_tup pa_nil) (by exact pa_cons pe_int (by exact pa_cons pe_str pa_nil)))) pa_nil))) (by exact pa_cons (by exact pe_tup (by exact pa_cons (by exact pe_tup (by exact pa_cons (by exact pe_tup (by exact pa_cons pe_str pa_nil)) (by exact pa_cons pe_int (by exact pa_cons pe_str pa_nil)))) (by exact pa_cons (by exact pe_tup (by exact pa_cons (by exact pe_tup (by exact pa_cons pe_str pa_nil)) (by exact pa_cons pe_int (by exact pa_cons pe_str pa_nil)))) pa_nil))) (by exact pa_cons (by exact pe_tup (by exact pa_cons (by exact pe_tup (by exact pa_cons (by exact pe_tup (by exact pa_cons pe_str pa_nil)) (by exact pa_cons pe_int (by exact pa_cons pe_str pa_nil)))) pa_nil)) pa_nil))))) (by exact pss_cons (by exact ps_set (i := 0) sc_law_by_hand_right.nd rfl (Or.inl rfl) (by exact pe_op op_cat (by exact pv 0) (by exact pe_lst (by exact pa_cons (by exact pe_lc (own := [("_law_own", 11)]) (wi := (iSeq K (tVar 3))) (g := (gName 11)) (tt := tYes) (te := (tCall sp_let_wholes [] E0 (tCons (tVar 11) (tCons (tVar 2) tNil)))) rfl sc_law_by_hand_right.nd (by exact pi_seq (by exact pv 3)) (blkOk_by (N := ["_law_got", "_law_due", "_law_more_so", "_law_worlds_so", "_law_chart_so", "_law_apart_so", "_law_book_so", "_law_alone_so", "_law_both_so", "_law_all_so", "_law_east_so", "_law_own"]) (sc := defScope (top 47)) (by decide +kernel)) (fun _ _ _ _ _ => (by exact pg_name (i := 11) sc_law_by_hand_right.nd rfl (Or.inl rfl))) (fun _ _ _ _ _ => pts_nil) (fun _ _ _ _ _ => (by exact pe_df D_let_wholes hr pass0 (by exact pa_cons (by exact pv 11) (by exact pa_cons (by exact pv 2) pa_nil))))) (by exact pa_cons (by exact pe_lc (own := [("_law_own", 11)]) (wi := (iSeq K (tVar 3))) (g := (gName 11)) (tt := tYes) (te := (tCall sp_owners_in [] E0 (tCons (tVar 11) (tCons (tVar 2) tNil)))) rfl sc_law_by_hand_right.nd (by exact pi_seq (by exact pv 3)) (blkOk_by (N := ["_law_got", "_law_due", "_law_more_so", "_law_worlds_so", "_law_chart_so", "_law_apart_so", "_law_book_so", "_law_alone_so", "_law_both_so", "_law_all_so", "_law_east_so", "_law_own"]) (sc := defScope (top 47)) (by decide +kernel)) (fun _ _ _ _ _ => (by exact pg_name (i := 11) sc_law_by_hand_right.nd rfl (Or.inl rfl))) (fun _ _ _ _ _ => pts_nil) (fun _ _ _ _ _ => (by exact pe_df D_owners_in hr pass0 (by exact pa_cons (by exact pv 11) (by exact pa_cons (by exact pv 2) pa_nil))))) pa_nil))))) (by exact pss_cons (by exact ps_set (i := 1) sc_law_by_hand_right.nd rfl (Or.inl rfl) (by exact pe_op op_cat (by exact pv 1) (by exact pe_lst (by exact pa_cons (by exact pe_lst (by exact pa_cons (by exact pe_tup (by exact pa_cons pe_int (by exact pa_cons pe_int (by exact pa_cons pe_int pa_nil)))) (by exact pa_cons (by exact pe_tup (by exact pa_cons pe_int (by exact pa_cons pe_int pa_nil))) (by exact pa_cons (by exact pe_tup (by exact pa_cons pe_int pa_nil)) pa_nil)))) (by exact pa_cons (by exact pe_lst (by exact pa_cons (by exact pe_tup (by exact pa_cons pe_str (by exact pa_cons pe_str pa_nil))) (by exact pa_cons (by exact pe_tup (by exact pa_cons pe_str (by exact pa_cons pe_str pa_nil))) (by exact pa_cons (by exact pe_tup (by exact pa_cons pe_str pa_nil)) pa_nil)))) pa_nil))))) (by exact pss_one (by exact ps_ret (by exact pe_and (by exact pe_df D_law_same hr pass0 (by exact pa_cons (by exact pv 0) (by exact pa_cons (by exact pv 1) pa_nil))) (by exact pe_one (by exact pe_df D_law_more_right hr pass0 (by exact pa_cons (by exact pv 6) (by exact pa_cons (by exact pv 2) (by exact pa_cons (by exact pv 3) pa_nil)))))))))))))))))))))
end K30
set_option Elab.async false
set_option linter.all false
set_option maxRecDepth 100000
set_option maxHeartbeats 1000000
namespace K30
open PySem PySem.Spec PyProof.Rows L2
section
variable {P : Program} {w : World} {K : PySem.W.Frag} {mg : Str → Option Value} {base : Heap} {k : Nat}
/-! ### keeps -/
abbrev sp_keeps (K : PySem.W.Frag) : Sp := spP K (fun a : Spot × Cond => [eSpot a.1, eCond a.2]) (fun a => a.2.length ≤ 1000) (fun a d => d = .bool (keepsM a.1 a.2))
theorem sem_keeps {B : Bx} {a : Spot × Cond} {n : Nat} (ha : a.2.length ≤ 1000) {D : Ends} {σ : L2.St} {H : Hp} {T : Hp → Prop} (u : Up T) (q : ∀ v H', Holds B [.dat (eSpot a.1), .dat (eCond a.2), .emp, .emp] [] (AndV B.K T v (.dat (.bool (keepsM a.1 a.2)))) n σ H' → D.rt v H')
    (hh : Holds B [.dat (eSpot a.1), .dat (eCond a.2), .emp, .emp] [] T n σ H) : t_keeps B.K D σ H := by
  unfold t_keeps
  apply p_ret (s := .dat (.bool (keepsM a.1 a.2))) hh u
  case h =>
    refine er_d (ed_cb (ea_one (ed_lc1 a.2 ePair (fun p => [.dat (eSpot a.1), .dat (eCond a.2), .dat (.str p.1), .dat (.bool p.2)]) (fun p => .bool (a.1.contains p.1 == p.2)) (ew_seq (ed_var rfl) (.inr rfl))
      (fun p _ => eg_tup (egs_cons eg_name (egs_cons eg_name egs_nil))) (fun p _ => et_yes) (fun p _ => ?_) ha)) cl_allM) fun s e => e
    (apply ed_fin; (case h => (repeat' first | exact ed_int | exact ed_str | exact ed_bl | exact ed_non | exact ed_ty | exact ed_tys | exact ed_var rfl | exact os_inS | exact os_ninS | exact os_eqS | exact os_neS | exact os_eqB | exact os_neB | exact os_eqI | exact os_add | exact os_sub | exact os_lt | exact os_le | exact os_gt | exact os_ge | exact ea_nil | exact et_yes | exact (os_ix (.inr rfl) rfl) | exact (os_ix (.inl rfl) rfl) | apply ed_neg | apply ed_op | apply ea_cons | apply ed_tup | apply ed_lst | apply et_test | apply et_not | apply ed_notV )); (case e1 => rfl); try rfl)
  case hc => rfl
  case k => exact q
theorem df_keeps (A : At K mg "keeps" 5) (g : G0 K mg) : Df P w K mg base CX0 (k + 1) "keeps" ["spot", "condition"] (sp_keeps K) := by
  refine df_pure A sc_keeps (fun _ => rfl) (by decide) (fun _ _ _ _ _ _ us hl => match us, hl with | [_, _], _ => rfl) fun f cdv A outer s H E C a hr ha => ⟨t_keeps K, ps_keeps g hr, fun D σ q hh => ?_⟩
  exact sem_keeps (B := ⟨K, none, C, H⟩) ha Up.tt (fun v H' h => q v _ H' _ _ _ _ σ rfl h) hh
/-! ### is_in -/
abbrev sp_is_in (K : PySem.W.Frag) : Sp := spP K (fun a : Spot × Cut => [eSpot a.1, eCut a.2]) (fun a => cutOk a.2 = true) (fun a d => d = .bool (isInM a.1 a.2))
theorem sem_is_in {B : Bx} {a : Spot × Cut} {n : Nat} (ha : cutOk a.2 = true) {D : Ends} {σ : L2.St} {H : Hp} {T : Hp → Prop} (u : Up T) (q : ∀ v H', Holds B [.dat (eSpot a.1), .dat (eCut a.2), .emp] [] (AndV B.K T v (.dat (.bool (isInM a.1 a.2)))) n σ H' → D.rt v H')
    (hh : Holds B [.dat (eSpot a.1), .dat (eCut a.2), .emp] [] T n σ H) : t_is_in B.K (sp_keeps B.K) D σ H := by
  unfold t_is_in
  apply p_ret (s := .dat (.bool (isInM a.1 a.2))) hh u
  case h =>
    refine er_d (ed_cb (ea_one (ed_lc1 a.2 eCond (fun x => [.dat (eSpot a.1), .dat (eCut a.2), .dat (eCond x)]) (fun x => .bool (keepsM a.1 x)) (ew_seq (ed_var rfl) (.inr rfl))
      (fun p _ => eg_name) (fun p _ => et_yes) (fun x hx => ed_fin (ed_call (a.1, x) (ea_cons (ed_var rfl) (ea_one (ed_var rfl))) (cutOk_mem ha hx)) rfl rfl) (cutOk_len ha))) cl_anyM) fun s e => e
  case hc => rfl
  case k => exact q
theorem df_is_in (A : At K mg "is_in" 6) (g : G0 K mg) (D1 : Df P w K mg base CX0 k "keeps" ["spot", "condition"] (sp_keeps K)) : Df P w K mg base CX0 (k + 1) "is_in" ["spot", "cut"] (sp_is_in K) := by
  refine df_pure A sc_is_in (fun _ => rfl) (by decide) (fun _ _ _ _ _ _ us hl => match us, hl with | [_, _], _ => rfl) fun f cdv A outer s H E C a hr ha => ⟨t_is_in K (sp_keeps K), ps_is_in g D1 hr, fun D σ q hh => ?_⟩
  exact sem_is_in (B := ⟨K, none, C, H⟩) ha Up.tt (fun v H' h => q v _ H' _ _ _ _ σ rfl h) hh
/-! ### owner_after -/
abbrev sp_owner_after (K : PySem.W.Frag) : Sp := spP K (fun a : Deed × Spot × Str => [eDeed a.1, eSpot a.2.1, .str a.2.2]) (fun a => a.1.ok = true ∧ a.1.kind ≠ "whole") (fun a d => d = .str (a.1.turn a.2.1 a.2.2))
theorem last_at (d : Deed) : atI (.str d.kind :: d.rest) (-1) = some (eCut d.last) := by cases d <;> rfl
theorem sem_owner_after {B : Bx} {d : Deed} {s : Spot} {o : Str} {n : Nat} {tw : Addr} (hw : ∀ C, SqT B.K C tw [.str "give", .str "vest", .str "swap"]) (hd : d.ok = true) (hk : d.kind ≠ "whole") {D : Ends} {σ : L2.St} {H : Hp} {T : Hp → Prop} (u : Up T)
    (q : ∀ v H', Holds B [.dat (eDeed d), .dat (eSpot s), .dat (.str o)] [] (AndV B.K T v (.dat (.str (d.turn s o)))) n σ H' → D.rt v H')
    (hh : Holds B [.dat (eDeed d), .dat (eSpot s), .dat (.str o)] [] T n σ H) : t_owner_after B.K (sp_is_in B.K) tw D σ H := by
  unfold t_owner_after
  have hTW : EvD B 0 (tC (.ref tw)) [.dat (eDeed d), .dat (eSpot s), .dat (.str o)] (.dat (.tuple ((["give", "vest", "swap"] : List Str).map .str))) := ed_val fun C => .tup (hw C) (.cons (.str _) (.cons (.str _) (.cons (.str _) .nil)))
  have e0 : EvD B (0 + 0) (tOp (rIx B.K) (tVar 0) (tC (.int 0))) [.dat (eDeed d), .dat (eSpot s), .dat (.str o)] (.dat (.str d.kind)) := ed_op (ed_var rfl) ed_int (os_ix0 (.inr rfl))
  apply p_ifN (b := !(["give", "vest", "swap"] : List Str).contains d.kind || !isInM s d.last) hh u
  case h =>
    refine et_or (et_test (ed_op e0 hTW os_ninS)) fun _ => et_not (et_val (ed_call (s, d.last) (ea_cons (ed_var rfl) (ea_one (ed_op (ed_var rfl) (ed_neg ed_int) (os_ix (.inr rfl) (last_at d))))) (Deed.okCut hd)))
  case hc => rfl
  case k1 =>
    intro hb H' h1
    have e : d.turn s o = o := by
      have hb : ¬ ((["give", "vest", "swap"] : List Str).contains d.kind = true ∧ isInM s d.last = true) := by
        intro z
        rw [z.1, z.2] at hb
        cases hb
      cases d with
      | four k a b c =>
        have hb : ¬ ((["give", "vest", "swap"] : List Str).contains k = true ∧ isInM s c = true) := hb
        show (if (k == "give" || k == "swap") && isInM s c then _ else o) = o
        rw [if_neg]
        intro z
        simp only [Bool.and_eq_true, Bool.or_eq_true, beq_iff_eq] at z
        refine hb ⟨?_, z.2⟩
        rcases z.1 with e | e <;> rw [e] <;> rfl
      | one k a c =>
        have hb : ¬ ((["give", "vest", "swap"] : List Str).contains k = true ∧ isInM s c = true) := hb
        show (if k == "vest" && isInM s c then a else o) = o
        rw [if_neg]
        intro z
        simp only [Bool.and_eq_true, beq_iff_eq] at z
        refine hb ⟨?_, z.2⟩
        rw [z.1]
        rfl
      | two k c e => rfl
    rw [e] at q
    apply p_ret (s := .dat (.str o)) h1 u
    case h => exact ed_var rfl
    case hc => rfl
    case k => exact q
  case k2 =>
    intro hb H' h1
    have hb : (["give", "vest", "swap"] : List Str).contains d.kind = true ∧ isInM s d.last = true := by
      cases z1 : (["give", "vest", "swap"] : List Str).contains d.kind <;> cases z2 : isInM s d.last <;> rw [z1, z2] at hb <;> first | exact ⟨rfl, rfl⟩ | cases hb
    have hkind : d.kind = "give" ∨ d.kind = "vest" ∨ d.kind = "swap" := by
      have z := List.mem_of_elem_eq_true hb.1
      simpa using z
    cases d with
    | two k c e =>
      exfalso
      have hd : (k != "give" && k != "swap" && k != "whole" && k != "vest" && (cutOk c && cutOk e)) = true := hd
      rcases hkind with z | z | z <;> rw [show k = _ from z] at hd <;> exact absurd hd (by simp)
    | one k a c =>
      have hd : (k != "give" && k != "swap" && k != "whole" && cutOk c) = true := hd
      have e : k = "vest" := by
        rcases hkind with z | z | z
        · rw [show k = _ from z] at hd; exact absurd hd (by simp)
        · exact z
        · rw [show k = _ from z] at hd; exact absurd hd (by simp)
      subst e
      apply p_ifN (b := true) h1 u
      case h => exact et_fin (et_test (ed_op e0 ed_str os_eqS)) rfl rfl
      case hc => rfl
      case k2 => intro z; cases z
      case k1 =>
        intro _ H2 h2
        have q : ∀ v H', Holds B [.dat (eDeed (.one "vest" a c)), .dat (eSpot s), .dat (.str o)] [] (AndV B.K T v (.dat (.str (if true && isInM s c then a else o)))) n σ H' → D.rt v H' := q
        rw [show isInM s c = true from hb.2] at q
        apply p_ret (s := .dat (.str a)) h2 u
        case h => exact ed_op (ed_var rfl) ed_int (os_ix (.inr rfl) rfl)
        case hc => rfl
        case k => exact q
    | four k a b c =>
      have hv : k ≠ "vest" := by
        intro z
        have hd : (k != "vest" && cutOk c) = true := hd
        rw [z] at hd
        exact absurd hd (by simp)
      have hkind : k = "give" ∨ k = "swap" := by
        rcases hkind with z | z | z
        · exact .inl z
        · exact absurd z hv
        · exact .inr z
      have e : Deed.turn s o (.four k a b c) = if o = a then b else if k = "swap" ∧ o = b then a else o := by
        show (if (k == "give" || k == "swap") && isInM s c then _ else o) = _
        rw [show isInM s c = true from hb.2, if_pos]
        rcases hkind with z | z <;> rw [z] <;> rfl
      rw [e] at q
      apply p_ifN (b := false) h1 u
      case h => exact et_fin (et_test (ed_op e0 ed_str os_eqS)) rfl (decide_eq_false hv)
      case hc => rfl
      case k1 => intro z; cases z
      case k2 =>
        intro _ H2 h2
        apply p_ifN (b := decide (o = a)) h2 u
        case h => exact et_test (ed_op (ed_var rfl) (ed_op (ed_var rfl) ed_int (os_ix (.inr rfl) rfl)) os_eqS)
        case hc => rfl
        case k1 =>
          intro z H3 h3
          rw [if_pos (of_decide_eq_true z)] at q
          apply p_ret (s := .dat (.str b)) h3 u
          case h => exact ed_op (ed_var rfl) ed_int (os_ix (.inr rfl) rfl)
          case hc => rfl
          case k => exact q
        case k2 =>
          intro z H3 h3
          rw [if_neg (of_decide_eq_false z)] at q
          apply p_ret (s := .dat (.str (if k = "swap" ∧ o = b then a else o))) h3 u
          case h =>
            refine er_fin (er_if (S := fun z => z = .dat (.str (if k = "swap" ∧ o = b then a else o))) (b := decide (k = "swap") && decide (o = b)) (c2 := 0) (et_and (et_test (ed_op e0 ed_str os_eqS)) fun _ => et_test (ed_op (ed_var rfl) (ed_op (ed_var rfl) ed_int (os_ix (.inr rfl) rfl)) os_eqS))
              (fun y => (ed_op (ed_var rfl) ed_int (os_ix (.inr rfl) rfl)).to ?_) (fun y => (ed_var rfl).to ?_)) rfl fun _ e => e
            · rw [if_pos (by simpa using y)]
            · rw [if_neg (by simpa using y)]
          case hc => rfl
          case k => exact q
theorem df_owner_after {tw : Addr} (A : At K mg "owner_after" 13) (g : G0 K mg) (hw : mg "TITLE_WORDS" = some (.ref tw)) (hw2 : ∀ C, SqT K C tw [.str "give", .str "vest", .str "swap"]) (D1 : Df P w K mg base CX0 k "is_in" ["spot", "cut"] (sp_is_in K)) : Df P w K mg base CX0 (k + 1) "owner_after" ["deed", "spot", "owner"] (sp_owner_after K) := by
  refine df_pure A sc_owner_after (fun _ => rfl) (by decide) (fun _ _ _ _ _ _ us hl => match us, hl with | [_, _, _], _ => rfl) fun f cdv A outer s H E C a hr ha => ⟨t_owner_after K (sp_is_in K) tw, ps_owner_after g hw D1 hr, fun D σ q hh => ?_⟩
  exact sem_owner_after (B := ⟨K, none, C, H⟩) hw2 ha.1 ha.2 Up.tt (fun v H' h => q v _ H' _ _ _ _ σ rfl h) hh
end
end K30
set_option Elab.async false
set_option linter.all false
set_option maxRecDepth 100000
set_option maxHeartbeats 1000000
namespace K30
open PySem PySem.Spec PyProof.Rows L2
section
variable {P : Program} {w : World} {K : PySem.W.Frag} {mg : Str → Option Value} {base : Heap} {k : Nat}
/-! ### is_right -/
abbrev sp_is_right (K : PySem.W.Frag) : Sp := spP K (fun a : Deed × Spot × Str => [eDeed a.1, eSpot a.2.1, .str a.2.2]) (fun a => a.1.ok = true ∧ a.1.kind = "whole") (fun a d => d = .bool (a.1.right a.2.1 a.2.2))
theorem whole_four {d : Deed} (h : d.ok = true) (k : d.kind = "whole") : ∃ a b c, d = .four "whole" a b c ∧ cutOk c = true := by
  cases d with
  | four k1 a b c =>
    have e : k1 = "whole" := k
    subst e
    exact ⟨a, b, c, rfl, Deed.okCut h⟩
  | one k1 a c =>
    have e : k1 = "whole" := k
    subst e
    have h : (("whole" : Str) != "give" && ("whole" : Str) != "swap" && ("whole" : Str) != "whole" && cutOk c) = true := h
    exact absurd h (by simp)
  | two k1 c e =>
    have e : k1 = "whole" := k
    subst e
    have h : (("whole" : Str) != "give" && ("whole" : Str) != "swap" && ("whole" : Str) != "whole" && ("whole" : Str) != "vest" && (cutOk c && cutOk e)) = true := h
    exact absurd h (by simp)
theorem df_is_right (A : At K mg "is_right" 18) (g : G0 K mg) (D1 : Df P w K mg base CX0 k "is_in" ["spot", "cut"] (sp_is_in K)) : Df P w K mg base CX0 (k + 1) "is_right" ["deed", "spot", "owner"] (sp_is_right K) := by
  refine df_pure A sc_is_right (fun _ => rfl) (by decide) (fun _ _ _ _ _ _ us hl => match us, hl with | [_, _, _], _ => rfl) fun f cdv A outer s H E C a hr ha => ⟨t_is_right K (sp_is_in K), ps_is_right g D1 hr, fun D σ q hh => ?_⟩
  obtain ⟨d, sp, o⟩ := a
  obtain ⟨ha1, ha2⟩ := ha
  obtain ⟨a, b, c, e, hc⟩ := whole_four ha1 ha2
  have e' : d = .four "whole" a b c := e
  subst e'
  unfold t_is_right
  apply p_ret (B := ⟨K, none, C, H⟩) (s := .dat (.bool (!isInM sp c || decide (o = a)))) hh Up.tt
  case h => exact ed_orV (ed_notV (ed_call (sp, c) (ea_cons (ed_var rfl) (ea_one (ed_op (ed_var rfl) ed_int (os_ix (.inr rfl) rfl)))) hc)) fun _ => ed_op (ed_var rfl) (ed_op (ed_var rfl) ed_int (os_ix (.inr rfl) rfl)) os_eqS
  case hc => rfl
  case k => exact fun v H' h => q v _ H' _ _ _ _ σ rfl h
/-! ### done -/
abbrev sp_done (K : PySem.W.Frag) : Sp := spP K (fun a : Deed × Spot × Str => [eDeed a.1, eSpot a.2.1, .str a.2.2]) (fun a => a.1.ok = true) (fun a d => d = .str (a.1.done a.2.1 a.2.2))
theorem df_done (A : At K mg "done" 19) (g : G0 K mg) (D1 : Df P w K mg base CX0 k "owner_after" ["deed", "spot", "owner"] (sp_owner_after K)) : Df P w K mg base CX0 (k + 1) "done" ["deed", "spot", "owner"] (sp_done K) := by
  refine df_pure A sc_done (fun _ => rfl) (by decide) (fun _ _ _ _ _ _ us hl => match us, hl with | [_, _, _], _ => rfl) fun f cdv A outer s H E C a hr ha => ⟨t_done K (sp_owner_after K), ps_done g D1 hr, fun D σ q hh => ?_⟩
  obtain ⟨d, sp, o⟩ := a
  have ha : d.ok = true := ha
  unfold t_done
  apply p_ret (B := ⟨K, none, C, H⟩) (s := .dat (.str (d.done sp o))) hh Up.tt
  case h =>
    have fin : ∀ d1 : Deed, (d1.ok = true ∧ d1.kind ≠ "whole") → d.done sp o = d1.turn sp o → ∀ {ta : TE} {rho : List Sl}, EvD ⟨K, none, C, H⟩ 0 ta rho (.dat (eDeed d1)) → rho = [.dat (eDeed d), .dat (eSpot sp), .dat (.str o)] →
        EvD ⟨K, none, C, H⟩ 0 (tCall (sp_owner_after K) [] E0 (tCons ta (tCons (tVar 1) (tCons (tVar 2) tNil)))) rho (.dat (.str (d.done sp o))) := by
      intro d1 h1 h2 ta rho h3 h4
      subst h4
      rw [h2]
      exact ed_fin (ed_call (B := ⟨K, none, C, H⟩) (d1, sp, o) (ea_cons h3 (ea_cons (ed_var rfl) (ea_one (ed_var rfl)))) h1) rfl rfl
    by_cases hk : d.kind = "whole"
    · obtain ⟨a, b, c, e, hc⟩ := whole_four ha hk
      subst e
      refine fin (.four "give" a b c) ⟨by show (("give" : Str) != "vest" && cutOk c) = true; rw [hc]; rfl, by intro z; exact absurd z (by show ¬ ("give" : Str) = "whole"; decide)⟩ rfl ?_ rfl
      refine er_fin (er_if (c2 := 0) (b := true) (et_fin (et_test (ed_op (ed_op (ed_var rfl) ed_int (os_ix0 (.inr rfl))) ed_str os_eqS)) rfl rfl) (fun _ => ?_) (fun z => by cases z)) rfl fun _ e => e
      have hs : EvD ⟨K, none, C, H⟩ 0 (tSl (rSlA K) (tVar 0) (tPart (tC (.int 1))) tNoPart) [.dat (eDeed (.four "whole" a b c)), .dat (eSpot sp), .dat (.str o)] (.dat (.tuple [.str a, .str b, eCut c])) := (ed_slT (B := ⟨K, none, C, H⟩) (ds := [.str "whole", .str a, .str b, eCut c]) (ed_var rfl) (eo_some ed_int) eo_none).to rfl
      exact ed_tup (B := ⟨K, none, C, H⟩) (ds := [.str "give", .str a, .str b, eCut c]) (ea_cons (B := ⟨K, none, C, H⟩) (c2 := 0) ed_str (ea_star (B := ⟨K, none, C, H⟩) (c2 := 0) (ss := []) (ds := [.str a, .str b, eCut c]) hs (.inl rfl) ea_nil))
    · refine fin d ⟨ha, hk⟩ (by unfold Deed.done; rw [if_neg hk]) ?_ rfl
      exact er_fin (er_if (c2 := 0) (b := false) (et_fin (et_test (ed_op (ed_op (ed_var rfl) ed_int (os_ix0 (.inr rfl))) ed_str os_eqS)) rfl (decide_eq_false hk)) (fun z => by cases z) (fun _ => ed_var rfl)) rfl fun _ e => e
  case hc => rfl
  case k => exact fun v H' h => q v _ H' _ _ _ _ σ rfl h
/-! ### tupled -/
abbrev sp_tupled (K : PySem.W.Frag) (n : Nat) : Sp := spP K (fun d : PyData => [d]) (fun d => okD n d = true) (fun d r => r = tupD d)
theorem df_tupled (A : At K mg "tupled" 3) (g : G0 K mg) : ∀ n, Df P w K mg base CX0 (k + n) "tupled" ["thing"] (sp_tupled K n)
  | 0 => (df_never A (fun _ _ _ _ _ _ us hl => match us, hl with | [_], _ => rfl)).imp fun vs H Q E ⟨C, a, _, _, z, _⟩ => by cases z
  | n + 1 => by
    have D1 := df_tupled A g n
    refine df_pure A sc_tupled (fun _ => rfl) (by decide) (fun _ _ _ _ _ _ us hl => match us, hl with | [_], _ => rfl) fun f cdv A outer s H E C d hr ha => ⟨t_tupled K (sp_tupled K n), ps_tupled g D1 hr, fun D σ q hh => ?_⟩
    unfold t_tupled
    apply p_ret (B := ⟨K, none, C, H⟩) (s := .dat (tupD d)) hh Up.tt
    case h =>
      have test : EvT ⟨K, none, C, H⟩ 0 (tB (tCB (rIsiT K) (tCons (tVar 0) (tCons (tTup (tCons (tC (.ty "list")) (tCons (tC (.ty "tuple")) tNil))) tNil)))) [.dat d, .emp] (isB (tyD d) "list" || isB (tyD d) "tuple") :=
        et_val (er_fin (ed_cb (B := ⟨K, none, C, H⟩) (ea_cons (ed_var rfl) (ea_one ed_tys)) (cl_isiT rfl rfl)) rfl fun _ e => e)
      have flat : (isB (tyD d) "list" || isB (tyD d) "tuple") = false → tupD d = d := by cases d <;> intro z <;> first | rfl | cases z
      have seq : (isB (tyD d) "list" || isB (tyD d) "tuple") = true → ∃ ds, SeqD d ds ∧ tupD d = .tuple (ds.map tupD) := by
        intro z
        cases d with
        | list ds => exact ⟨ds, .inl rfl, by show PyData.tuple (tupDs ds) = _; rw [tupDs_map]⟩
        | tuple ds => exact ⟨ds, .inr rfl, by show PyData.tuple (tupDs ds) = _; rw [tupDs_map]⟩
        | _ => cases z
      refine er_fin (er_if (c2 := 0) (S := fun z => z = .dat (tupD d)) test (fun z => ?_) (fun z => (ed_var rfl).to (by rw [flat z]))) rfl fun _ e => e
      obtain ⟨ds, h1, h2⟩ := seq z
      rw [h2]
      refine er_fin (ed_cb (B := ⟨K, none, C, H⟩) (ea_one (ed_lc1 ds id (fun x => [.dat d, .dat x]) tupD (ew_seq (ed_var rfl) (by rw [List.map_id]; exact h1)) (fun x _ => eg_name) (fun x _ => et_yes)
        (fun x hx => ed_fin (ed_call (B := ⟨K, none, C, H⟩) x (ea_one (ed_var rfl)) (okD_mem ha h1 hx)) rfl rfl) (okD_len ha h1))) (cl_tuple (.inl rfl))) rfl fun _ e => e
    case hc => rfl
    case k => exact fun v H' h => q v _ H' _ _ _ _ σ rfl h
/-! ### wholes_of -/
def wholesFrom (i : Nat) : List Deed → List Nat
  | [] => []
  | d :: h => if d.kind = "whole" then i :: wholesFrom (i + 1) h else wholesFrom (i + 1) h
abbrev wholesM (h : List Deed) : List Nat := wholesFrom 0 h
theorem wholes_zip {ds : List PyData} {h : List Deed} (a : Alike eDeed ds h) (i : Nat) : ((((ds.zip h).zipIdx i).filter fun x => decide (x.1.2.kind = ("whole" : Str))).map fun x => PyData.int (x.2 : Int)) = (wholesFrom i h).map fun j : Nat => .int (j : Int) := by
  induction h generalizing ds i with
  | nil => cases ds <;> first | rfl | exact a.elim
  | cons d h ih =>
    cases ds with
    | nil => exact a.elim
    | cons x ds =>
      rw [List.zip_cons_cons, List.zipIdx_cons]
      unfold wholesFrom
      by_cases c : d.kind = "whole"
      · rw [List.filter_cons_of_pos (by simpa using c), if_pos c, List.map_cons, List.map_cons, ih a.2]
      · rw [List.filter_cons_of_neg (by simpa using c), if_neg c, ih a.2]
theorem enumD_zip {α : Type} {e : α → PyData} {ds : List PyData} {as : List α} (a : Alike e ds as) : enumD ds = ((ds.zip as).zipIdx).map fun x => .tuple [.int (x.2 : Int), x.1.1] := by
  have h := a.fst
  unfold enumD
  conv => lhs; rw [← h]
  rw [List.zipIdx_map, List.map_map]
  rfl
theorem zip_len {ds : List PyData} {α : Type} {e : α → PyData} {as : List α} (a : Alike e ds as) : (ds.zip as).length = ds.length := by
  have z := congrArg List.length a.fst
  rw [List.length_map] at z
  exact z
abbrev sp_wholes_of (K : PySem.W.Frag) : Sp := spP K (fun a : PyData × List Deed => [a.1]) (fun a => tupD a.1 = eBook a.2 ∧ a.2.length ≤ 1000) (fun a d => d = eNats (wholesM a.2))
theorem df_wholes_of (A : At K mg "wholes_of" 15) (g : G0 K mg) : Df P w K mg base CX0 (k + 1) "wholes_of" ["history"] (sp_wholes_of K) := by
  refine df_pure A sc_wholes_of (fun _ => rfl) (by decide) (fun _ _ _ _ _ _ us hl => match us, hl with | [_], _ => rfl) fun f cdv A outer s H E C a hr ha => ⟨t_wholes_of K, ps_wholes_of g hr, fun D σ q hh => ?_⟩
  obtain ⟨d, h⟩ := a
  obtain ⟨ha, hl⟩ := ha
  obtain ⟨ds, h1, h2⟩ := soft_seq ha
  have al := alike_of h2
  have len : ds.length = h.length := by rw [← zip_len al, ← List.length_map (f := Prod.snd), al.snd]
  unfold t_wholes_of
  apply p_ret (B := ⟨K, none, C, H⟩) (s := .dat (eNats (wholesM h))) hh Up.tt
  case h =>
    refine er_fin (ed_cb (B := ⟨K, none, C, H⟩) (ea_one (ed_lc ((ds.zip h).zipIdx) (fun x => .tuple [.int (x.2 : Int), x.1.1]) (fun x => [.dat d, .dat (.int (x.2 : Int)), .dat x.1.1]) (fun x => decide (x.1.2.kind = ("whole" : Str))) (fun x => .int (x.2 : Int))
      (by rw [← enumD_zip al]; exact ew_enum (ed_var rfl) h1) (fun x _ => eg_tup (egs_cons eg_name (egs_cons eg_name egs_nil))) (fun x hx => ?_) (fun x _ _ => ed_var rfl) (by rw [List.length_zipIdx, zip_len al, len]; exact hl))) (cl_tuple (.inl rfl))) rfl fun _ e => ?_
    · have m : x.1 ∈ ds.zip h := by
        obtain ⟨p, i⟩ := x
        exact (List.mem_zipIdx hx).2.2 ▸ List.getElem_mem _
      obtain ⟨r, g1, g2⟩ := soft_deed (al.mem _ m)
      exact et_fin (et_test (ed_op (ed_op (ed_var rfl) ed_int (os_ix0 g1)) ed_str os_eqS)) rfl rfl
    · rw [e]
      show Sl.dat (.tuple _) = Sl.dat (.tuple _)
      rw [wholes_zip al]
  case hc => rfl
  case k => exact fun v H' h => q v _ H' _ _ _ _ σ rfl h
end
end K30
set_option Elab.async false
set_option linter.all false
set_option maxRecDepth 100000
set_option maxHeartbeats 1000000
namespace K30
open PySem PySem.Spec PyProof.Rows L2
/-! ### play -/
def turned (w : List Point) (os : List Str) (d : Deed) : List Str := (w.zip os).map fun p => d.done p.1.spot p.2
def fine (w : List Point) (os : List Str) (d : Deed) : Bool := ((w.zip os).map fun p => d.right p.1.spot p.2).all id
def stepM (w : List Point) (st : List Nat × List Str) (x : Deed × Nat) : List Nat × List Str :=
  if x.1.kind = "whole" then (if fine w st.2 x.1 = true then (st.1 ++ [x.2], turned w st.2 x.1) else st) else (st.1, turned w st.2 x.1)
def playM (w : List Point) (h : List Deed) : List Nat × List Str := h.zipIdx.foldl (stepM w) ([], w.map Point.own)
def eNat (i : Nat) : PyData := .int (i : Int)
theorem enumD_map {α : Type} (e : α → PyData) (as : List α) : enumD (as.map e) = as.zipIdx.map fun x => .tuple [.int (x.2 : Int), e x.1] := by
  unfold enumD
  rw [List.zipIdx_map, List.map_map]
  rfl
theorem zipD_map {α β : Type} (e : α → PyData) (f : β → PyData) (as : List α) (bs : List β) : zipD (as.map e) (bs.map f) = (as.zip bs).map fun x => .tuple [e x.1, f x.2] := by
  unfold zipD
  rw [List.zip_map, List.map_map]
  rfl
theorem step_len {w : List Point} {st : List Nat × List Str} {x : Deed × Nat} (h : st.2.length = w.length) : (stepM w st x).2.length = w.length := by
  unfold stepM turned
  split
  · split
    · simp [h]
    · exact h
  · simp [h]
theorem step_fine {w : List Point} {st : List Nat × List Str} {x : Deed × Nat} {n : Nat} (h : st.1.length ≤ n) : (stepM w st x).1.length ≤ n + 1 := by
  unfold stepM
  split
  · split
    · rw [List.length_append]; exact Nat.succ_le_succ h
    · exact Nat.le_succ_of_le h
  · exact Nat.le_succ_of_le h
def eSO (q : Spot × Str) : PyData := .tuple [eSpot q.1, .str q.2]
section
variable {P : Program} {w : World} {K : PySem.W.Frag} {mg : Str → Option Value} {base : Heap} {k : Nat}
def dep : Nat := 12
/-- a world and a book, soft or not, and what they are -/
structure WB where
  wd : PyData
  hd : PyData
  w : List Point
  h : List Deed
structure WB.Ok (a : WB) : Prop where
  dw : okD dep a.wd = true
  dh : okD dep a.hd = true
  sw : tupD a.wd = eWorld a.w
  sh : tupD a.hd = eBook a.h
  lw : a.w.length ≤ 1000
  lh : a.h.length ≤ 999
  ok : ∀ d ∈ a.h, d.ok = true
abbrev sp_play (K : PySem.W.Frag) : Sp := spP K (fun a : WB => [a.wd, a.hd]) WB.Ok (fun a d => d = .tuple [eNats (playM a.w a.h).1, eNames (playM a.w a.h).2])
theorem df_play (A : At K mg "play" 20) (g : G0 K mg) (D1 : Df P w K mg base CX0 k "tupled" ["thing"] (sp_tupled K dep)) (D2 : Df P w K mg base CX0 k "done" ["deed", "spot", "owner"] (sp_done K)) (D3 : Df P w K mg base CX0 k "is_right" ["deed", "spot", "owner"] (sp_is_right K)) :
    Df P w K mg base CX0 (k + 1) "play" ["world", "history"] (sp_play K) := by
  refine df_pure A sc_play (fun _ => rfl) (by decide) (fun _ _ _ _ _ _ us hl => match us, hl with | [_, _], _ => rfl) fun f cdv A outer s H E C a hr ha => ⟨t_play K (sp_tupled K dep) (sp_done K) (sp_is_right K), ps_play g D1 D2 D3 hr, fun D σ q hh => ?_⟩
  obtain ⟨B, hB⟩ : ∃ B : Bx, B = ⟨K, none, C, H⟩ := ⟨_, rfl⟩
  have eK : K = B.K := by rw [hB]
  rw [← hB] at hh q
  clear hB
  subst eK
  unfold t_play
  apply p_parHotN (s := .dat (eWorld a.w)) hh Up.tt (ed_fin (ed_call a.wd (ea_one (ed_var rfl)) ha.dw) rfl (by rw [ha.sw])) rfl
  intro p σ1 H1 h1
  have h1 : Holds B [.dat a.wd, .dat a.hd, .emp, .dat (eWorld a.w), .adr p, .emp, .emp, .emp, .emp, .emp, .emp, .emp, .emp] [(p, [])] (fun _ => True) 0 σ1 H1 := h1
  apply p_asgN (s := .dat (.list ((a.w.map Point.own).map .str))) h1 Up.tt
  case h =>
    refine ed_fin (ed_lc1 a.w ePoint (fun x => [.dat a.wd, .dat a.hd, .emp, .dat (eWorld a.w), .adr p, .emp, .emp, .emp, .dat (eSpot x.spot), .dat (.int x.size), .dat (.str x.own), .emp, .emp]) (fun x => .str x.own) (ew_seq (ed_var rfl) (.inr rfl))
      (fun x _ => eg_tup (egs_cons eg_name (egs_cons eg_name (egs_cons eg_name egs_nil)))) (fun _ _ => et_yes) (fun x _ => ed_var rfl) ha.lw) rfl (by rw [List.map_map]; rfl)
  case hc => rfl
  case k =>
    intro σ2 H2 h2
    apply p_forN (x0 := ([], a.w.map Point.own)) a.h.zipIdx (fun x => .tuple [.int (x.2 : Int), eDeed x.1]) (stepM a.w) (fun i x => x.1.length ≤ i ∧ x.2.length = a.w.length)
      (fun x => [.dat a.wd, .dat a.hd, .dat (.list (x.2.map .str)), .dat (eWorld a.w), .adr p, .emp, .emp, .emp, .emp, .emp, .emp, .emp, .emp]) (fun x => [(p, x.1.map eNat)]) h2 Up.tt
    case hw =>
      rw [← enumD_map]
      exact ew_enum (ed_fin (ed_call a.hd (ea_one (ed_var rfl)) ha.dh) rfl (by rw [ha.sh]; rfl)) (.inr rfl)
    case hc => rfl
    case hr => rfl
    case hm => rfl
    case h0 => exact ⟨Nat.le_refl _, by rw [List.length_map]⟩
    case turn =>
      intro i x st T' m N σ' H' v hx hst up h3 next
      obtain ⟨d, j⟩ := x
      have hd : d ∈ a.h := by
        have z := List.mem_of_getElem? hx
        exact (List.mem_zipIdx z).2.2 ▸ List.getElem_mem _
      have hdk := ha.ok d hd
      have hi : i < a.h.length := by
        have z := (List.getElem?_eq_some_iff.mp hx).1
        rw [List.length_zipIdx] at z
        exact z
      refine (eg_tup (vs := [5, 6]) (ds := [.int (j : Int), eDeed d]) (egs_cons eg_name (egs_cons eg_name egs_nil))) _ _ _ _ _ _ up h3 _ fun σ3 _ h4 => ?_
      apply p_asgN (s := .dat (.list (((a.w.zip st.2).map fun p => (p.1.spot, p.2)).map eSO))) h4 up
      case h =>
        refine ed_fin (ed_lc1 (a.w.zip st.2) (fun x => .tuple [ePoint x.1, .str x.2]) (fun x => [.dat a.wd, .dat a.hd, .dat (.list (st.2.map .str)), .dat (eWorld a.w), .adr p, .dat (.int (j : Int)), .dat (eDeed d), .emp, .emp, .emp, .emp, .dat (ePoint x.1), .dat (.str x.2)])
          (fun x => eSO (x.1.spot, x.2)) (by rw [← zipD_map]; exact ew_zip (ed_var rfl) (.inr rfl) (ed_var rfl) (.inl rfl)) (fun x _ => eg_tup (egs_cons eg_name (egs_cons eg_name egs_nil))) (fun _ _ => et_yes)
          (fun x _ => ed_fin (ed_tup (ds := [eSpot x.1.spot, .str x.2]) (ea_cons (ed_op (ed_var rfl) ed_int (os_ix0 (.inr rfl))) (ea_one (ed_var rfl)))) rfl rfl) (by rw [List.length_zip]; have := ha.lw; omega)) rfl (by rw [List.map_map]; rfl)
      case hc => rfl
      case k =>
        intro σ4 H4 h5
        obtain ⟨so, hso⟩ : ∃ so, so = (a.w.zip st.2).map fun p => (p.1.spot, p.2) := ⟨_, rfl⟩
        have lso : so.length ≤ 1000 := by rw [hso, List.length_map, List.length_zip]; have := ha.lw; omega
        have h5 : Holds B [.dat a.wd, .dat a.hd, .dat (.list (st.2.map .str)), .dat (eWorld a.w), .adr p, .dat (.int (j : Int)), .dat (eDeed d), .dat (.list (so.map eSO)), .emp, .emp, .emp, .emp, .emp] [(p, st.1.map eNat)] T' m σ4 H4 := by
          rw [hso]; exact h5
        have e1 : fine a.w st.2 d = ((so.map fun q => d.right q.1 q.2).all id) := by rw [hso, List.map_map]; rfl
        have e2 : turned a.w st.2 d = so.map fun q => d.done q.1 q.2 := by rw [hso, List.map_map]; rfl
        -- the last step
        have last : ∀ (fs : List Nat) σ5 H5 D', D'.nx = N → stepM a.w st (d, j) = (fs, turned a.w st.2 d) → Holds B [.dat a.wd, .dat a.hd, .dat (.list (st.2.map .str)), .dat (eWorld a.w), .adr p, .dat (.int (j : Int)), .dat (eDeed d), .dat (.list (so.map eSO)), .emp, .emp, .emp, .emp, .emp] [(p, fs.map eNat)] T' m σ5 H5 →
            tAsg (tLc (iSeq B.K (tVar 7)) (gTup B.K 2 (gCons (gName 8) (gCons (gName 12) gNil))) tYes (tCall (sp_done B.K) [] E0 (tCons (tVar 6) (tCons (tVar 8) (tCons (tVar 12) tNil)))) [8, 12]) (gName 2) D' σ5 H5 := by
          intro fs σ5 H5 D' hN hs h6
          apply p_asg (s := .dat (.list ((turned a.w st.2 d).map .str))) h6 up
          case h =>
            refine ed_fin (ed_lc1 so eSO (fun x => [.dat a.wd, .dat a.hd, .dat (.list (st.2.map .str)), .dat (eWorld a.w), .adr p, .dat (.int (j : Int)), .dat (eDeed d), .dat (.list (so.map eSO)), .dat (eSpot x.1), .emp, .emp, .emp, .dat (.str x.2)])
              (fun x => .str (d.done x.1 x.2)) (ew_seq (ed_var rfl) (.inl rfl)) (fun x _ => eg_tup (egs_cons eg_name (egs_cons eg_name egs_nil))) (fun _ _ => et_yes)
              (fun x _ => ed_fin (ed_call (d, x.1, x.2) (ea_cons (ed_var rfl) (ea_cons (ed_var rfl) (ea_one (ed_var rfl)))) hdk) rfl rfl) lso) rfl (by rw [e2, List.map_map]; rfl)
          case hc => rfl
          case k =>
            intro σ6 H6 h7
            rw [hN]
            refine next _ _ ⟨step_fine hst.1, step_len hst.2⟩ ?_
            rw [hs]
            exact h7.less rfl fun i s e => by
              match i with
              | 0 | 1 | 2 | 3 | 4 => exact .inr e
              | 5 | 6 | 7 | 8 | 9 | 10 | 11 | 12 => exact .inl (Option.some.inj e).symm
              | i + 13 => exact .inr e
        by_cases hk : d.kind = "whole"
        · have test : EvT B 0 (tTest (tOp rEq (tOp (rIx B.K) (tVar 6) (tC (.int 0))) (tC (.str "whole")))) [.dat a.wd, .dat a.hd, .dat (.list (st.2.map .str)), .dat (eWorld a.w), .adr p, .dat (.int (j : Int)), .dat (eDeed d), .dat (.list (so.map eSO)), .emp, .emp, .emp, .emp, .emp] true :=
            et_fin (et_test (ed_op (ed_op (ed_var rfl) ed_int (os_ix0 (.inr rfl))) ed_str os_eqS)) rfl (decide_eq_true hk)
          apply p_ifN h5 up test rfl
          case k2 => intro z; cases z
          case k1 =>
            intro _ H5 h6
            apply p_ifN (b := !fine a.w st.2 d) h6 up
            case h =>
              rw [e1]
              refine et_not (et_val (er_fin (c1 := 0) (ed_cb (ea_one (ed_lc1 so eSO (fun x => [.dat a.wd, .dat a.hd, .dat (.list (st.2.map .str)), .dat (eWorld a.w), .adr p, .dat (.int (j : Int)), .dat (eDeed d), .dat (.list (so.map eSO)), .dat (eSpot x.1), .emp, .emp, .emp, .dat (.str x.2)])
                (fun x => .bool (d.right x.1 x.2)) (ew_seq (ed_var rfl) (.inl rfl)) (fun x _ => eg_tup (egs_cons eg_name (egs_cons eg_name egs_nil))) (fun _ _ => et_yes)
                (fun x _ => ed_fin (ed_call (d, x.1, x.2) (ea_cons (ed_var rfl) (ea_cons (ed_var rfl) (ea_one (ed_var rfl)))) ⟨hdk, hk⟩) rfl rfl) lso)) cl_allM) rfl fun _ e => e))
            case hc => rfl
            case k1 =>
              intro z H6 h7
              have hf : fine a.w st.2 d = false := by simpa using z
              have hs : stepM a.w st (d, j) = st := by
                unfold stepM
                rw [if_pos hk, if_neg (by rw [hf]; decide)]
              show N σ4 H6
              refine next _ _ ⟨step_fine hst.1, step_len hst.2⟩ ?_
              rw [hs]
              exact h7.less rfl fun i s e => by
                match i with
                | 0 | 1 | 2 | 3 | 4 => exact .inr e
                | 5 | 6 | 7 | 8 | 9 | 10 | 11 | 12 => exact .inl (Option.some.inj e).symm
                | i + 13 => exact .inr e
            case k2 =>
              intro z H6 h7
              have hf : fine a.w st.2 d = true := by simpa using z
              have hs : stepM a.w st (d, j) = (st.1 ++ [j], turned a.w st.2 d) := by
                unfold stepM
                rw [if_pos hk, if_pos hf]
              refine s_app (c := 0) (S := fun z => z = .dat (.int (j : Int))) h7 up rfl ((ed_var rfl).imp fun s e => ⟨_, e, e⟩) (by have := ha.lh; have := hst.1; rw [List.length_map]; omega) fun dd σ5 H7 e h8 => ?_
              have e := Sl.dat.inj e
              subst e
              refine last (st.1 ++ [j]) _ _ _ rfl hs ?_
              rw [List.map_append]
              exact h8
        · have test : EvT B 0 (tTest (tOp rEq (tOp (rIx B.K) (tVar 6) (tC (.int 0))) (tC (.str "whole")))) [.dat a.wd, .dat a.hd, .dat (.list (st.2.map .str)), .dat (eWorld a.w), .adr p, .dat (.int (j : Int)), .dat (eDeed d), .dat (.list (so.map eSO)), .emp, .emp, .emp, .emp, .emp] false :=
            et_fin (et_test (ed_op (ed_op (ed_var rfl) ed_int (os_ix0 (.inr rfl))) ed_str os_eqS)) rfl (decide_eq_false hk)
          apply p_ifN h5 up test rfl
          case k1 => intro z; cases z
          case k2 =>
            intro _ H5 h6
            exact last st.1 _ _ _ rfl (by unfold stepM; rw [if_neg hk]) h6
    case done =>
      intro σ3 H3 _ h3
      have h4 := (h3.freeze Up.tt).reslot (i := 4) rfl
      apply p_ret (s := .dat (.tuple [eNats (playM a.w a.h).1, eNames (playM a.w a.h).2])) h4 Up.tt
      case h =>
        exact ed_fin (ed_tup (ds := [eNats (playM a.w a.h).1, eNames (playM a.w a.h).2]) (ea_cons (er_fin (c1 := 0) (ed_cb (ea_one (ed_var rfl)) (cl_tuple (.inl rfl))) rfl fun _ e => e) (ea_one (er_fin (c1 := 0) (ed_cb (ea_one (ed_var rfl)) (cl_tuple (.inl rfl))) rfl fun _ e => e)))) rfl rfl
      case hc => rfl
      case k => exact fun v H' h => q v _ H' _ _ _ _ σ3 rfl h
end
end K30
set_option Elab.async false
set_option linter.all false
set_option maxRecDepth 100000
set_option maxHeartbeats 1000000
namespace K30
open PySem PySem.Spec PyProof.Rows L2
section
variable {P : Program} {w : World} {K : PySem.W.Frag} {mg : Str → Option Value} {base : Heap} {k : Nat}
abbrev sp_let_wholes (K : PySem.W.Frag) : Sp := spP K (fun a : WB => [a.wd, a.hd]) WB.Ok (fun a d => d = eNats (playM a.w a.h).1)
abbrev sp_owners_in (K : PySem.W.Frag) : Sp := spP K (fun a : WB => [a.wd, a.hd]) WB.Ok (fun a d => d = eNames (playM a.w a.h).2)
theorem df_let_wholes (A : At K mg "let_wholes" 21) (g : G0 K mg) (D1 : Df P w K mg base CX0 k "play" ["world", "history"] (sp_play K)) : Df P w K mg base CX0 (k + 1) "let_wholes" ["world", "history"] (sp_let_wholes K) := by
  refine df_pure A sc_let_wholes (fun _ => rfl) (by decide) (fun _ _ _ _ _ _ us hl => match us, hl with | [_, _], _ => rfl) fun f cdv A outer s H E C a hr ha => ⟨t_let_wholes K (sp_play K), ps_let_wholes g D1 hr, fun D σ q hh => ?_⟩
  unfold t_let_wholes
  apply p_ret (B := ⟨K, none, C, H⟩) (s := .dat (eNats (playM a.w a.h).1)) hh Up.tt
  case h => exact ed_fin (ed_op (ed_call a (ea_cons (ed_var rfl) (ea_one (ed_var rfl))) ha) ed_int (os_ix (.inr rfl) rfl)) rfl rfl
  case hc => rfl
  case k => exact fun v H' h => q v _ H' _ _ _ _ σ rfl h
theorem df_owners_in (A : At K mg "owners_in" 22) (g : G0 K mg) (D1 : Df P w K mg base CX0 k "play" ["world", "history"] (sp_play K)) : Df P w K mg base CX0 (k + 1) "owners_in" ["world", "history"] (sp_owners_in K) := by
  refine df_pure A sc_owners_in (fun _ => rfl) (by decide) (fun _ _ _ _ _ _ us hl => match us, hl with | [_, _], _ => rfl) fun f cdv A outer s H E C a hr ha => ⟨t_owners_in K (sp_play K), ps_owners_in g D1 hr, fun D σ q hh => ?_⟩
  unfold t_owners_in
  apply p_ret (B := ⟨K, none, C, H⟩) (s := .dat (eNames (playM a.w a.h).2)) hh Up.tt
  case h => exact ed_fin (ed_op (ed_call a (ea_cons (ed_var rfl) (ea_one (ed_var rfl))) ha) ed_int (os_ix (.inr rfl) rfl)) rfl rfl
  case hc => rfl
  case k => exact fun v H' h => q v _ H' _ _ _ _ σ rfl h
end
end K30
set_option Elab.async false
set_option linter.all false
set_option maxRecDepth 100000
set_option maxHeartbeats 1000000
namespace K30
open PySem PySem.Spec PyProof.Rows L2
/-! ### lists of texts or numbers against [] -/
theorem lay_strs : ∀ {l : List Str}, (∀ x ∈ l, PyData.strOk x = true) → PyData.canLayAll0 (l.map .str) = true
  | [], _ => rfl
  | x :: l, h => by
    show (PyData.strOk x && PyData.canLayAll0 (l.map .str)) = true
    rw [h x List.mem_cons_self, lay_strs fun y hy => h y (List.mem_cons_of_mem _ hy)]
    rfl
theorem deep_flat : ∀ {l : List PyData}, (∀ x ∈ l, flatD x = true) → PyData.depthAll l = 0
  | [], _ => rfl
  | x :: l, h => by
    have e : PyData.depth x = 0 := by
      have := h x List.mem_cons_self
      cases x <;> first | rfl | cases this
    show max (PyData.depth x) (PyData.depthAll l) = 0
    rw [e, deep_flat fun y hy => h y (List.mem_cons_of_mem _ hy)]
    rfl
theorem shaped_strs {l : List Str} (h : ∀ x ∈ l, PyData.strOk x = true) : SeqAt.shaped (.list (l.map .str)) = true := by
  show (PyData.canLayAll0 (l.map .str) && decide (PyData.depthAll (l.map .str) + 1 ≤ 64)) = true
  rw [lay_strs h, deep_flat mem_flat]
  rfl
theorem shaped_strsT {l : List Str} (h : ∀ x ∈ l, PyData.strOk x = true) : SeqAt.shaped (.tuple (l.map .str)) = true := shaped_strs h
theorem lay_nats : ∀ {l : List Nat}, PyData.canLayAll0 (l.map eNat) = true
  | [] => rfl
  | x :: l => by
    show (true && PyData.canLayAll0 (l.map eNat)) = true
    rw [lay_nats]
    rfl
theorem shaped_nats {l : List Nat} : SeqAt.shaped (.list (l.map eNat)) = true := by
  show (PyData.canLayAll0 (l.map eNat) && decide (PyData.depthAll (l.map eNat) + 1 ≤ 64)) = true
  rw [lay_nats, deep_flat fun y hy => by obtain ⟨z, _, e⟩ := List.mem_map.mp hy; rw [← e]; rfl]
  rfl
theorem eqv_nil (l : List PyData) : PyData.eqv (.list l) (.list []) = l.isEmpty := by
  cases l with
  | nil => rfl
  | cons x l => rfl
section
variable {P : Program} {w : World} {K : PySem.W.Frag} {mg : Str → Option Value} {base : Heap} {k : Nat}
/-! ### _law_in -/
abbrev sp_law_in (K : PySem.W.Frag) : Sp := spP K (fun a : Spot × Cut => [eSpot a.1, eCut a.2]) (fun a => cutOk a.2 = true) (fun a d => d = .bool (isInM a.1 a.2))
theorem filter_empty {s : Spot} {c : Cond} : ((c.filter fun p => !(s.contains p.1 == p.2)).map fun p => PyData.str p.1).isEmpty = keepsM s c := by
  unfold keepsM
  induction c with
  | nil => rfl
  | cons p c ih =>
    cases h : (s.contains p.1 == p.2) with
    | true =>
      rw [List.filter_cons_of_neg (by rw [h]; decide), ih, List.map_cons, List.all_cons, h]
      rfl
    | false =>
      rw [List.filter_cons_of_pos (by rw [h]; rfl), List.map_cons, List.map_cons, List.all_cons, h]
      rfl
theorem df_law_in (A : At K mg "_law_in" 32) (g : G0 K mg) : Df P w K mg base CX0 (k + 1) "_law_in" ["_law_spot_so", "_law_cut_so"] (sp_law_in K) := by
  refine df_pure A sc_law_in (fun _ => rfl) (by decide) (fun _ _ _ _ _ _ us hl => match us, hl with | [_, _], _ => rfl) fun f cdv A outer s H E C a hr ha => ⟨t_law_in K, ps_law_in g hr, fun D σ q hh => ?_⟩
  obtain ⟨sp, cu⟩ := a
  have ha : cutOk cu = true := ha
  unfold t_law_in
  apply p_forN (B := ⟨K, none, C, H⟩) (x0 := ()) cu eCond (fun u _ => u) (fun i _ => (cu.take i).any (keepsM sp) = false) (fun _ => [.dat (eSpot sp), .dat (eCut cu), .emp, .emp, .emp]) (fun _ => []) hh Up.tt (ew_seq (ed_var rfl) (.inr rfl)) rfl rfl rfl rfl
  case turn =>
    intro i x _ T' m N σ' H' v hx inv up h1 next
    have hm : x ∈ cu := List.mem_of_getElem? hx
    refine eg_name (vs := [2]) (by decide) _ _ _ _ _ _ up h1 _ fun σ2 _ h2 => ?_
    apply p_if (b := keepsM sp x) h2 up
    case h =>
      have hc := cutOk_cond ha hm
      have e1 : EvD ⟨K, none, C, H⟩ 0 (tLc (iSeq K (tVar 2)) (gTup K 2 (gCons (gName 3) (gCons (gName 4) gNil))) (tTest (tOp rNe (tOp (rIn K false) (tVar 3) (tVar 0)) (tVar 4))) (tVar 3) [3, 4]) [.dat (eSpot sp), .dat (eCut cu), .dat (eCond x), .emp, .emp] (.dat (.list (((x.filter fun p => !(sp.contains p.1 == p.2)).map Prod.fst).map .str))) :=
        ed_fin (ed_lc (B := ⟨K, none, C, H⟩) x ePair (fun p => [.dat (eSpot sp), .dat (eCut cu), .dat (eCond x), .dat (.str p.1), .dat (.bool p.2)]) (fun p => !(sp.contains p.1 == p.2)) (fun p => .str p.1) (ew_seq (ed_var rfl) (.inr rfl))
          (fun p _ => eg_tup (egs_cons eg_name (egs_cons eg_name egs_nil))) (fun p _ => et_fin (et_test (ed_op (ed_op (ed_var rfl) (ed_var rfl) os_inS) (ed_var rfl) os_neB)) rfl rfl) (fun p _ _ => ed_var rfl) (condOk_len hc)) rfl (by rw [List.map_map]; rfl)
      refine et_fin (et_test (ed_op e1 ed_nil (os_eq (shaped_strs fun y hy => ?_) rfl))) rfl ?_
      · obtain ⟨p, hp, e⟩ := List.mem_map.mp hy
        rw [← e]
        exact condOk_str hc p (List.mem_filter.mp hp).1
      · rw [eqv_nil, List.map_map]
        exact filter_empty
    case hc => rfl
    case k1 =>
      intro hb H2 h3
      have e : isInM sp cu = true := by
        unfold isInM
        rw [List.any_map]
        exact List.any_eq_true.mpr ⟨x, hm, hb⟩
      apply p_ret (s := .dat (.bool true)) h3 up ed_bl rfl
      intro v H' h4
      refine q v (.bool true) H' _ _ _ _ σ2 ?_ h4
      show PyData.bool true = .bool (isInM sp cu)
      rw [e]
    case k2 =>
      intro hb H2 h3
      refine next _ _ ?_ (h3.less rfl fun i s e => ?_)
      · show (cu.take (i + 1)).any (keepsM sp) = false
        rw [List.take_add_one, List.any_append, inv, hx]
        show (keepsM sp x || false) = false
        rw [hb]
        rfl
      · match i with
        | 0 | 1 => exact .inr e
        | 2 | 3 | 4 => exact .inl (Option.some.inj e).symm
        | i + 5 => exact .inr e
  case done =>
    intro σ' H' inv h1
    rw [List.take_length] at inv
    have e : isInM sp cu = false := by
      unfold isInM
      rw [List.any_map]
      exact inv
    apply p_ret (s := .dat (.bool false)) h1 Up.tt ed_bl rfl
    intro v H' h4
    refine q v (.bool false) H' _ _ _ _ σ' ?_ h4
    show PyData.bool false = .bool (isInM sp cu)
    rw [e]
/-! ### _law_wholes -/
abbrev sp_law_wholes (K : PySem.W.Frag) : Sp := spP K (fun a : PyData × List Deed => [a.1]) (fun a => (a.1 = eBook a.2 ∨ a.1 = .list (a.2.map eDeed)) ∧ a.2.length ≤ 1000) (fun a d => d = .list ((wholesM a.2).map eNat))
theorem wholes_idx {h : List Deed} (i : Nat) : (((h.zipIdx i).filter fun x => decide (x.1.kind = ("whole" : Str))).map fun x => PyData.int (x.2 : Int)) = (wholesFrom i h).map eNat := by
  induction h generalizing i with
  | nil => rfl
  | cons d h ih =>
    rw [List.zipIdx_cons]
    unfold wholesFrom
    by_cases c : d.kind = "whole"
    · rw [List.filter_cons_of_pos (by simpa using c), if_pos c, List.map_cons, List.map_cons, ih]
      rfl
    · rw [List.filter_cons_of_neg (by simpa using c), if_neg c, ih]
theorem df_law_wholes (A : At K mg "_law_wholes" 40) (g : G0 K mg) : Df P w K mg base CX0 (k + 1) "_law_wholes" ["_law_deeds_so"] (sp_law_wholes K) := by
  refine df_pure A sc_law_wholes (fun _ => rfl) (by decide) (fun _ _ _ _ _ _ us hl => match us, hl with | [_], _ => rfl) fun f cdv A outer s H E C a hr ha => ⟨t_law_wholes K, ps_law_wholes g hr, fun D σ q hh => ?_⟩
  obtain ⟨d, h⟩ := a
  obtain ⟨ha, hl⟩ := ha
  have hs : SeqD d (h.map eDeed) := by
    rcases ha with e | e
    · exact .inr e
    · exact .inl e
  unfold t_law_wholes
  apply p_ret (B := ⟨K, none, C, H⟩) (s := .dat (.list ((wholesM h).map eNat))) hh Up.tt
  case h =>
    refine ed_fin (ed_lc (B := ⟨K, none, C, H⟩) h.zipIdx (fun x => .tuple [.int (x.2 : Int), eDeed x.1]) (fun x => [.dat d, .dat (.int (x.2 : Int)), .dat (eDeed x.1)]) (fun x => decide (x.1.kind = ("whole" : Str))) (fun x => .int (x.2 : Int))
      (by rw [← enumD_map]; exact ew_enum (ed_var rfl) hs) (fun x _ => eg_tup (egs_cons eg_name (egs_cons eg_name egs_nil))) (fun x hx => et_fin (et_test (ed_op (ed_op (ed_var rfl) ed_int (os_ix0 (.inr rfl))) ed_str os_eqS)) rfl rfl) (fun x _ _ => ed_var rfl) (by rw [List.length_zipIdx]; exact hl)) rfl ?_
    rw [wholes_idx]
  case hc => rfl
  case k => exact fun v H' h => q v _ H' _ _ _ _ σ rfl h
/-! ### _law_lists -/
mutual
def listD : PyData → PyData
  | .list l => .list (listDs l)
  | .tuple l => .list (listDs l)
  | d => d
def listDs : List PyData → List PyData
  | [] => []
  | d :: l => listD d :: listDs l
end
theorem listDs_map : ∀ l, listDs l = l.map listD
  | [] => rfl
  | d :: l => by unfold listDs; rw [listDs_map l, List.map_cons]
abbrev sp_law_lists (K : PySem.W.Frag) (n : Nat) : Sp := spP K (fun d : PyData => [d]) (fun d => okD n d = true) (fun d r => r = listD d)
theorem df_law_lists (A : At K mg "_law_lists" 28) (g : G0 K mg) : ∀ n, Df P w K mg base CX0 (k + n) "_law_lists" ["_law_matter_so"] (sp_law_lists K n)
  | 0 => (df_never A (fun _ _ _ _ _ _ us hl => match us, hl with | [_], _ => rfl)).imp fun vs H Q E ⟨C, a, _, _, z, _⟩ => by cases z
  | n + 1 => by
    have D1 := df_law_lists A g n
    refine df_pure A sc_law_lists (fun _ => rfl) (by decide) (fun _ _ _ _ _ _ us hl => match us, hl with | [_], _ => rfl) fun f cdv A outer s H E C d hr ha => ⟨t_law_lists K (sp_law_lists K n), ps_law_lists g D1 hr, fun D σ q hh => ?_⟩
    unfold t_law_lists
    apply p_ret (B := ⟨K, none, C, H⟩) (s := .dat (listD d)) hh Up.tt
    case h =>
      have test : EvT ⟨K, none, C, H⟩ 0 (tB (tCB (rIsiT K) (tCons (tVar 0) (tCons (tTup (tCons (tC (.ty "list")) (tCons (tC (.ty "tuple")) tNil))) tNil)))) [.dat d, .emp] (isB (tyD d) "list" || isB (tyD d) "tuple") :=
        et_val (er_fin (ed_cb (B := ⟨K, none, C, H⟩) (ea_cons (ed_var rfl) (ea_one ed_tys)) (cl_isiT rfl rfl)) rfl fun _ e => e)
      have flat : (isB (tyD d) "list" || isB (tyD d) "tuple") = false → listD d = d := by cases d <;> intro z <;> first | rfl | cases z
      have seq : (isB (tyD d) "list" || isB (tyD d) "tuple") = true → ∃ ds, SeqD d ds ∧ listD d = .list (ds.map listD) := by
        intro z
        cases d with
        | list ds => exact ⟨ds, .inl rfl, by show PyData.list (listDs ds) = _; rw [listDs_map]⟩
        | tuple ds => exact ⟨ds, .inr rfl, by show PyData.list (listDs ds) = _; rw [listDs_map]⟩
        | _ => cases z
      refine er_fin (er_if (c2 := 0) (S := fun z => z = .dat (listD d)) test (fun z => ?_) (fun z => (ed_var rfl).to (by rw [flat z]))) rfl fun _ e => e
      obtain ⟨ds, h1, h2⟩ := seq z
      rw [h2]
      exact ed_lc1 (B := ⟨K, none, C, H⟩) ds id (fun x => [.dat d, .dat x]) listD (ew_seq (ed_var rfl) (by rw [List.map_id]; exact h1)) (fun x _ => eg_name) (fun x _ => et_yes)
        (fun x hx => ed_fin (ed_call (B := ⟨K, none, C, H⟩) x (ea_one (ed_var rfl)) (okD_mem ha h1 hx)) rfl rfl) (okD_len ha h1)
    case hc => rfl
    case k => exact fun v H' h => q v _ H' _ _ _ _ σ rfl h
end
end K30
set_option Elab.async false
set_option linter.all false
set_option maxRecDepth 100000
set_option maxHeartbeats 1000000
namespace K30
open PySem PySem.Spec PyProof.Rows L2
theorem inD_nat (x : Nat) (s : List Nat) : inD (eNat x) (s.map eNat) = s.contains x := by
  unfold inD inV
  rw [List.map_map]
  induction s with
  | nil => rfl
  | cons y s ih =>
    rw [List.map_cons, List.any_cons, ih, List.contains_cons]
    refine congrArg (· || s.contains x) ?_
    show ((y : Int) == (x : Int)) = (x == y)
    by_cases h : x = y
    · subst h
      rw [beq_self_eq_true, beq_self_eq_true]
    · rw [beq_eq_false_iff_ne.mpr h]
      exact beq_eq_false_iff_ne.mpr fun z => h (Int.ofNat.inj z).symm
theorem nat_flat {ss : List Nat} : ∀ y ∈ ss.map eNat, flatD y = true := fun y hy => by
  obtain ⟨z, _, e⟩ := List.mem_map.mp hy
  rw [← e]
  rfl
theorem os_inN {B : Bx} {x : Nat} {ss : List Nat} {d : PyData} (h : SeqD d (ss.map eNat)) : OpS B (rIn B.K false) (.dat (.int (x : Int))) (.dat d) (fun z => z = .dat (.bool (ss.contains x))) := by
  have h := os_in (B := B) (neg := false) (x := eNat x) (ds := ss.map eNat) rfl nat_flat h
  rw [inD_nat] at h
  exact h
/-- what is left of a book when the lot is let in -/
def leftFrom (g : List Nat) (i : Nat) : List Deed → List Deed
  | [] => []
  | d :: h => if d.kind = "whole" then (if g.contains i = true then d.gift :: leftFrom g (i + 1) h else leftFrom g (i + 1) h) else d :: leftFrom g (i + 1) h
abbrev leftM (h : List Deed) (g : List Nat) : List Deed := leftFrom g 0 h
def leftStep (g : List Nat) (acc : List Deed) (x : Deed × Nat) : List Deed := if x.1.kind = "whole" then (if g.contains x.2 = true then acc ++ [x.1.gift] else acc) else acc ++ [x.1]
theorem left_fold (g : List Nat) : ∀ (h : List Deed) (i : Nat) (acc : List Deed), (h.zipIdx i).foldl (leftStep g) acc = acc ++ leftFrom g i h
  | [], i, acc => by rw [List.zipIdx_nil]; exact (List.append_nil _).symm
  | d :: h, i, acc => by
    rw [List.zipIdx_cons, List.foldl_cons, left_fold g h (i + 1)]
    have e : leftFrom g i (d :: h) = if d.kind = "whole" then (if g.contains i = true then d.gift :: leftFrom g (i + 1) h else leftFrom g (i + 1) h) else d :: leftFrom g (i + 1) h := rfl
    rw [e]
    unfold leftStep
    dsimp only
    split
    · split
      · rw [List.append_assoc, List.singleton_append]
      · rfl
    · rw [List.append_assoc, List.singleton_append]
theorem left_len {g : List Nat} {acc : List Deed} {x : Deed × Nat} {n : Nat} (h : acc.length ≤ n) : (leftStep g acc x).length ≤ n + 1 := by
  unfold leftStep
  split
  · split
    · rw [List.length_append]; exact Nat.succ_le_succ h
    · exact Nat.le_succ_of_le h
  · rw [List.length_append]; exact Nat.succ_le_succ h
theorem gift_four {a b : Str} {c : Cut} {k : Str} : Deed.gift (.four k a b c) = .four "give" a b c := rfl
theorem done_whole {s : Spot} {o : Str} {d : Deed} (h : d.kind = "whole") : d.done s o = d.gift.turn s o := by
  unfold Deed.done
  rw [if_pos h]
theorem done_else {s : Spot} {o : Str} {d : Deed} (h : d.kind ≠ "whole") : d.done s o = d.turn s o := by
  unfold Deed.done
  rw [if_neg h]
theorem done_four {s : Spot} {o k a b : Str} {c : Cut} : Deed.done s o (.four k a b c) = if (k == "give" || k == "swap" || k == "whole") && isInM s c then (if o = a then b else if k = "swap" ∧ o = b then a else o) else o := by
  by_cases h : k = "whole"
  · subst h
    rw [done_whole rfl]
    show (if (("give" : Str) == "give" || ("give" : Str) == "swap") && isInM s c then (if o = a then b else if ("give" : Str) = "swap" ∧ o = b then a else o) else o) = _
    rw [if_neg (show ¬ (("give" : Str) = "swap" ∧ o = b) from fun z => absurd z.1 (by decide)), if_neg (show ¬ (("whole" : Str) = "swap" ∧ o = b) from fun z => absurd z.1 (by decide))]
    rfl
  · rw [done_else (show Deed.kind (.four k a b c) ≠ "whole" from h)]
    show (if (k == "give" || k == "swap") && isInM s c then _ else o) = _
    rw [show (k == "whole") = false from beq_eq_false_iff_ne.mpr h, Bool.or_false]
theorem done_one {s : Spot} {o k a : Str} {c : Cut} (h : k ≠ "whole") : Deed.done s o (.one k a c) = if k == "vest" && isInM s c then a else o := by
  rw [done_else (show Deed.kind (.one k a c) ≠ "whole" from h)]
  rfl
section
variable {P : Program} {w : World} {K : PySem.W.Frag} {mg : Str → Option Value} {base : Heap} {k : Nat}
/-! ### _law_turned -/
abbrev sp_law_turned (K : PySem.W.Frag) : Sp := spP K (fun a : Deed × Spot × Str => [eDeed a.1, eSpot a.2.1, .str a.2.2]) (fun a => a.1.ok = true) (fun a d => d = .str (a.1.done a.2.1 a.2.2))
theorem df_law_turned (A : At K mg "_law_turned" 39) (g : G0 K mg) (D1 : Df P w K mg base CX0 k "_law_in" ["_law_spot_so", "_law_cut_so"] (sp_law_in K)) : Df P w K mg base CX0 (k + 1) "_law_turned" ["_law_deed_so", "_law_spot_so", "_law_owner_so"] (sp_law_turned K) := by
  refine df_pure A sc_law_turned (fun _ => rfl) (by decide) (fun _ _ _ _ _ _ us hl => match us, hl with | [_, _, _], _ => rfl) fun f cdv A outer st H E C a hr ha => ⟨t_law_turned K (sp_law_in K), ps_law_turned g D1 hr, fun D σ q hh => ?_⟩
  obtain ⟨d, s, o⟩ := a
  have hd : d.ok = true := ha
  obtain ⟨B, hB⟩ : ∃ B : Bx, B = ⟨K, none, C, H⟩ := ⟨_, rfl⟩
  have eK : K = B.K := by rw [hB]
  have q2 : ∀ v H', Holds B [.dat (eDeed d), .dat (eSpot s), .dat (.str o)] [] (AndV B.K (fun _ => True) v (.dat (.str (d.done s o)))) 0 σ H' → D.rt v H' := fun v H' h => by
    rw [hB] at h
    exact q v _ H' _ _ _ _ σ rfl h
  clear q
  rw [← hB] at hh
  clear hB
  subst eK
  have hh : Holds B [.dat (eDeed d), .dat (eSpot s), .dat (.str o)] [] (fun _ => True) 0 σ H := hh
  have u : Up fun _ => True := Up.tt
  unfold t_law_turned
  have hTW : EvD B 0 (tTup (tCons (tC (.str "give")) (tCons (tC (.str "vest")) (tCons (tC (.str "swap")) (tCons (tC (.str "whole")) tNil))))) [.dat (eDeed d), .dat (eSpot s), .dat (.str o)] (.dat (.tuple ((["give", "vest", "swap", "whole"] : List Str).map .str))) :=
    ed_fin (ed_tup (ds := (["give", "vest", "swap", "whole"] : List Str).map .str) (ea_cons ed_str (ea_cons ed_str (ea_cons ed_str (ea_one ed_str))))) rfl rfl
  have e0 : EvD B (0 + 0) (tOp (rIx B.K) (tVar 0) (tC (.int 0))) [.dat (eDeed d), .dat (eSpot s), .dat (.str o)] (.dat (.str d.kind)) := ed_op (ed_var rfl) ed_int (os_ix0 (.inr rfl))
  apply p_ifN (b := !(["give", "vest", "swap", "whole"] : List Str).contains d.kind || !isInM s d.last) hh u
  case h =>
    refine et_or (et_test (ed_op e0 hTW os_ninS)) fun _ => et_not (et_val (ed_call (s, d.last) (ea_cons (ed_var rfl) (ea_one (ed_op (ed_var rfl) (ed_neg ed_int) (os_ix (.inr rfl) (last_at d))))) (Deed.okCut hd)))
  case hc => rfl
  case k1 =>
    intro hb H' h1
    have e : d.done s o = o := by
      have hb : ¬ ((["give", "vest", "swap", "whole"] : List Str).contains d.kind = true ∧ isInM s d.last = true) := by
        intro z
        rw [z.1, z.2] at hb
        cases hb
      cases d with
      | four k a b c =>
        have hb : ¬ ((["give", "vest", "swap", "whole"] : List Str).contains k = true ∧ isInM s c = true) := hb
        rw [done_four, if_neg]
        intro z
        simp only [Bool.and_eq_true, Bool.or_eq_true, beq_iff_eq] at z
        refine hb ⟨?_, z.2⟩
        rcases z.1 with (e | e) | e <;> rw [e] <;> rfl
      | one k a c =>
        have hb : ¬ ((["give", "vest", "swap", "whole"] : List Str).contains k = true ∧ isInM s c = true) := hb
        have hk : k ≠ "whole" := by
          intro e
          have hd : (k != "give" && k != "swap" && k != "whole" && cutOk c) = true := hd
          rw [e] at hd
          exact absurd hd (by simp)
        rw [done_one hk, if_neg]
        intro z
        simp only [Bool.and_eq_true, beq_iff_eq] at z
        refine hb ⟨?_, z.2⟩
        rw [z.1]
        rfl
      | two k c e =>
        unfold Deed.done
        split <;> rfl
    rw [e] at q2
    apply p_ret (s := .dat (.str o)) h1 u
    case h => exact ed_var rfl
    case hc => rfl
    case k => exact q2
  case k2 =>
    intro hb H' h1
    have hb : (["give", "vest", "swap", "whole"] : List Str).contains d.kind = true ∧ isInM s d.last = true := by
      cases z1 : (["give", "vest", "swap", "whole"] : List Str).contains d.kind <;> cases z2 : isInM s d.last <;> rw [z1, z2] at hb <;> first | exact ⟨rfl, rfl⟩ | cases hb
    have hkind : d.kind = "give" ∨ d.kind = "vest" ∨ d.kind = "swap" ∨ d.kind = "whole" := by
      have z := List.mem_of_elem_eq_true hb.1
      simpa using z
    cases d with
    | two k c e =>
      exfalso
      have hd : (k != "give" && k != "swap" && k != "whole" && k != "vest" && (cutOk c && cutOk e)) = true := hd
      rcases hkind with z | z | z | z <;> rw [show k = _ from z] at hd <;> exact absurd hd (by simp)
    | one k a c =>
      have hd : (k != "give" && k != "swap" && k != "whole" && cutOk c) = true := hd
      have e : k = "vest" := by
        rcases hkind with z | z | z | z
        · rw [show k = _ from z] at hd; exact absurd hd (by simp)
        · exact z
        · rw [show k = _ from z] at hd; exact absurd hd (by simp)
        · rw [show k = _ from z] at hd; exact absurd hd (by simp)
      subst e
      apply p_ifN (b := true) h1 u
      case h => exact et_fin (et_test (ed_op e0 ed_str os_eqS)) rfl rfl
      case hc => rfl
      case k2 => intro z; cases z
      case k1 =>
        intro _ H2 h2
        rw [done_one (by decide), show isInM s c = true from hb.2] at q2
        apply p_ret (s := .dat (.str a)) h2 u
        case h => exact ed_op (ed_var rfl) ed_int (os_ix (.inr rfl) rfl)
        case hc => rfl
        case k => exact q2
    | four k a b c =>
      have hv : k ≠ "vest" := by
        intro z
        have hd : (k != "vest" && cutOk c) = true := hd
        rw [z] at hd
        exact absurd hd (by simp)
      have hkind : k = "give" ∨ k = "swap" ∨ k = "whole" := by
        rcases hkind with z | z | z | z
        · exact .inl z
        · exact absurd z hv
        · exact .inr (.inl z)
        · exact .inr (.inr z)
      have e : Deed.done s o (.four k a b c) = if o = a then b else if k = "swap" ∧ o = b then a else o := by
        rw [done_four, show isInM s c = true from hb.2, if_pos]
        rcases hkind with z | z | z <;> rw [z] <;> rfl
      rw [e] at q2
      apply p_ifN (b := false) h1 u
      case h => exact et_fin (et_test (ed_op e0 ed_str os_eqS)) rfl (decide_eq_false hv)
      case hc => rfl
      case k1 => intro z; cases z
      case k2 =>
        intro _ H2 h2
        apply p_ifN (b := decide (o = a)) h2 u
        case h => exact et_test (ed_op (ed_var rfl) (ed_op (ed_var rfl) ed_int (os_ix (.inr rfl) rfl)) os_eqS)
        case hc => rfl
        case k1 =>
          intro z H3 h3
          rw [if_pos (of_decide_eq_true z)] at q2
          apply p_ret (s := .dat (.str b)) h3 u
          case h => exact ed_op (ed_var rfl) ed_int (os_ix (.inr rfl) rfl)
          case hc => rfl
          case k => exact q2
        case k2 =>
          intro z H3 h3
          rw [if_neg (of_decide_eq_false z)] at q2
          apply p_ret (s := .dat (.str (if k = "swap" ∧ o = b then a else o))) h3 u
          case h =>
            refine er_fin (er_if (S := fun z => z = .dat (.str (if k = "swap" ∧ o = b then a else o))) (b := decide (k = "swap") && decide (o = b)) (c2 := 0) (et_and (et_test (ed_op e0 ed_str os_eqS)) fun _ => et_test (ed_op (ed_var rfl) (ed_op (ed_var rfl) ed_int (os_ix (.inr rfl) rfl)) os_eqS))
              (fun y => (ed_op (ed_var rfl) ed_int (os_ix (.inr rfl) rfl)).to ?_) (fun y => (ed_var rfl).to ?_)) rfl fun _ e => e
            · rw [if_pos (by simpa using y)]
            · rw [if_neg (by simpa using y)]
          case hc => rfl
          case k => exact q2
/-! ### _law_left -/
abbrev sp_law_left (K : PySem.W.Frag) : Sp := spP K (fun a : List Deed × List Nat => [eBook a.1, eNats a.2]) (fun a => a.1.length ≤ 999 ∧ ∀ d ∈ a.1, d.ok = true) (fun a d => d = eBook (leftM a.1 a.2))
theorem df_law_left (A : At K mg "_law_left" 45) (g : G0 K mg) : Df P w K mg base CX0 (k + 1) "_law_left" ["_law_deeds_so", "_law_lot_so"] (sp_law_left K) := by
  refine df_pure A sc_law_left (fun _ => rfl) (by decide) (fun _ _ _ _ _ _ us hl => match us, hl with | [_, _], _ => rfl) fun f cdv A outer st H E C a hr ha => ⟨t_law_left K, ps_law_left g hr, fun D σ q hh => ?_⟩
  obtain ⟨h, l⟩ := a
  obtain ⟨hl, hok⟩ := ha
  have hl : h.length ≤ 999 := hl
  obtain ⟨B, hB⟩ : ∃ B : Bx, B = ⟨K, none, C, H⟩ := ⟨_, rfl⟩
  have eK : K = B.K := by rw [hB]
  rw [← hB] at hh q
  clear hB
  subst eK
  unfold t_law_left
  apply p_newHotN hh
  intro p σ1 H1 h1
  apply p_forN (x0 := ([] : List Deed)) h.zipIdx (fun x => .tuple [.int (x.2 : Int), eDeed x.1]) (leftStep l) (fun i x => x.length ≤ i) (fun x => [.dat (eBook h), .dat (eNats l), .adr p, .emp, .emp]) (fun x => [(p, x.map eDeed)]) h1 Up.tt
    (by rw [← enumD_map]; exact ew_enum (ed_var rfl) (.inr rfl)) rfl rfl rfl (Nat.le_refl _)
  case turn =>
    intro i x acc T' m N σ' H' v hx inv up h2 next
    obtain ⟨d, j⟩ := x
    have hi : i < h.length := by
      have z := (List.getElem?_eq_some_iff.mp hx).1
      rw [List.length_zipIdx] at z
      exact z
    have hd : d ∈ h := by
      have z := List.mem_of_getElem? hx
      exact (List.mem_zipIdx z).2.2 ▸ List.getElem_mem _
    have hdk := hok d hd
    refine (eg_tup (vs := [3, 4]) (ds := [.int (j : Int), eDeed d]) (egs_cons eg_name (egs_cons eg_name egs_nil))) _ _ _ _ _ _ up h2 _ fun σ2 _ h3 => ?_
    have e0 : EvD B (0 + 0) (tOp (rIx B.K) (tVar 4) (tC (.int 0))) [.dat (eBook h), .dat (eNats l), .adr p, .dat (.int (j : Int)), .dat (eDeed d)] (.dat (.str d.kind)) := ed_op (ed_var rfl) ed_int (os_ix0 (.inr rfl))
    have app : ∀ (d' : Deed) H3, Holds B [.dat (eBook h), .dat (eNats l), .adr p, .dat (.int (j : Int)), .dat (eDeed d)] [(p, acc.map eDeed)] T' m σ2 H3 → leftStep l acc (d, j) = acc ++ [d'] →
        EvD B 0 (tIf (tTest (tOp rEq (tOp (rIx B.K) (tVar 4) (tC (.int 0))) (tC (.str "whole")))) (tOp (rCatA B.K) (tTup (tCons (tC (.str "give")) tNil)) (tSl (rSlA B.K) (tVar 4) (tPart (tC (.int 1))) tNoPart)) (tVar 4)) [.dat (eBook h), .dat (eNats l), .adr p, .dat (.int (j : Int)), .dat (eDeed d)] (.dat (eDeed d')) →
        ∀ D' : Ends, D'.nx = N → tDrop (tBM B.K "list" rAppend (tVar 2) (tCons (tIf (tTest (tOp rEq (tOp (rIx B.K) (tVar 4) (tC (.int 0))) (tC (.str "whole")))) (tOp (rCatA B.K) (tTup (tCons (tC (.str "give")) tNil)) (tSl (rSlA B.K) (tVar 4) (tPart (tC (.int 1))) tNoPart)) (tVar 4)) tNil)) D' σ2 H3 := by
      intro d' H3 h4 hs ev D' hN
      refine s_app (c := 0) (S := fun z => z = .dat (eDeed d')) h4 up rfl (ev.imp fun s e => ⟨_, e, e⟩) (by rw [List.length_map]; omega) fun dd σ5 H7 e h8 => ?_
      have e := Sl.dat.inj e
      subst e
      rw [hN]
      refine next _ _ (left_len inv) ?_
      rw [hs, List.map_append]
      exact h8.less rfl fun i s e => by
        match i with
        | 0 | 1 | 2 => exact .inr e
        | 3 | 4 => exact .inl (Option.some.inj e).symm
        | i + 5 => exact .inr e
    apply p_if (b := !decide (d.kind = "whole") || l.contains j) h3 up
    case h => exact et_or (et_test (ed_op e0 ed_str os_neS)) fun _ => et_test (ed_op (ed_var rfl) (ed_var rfl) (os_inN (.inr rfl)))
    case hc => rfl
    case k1 =>
      intro hb H3 h4
      by_cases hk : d.kind = "whole"
      · obtain ⟨a, b, c, e, hc⟩ := whole_four hdk hk
        have hj : l.contains j = true := by
          rw [decide_eq_true hk] at hb
          exact hb
        subst e
        refine app (.four "give" a b c) H3 h4 ((if_pos rfl).trans ((if_pos hj).trans rfl)) ?_ _ rfl
        refine er_fin (er_if (c2 := 0) (b := true) (et_fin (et_test (ed_op e0 ed_str os_eqS)) rfl rfl) (fun _ => ?_) (fun z => by cases z)) rfl fun _ e => e
        have hs : EvD B 0 (tSl (rSlA B.K) (tVar 4) (tPart (tC (.int 1))) tNoPart) [.dat (eBook h), .dat (eNats l), .adr p, .dat (.int (j : Int)), .dat (eDeed (.four "whole" a b c))] (.dat (.tuple [.str a, .str b, eCut c])) := (ed_slT (ds := [.str "whole", .str a, .str b, eCut c]) (ed_var rfl) (eo_some ed_int) eo_none).to rfl
        exact ed_fin (ed_op (ed_tup (ds := [.str "give"]) (ea_one ed_str)) hs (os_catT (Nat.le_of_ble_eq_true rfl))) rfl rfl
      · refine app d H3 h4 (if_neg hk) ?_ _ rfl
        exact er_fin (er_if (c2 := 0) (b := false) (et_fin (et_test (ed_op e0 ed_str os_eqS)) rfl (decide_eq_false hk)) (fun z => by cases z) (fun _ => ed_var rfl)) rfl fun _ e => e
    case k2 =>
      intro hb H3 h4
      have hk : d.kind = "whole" := by
        by_cases hk : d.kind = "whole"
        · exact hk
        · rw [decide_eq_false hk] at hb
          cases hb
      have hj : l.contains j = false := by
        rw [decide_eq_true hk] at hb
        exact hb
      refine next _ _ (left_len inv) ?_
      rw [show leftStep l acc (d, j) = acc by unfold leftStep; rw [if_pos hk, if_neg (by rw [hj]; decide)]]
      exact h4.less rfl fun i s e => by
        match i with
        | 0 | 1 | 2 => exact .inr e
        | 3 | 4 => exact .inl (Option.some.inj e).symm
        | i + 5 => exact .inr e
  case done =>
    intro σ3 H3 _ h3
    have h4 := (h3.freeze Up.tt).reslot (i := 2) rfl
    rw [left_fold, List.nil_append] at h4
    apply p_ret (s := .dat (eBook (leftM h l))) h4 Up.tt
    case h => exact er_fin (c1 := 0) (ed_cb (ea_one (ed_var rfl)) (cl_tuple (.inl rfl))) rfl fun _ e => e
    case hc => rfl
    case k => exact fun v H' h => q v _ H' _ _ _ _ σ3 rfl h
end
end K30
set_option Elab.async false
set_option linter.all false
set_option maxRecDepth 100000
set_option maxHeartbeats 1000000
namespace K30
open PySem PySem.Spec PyProof.Rows L2
theorem zip_diag {α : Type} : ∀ (l : List α) (x : α × α), x ∈ l.zip l → x.2 = x.1 ∧ x.1 ∈ l
  | [], x, h => by cases h
  | a :: l, x, h => by
    rw [List.zip_cons_cons] at h
    rcases List.mem_cons.mp h with e | h
    · rw [e]
      exact ⟨rfl, List.mem_cons_self⟩
    · exact ⟨(zip_diag l x h).1, List.mem_cons_of_mem _ (zip_diag l x h).2⟩
def noneD : PyData → Bool
  | .none => true
  | _ => false
section
variable {B : Bx} {rho : List Sl} {c c1 c2 : Nat}
theorem os_isN {d : PyData} : OpS B (fun x y H Q => y = .non ∧ Q (.bl (decide (x = .non))) H) (.dat d) (.dat .none) (fun z => z = .dat (.bool (noneD d))) := fun rho mu T n σ H v w u hh Q q => by
  obtain ⟨C, a, ⟨b, h1⟩, h2⟩ := hh
  cases h2
  refine ⟨rfl, q _ H _ rfl ⟨C, a, b, ?_⟩⟩
  cases h1 <;> exact .bl _
theorem os_eqN : OpS B rEq (.dat .none) (.dat .none) (fun z => z = .dat (.bool true)) := os_eqF rfl rfl rfl
end
section
variable {P : Program} {w : World} {K : PySem.W.Frag} {mg : Str → Option Value} {base : Heap} {k : Nat}
/-! ### _law_same -/
abbrev sp_law_same (K : PySem.W.Frag) (n : Nat) : Sp := spP K (fun d : PyData => [d, d]) (fun d => okD n d = true) (fun d r => r = .bool true)
theorem df_law_same (A : At K mg "_law_same" 27) (g : G0 K mg) : ∀ n, Df P w K mg base CX0 (k + n) "_law_same" ["_law_got", "_law_due"] (sp_law_same K n)
  | 0 => (df_never A (fun _ _ _ _ _ _ us hl => match us, hl with | [_, _], _ => rfl)).imp fun vs H Q E ⟨C, a, _, _, z, _⟩ => by cases z
  | n + 1 => by
    have D1 := df_law_same A g n
    refine df_pure A sc_law_same (fun _ => rfl) (by decide) (fun _ _ _ _ _ _ us hl => match us, hl with | [_, _], _ => rfl) fun f cdv A outer s H E C d hr ha => ⟨t_law_same K (sp_law_same K n), ps_law_same g D1 hr, fun D σ q hh => ?_⟩
    have u : Up fun _ => True := Up.tt
    obtain ⟨B, hB⟩ : ∃ B : Bx, B = ⟨K, none, C, H⟩ := ⟨_, rfl⟩
    have eK : K = B.K := by rw [hB]
    rw [← hB] at hh q
    clear hB
    subst eK
    have hh : Holds B [.dat d, .dat d, .emp, .emp] [] (fun _ => True) 0 σ H := hh
    have i0 : ∀ b, tyOk b = true → EvD B 0 (tCB (rIsi B.K) (tCons (tVar 0) (tCons (tC (.ty b)) tNil))) [.dat d, .dat d, .emp, .emp] (.dat (.bool (isB (tyD d) b))) := fun b hb => er_fin (ed_cb (ea_cons (ed_var rfl) (ea_one ed_ty)) (cl_isi hb)) rfl fun _ e => e
    have i1 : ∀ b, tyOk b = true → EvD B 0 (tCB (rIsi B.K) (tCons (tVar 1) (tCons (tC (.ty b)) tNil))) [.dat d, .dat d, .emp, .emp] (.dat (.bool (isB (tyD d) b))) := fun b hb => er_fin (ed_cb (ea_cons (ed_var rfl) (ea_one ed_ty)) (cl_isi hb)) rfl fun _ e => e
    have iT : ∀ b1 b2, tyOk b1 = true → tyOk b2 = true → EvD B 0 (tCB (rIsiT B.K) (tCons (tVar 1) (tCons (tTup (tCons (tC (.ty b1)) (tCons (tC (.ty b2)) tNil))) tNil))) [.dat d, .dat d, .emp, .emp] (.dat (.bool (isB (tyD d) b1 || isB (tyD d) b2))) := fun b1 b2 h1 h2 => er_fin (ed_cb (ea_cons (ed_var rfl) (ea_one ed_tys)) (cl_isiT h1 h2)) rfl fun _ e => e
    have seq : ∀ ds, SeqD d ds → (isB (tyD d) "list" || isB (tyD d) "tuple") = true → t_law_same B.K (sp_law_same B.K n) D σ H := by
      intro ds hs ht
      unfold t_law_same
      apply p_ifN (b := true) hh u
      case h => rw [← ht]; exact et_val (iT _ _ rfl rfl)
      case hc => rfl
      case k2 => intro z; cases z
      case k1 =>
        intro _ H2 h2
        apply p_ifN (b := false) h2 u
        case h =>
          refine et_fin (et_or (c2 := 0) (et_test (ed_op (i0 _ rfl) (i1 _ rfl) os_neB)) fun _ => et_fin (et_test (ed_op (i0 _ rfl) (i1 _ rfl) os_neB)) rfl rfl) rfl ?_
          rw [beq_self_eq_true, beq_self_eq_true]
          rfl
        case hc => rfl
        case k1 => intro z; cases z
        case k2 =>
          intro _ H3 h3
          apply p_ret (s := .dat (.bool true)) h3 u
          case h =>
            refine ed_fin (ed_andV (c2 := 0) (a := true) (b := true) (ed_fin (c1 := 0) (ed_op (er_fin (c1 := 0) (ed_cb (ea_one (ed_var rfl)) (cl_len hs)) rfl fun _ e => e) (er_fin (c1 := 0) (ed_cb (ea_one (ed_var rfl)) (cl_len hs)) rfl fun _ e => e) os_eqI) rfl (by rw [decide_eq_true rfl])) fun _ => ?_) rfl rfl
            refine er_fin (ed_cb (ea_one (ed_lc1 (ds.zip ds) (fun x => .tuple [x.1, x.2]) (fun x => [.dat d, .dat d, .dat x.1, .dat x.2]) (fun x => .bool true) (ew_zip (ed_var rfl) hs (ed_var rfl) hs) (fun x _ => eg_tup (egs_cons eg_name (egs_cons eg_name egs_nil))) (fun _ _ => et_yes)
              (fun x hx => ?_) (by rw [List.length_zip]; have := okD_len ha hs; omega))) cl_allM) rfl fun s e => ?_
            · have hx1 : x.2 = x.1 ∧ x.1 ∈ ds := zip_diag ds x hx
              have e : x = (x.1, x.1) := by
                obtain ⟨x1, x2⟩ := x
                rw [show x2 = x1 from hx1.1]
              rw [e]
              exact ed_fin (ed_call (f := fun _ => .bool true) x.1 (ea_cons (ed_var rfl) (ea_one (ed_var rfl))) (okD_mem ha hs hx1.2)) rfl rfl
            · rw [e, List.all_eq_true.mpr (by intro y hy; obtain ⟨_, _, e⟩ := List.mem_map.mp hy; rw [← e]; rfl)]
          case hc => rfl
          case k => exact fun v H' h => q v _ H' _ _ _ _ σ rfl h
    have flat : (isB (tyD d) "list" || isB (tyD d) "tuple") = false → (noneD d || (isB (tyD d) "bool" || isB (tyD d) "str")) = true → OpS B rEq (.dat d) (.dat d) (fun z => z = .dat (.bool true)) → t_law_same B.K (sp_law_same B.K n) D σ H := by
      intro h1 h2 h3
      unfold t_law_same
      apply p_ifN (b := false) hh u
      case h => rw [← h1]; exact et_val (iT _ _ rfl rfl)
      case hc => rfl
      case k1 => intro z; cases z
      case k2 =>
        intro _ H2 h4
        apply p_ifN (b := true) h4 u
        case h => exact et_fin (et_or (c2 := 0) (et_test (ed_op (ed_var rfl) ed_non os_isN)) fun _ => et_val (iT _ _ rfl rfl)) rfl h2
        case hc => rfl
        case k2 => intro z; cases z
        case k1 =>
          intro _ H3 h5
          apply p_ret (s := .dat (.bool true)) h5 u
          case h =>
            refine ed_fin (ed_andV (c2 := 0) (a := true) (b := true) (ed_op (ed_var rfl) (ed_var rfl) h3) fun _ => ed_fin (ed_andV (c2 := 0) (ed_op (i0 _ rfl) (i1 _ rfl) os_eqB) fun _ => ed_fin (ed_op (ed_op (ed_var rfl) ed_non os_isN) (ed_op (ed_var rfl) ed_non os_isN) os_eqB) rfl rfl) rfl ?_) rfl rfl
            rw [beq_self_eq_true, beq_self_eq_true]
            rfl
          case hc => rfl
          case k => exact fun v H' h => q v _ H' _ _ _ _ σ rfl h
    cases d with
    | list ds => exact seq ds (.inl rfl) rfl
    | tuple ds => exact seq ds (.inr rfl) rfl
    | dict l => cases ha
    | none => exact flat rfl rfl os_eqN
    | bool b =>
      have z := os_eqB (B := B) (x := b) (y := b)
      rw [beq_self_eq_true] at z
      exact flat rfl rfl z
    | str x =>
      have z := os_eqS (B := B) (x := x) (y := x)
      rw [decide_eq_true rfl] at z
      exact flat rfl rfl z
    | int i =>
      unfold t_law_same
      apply p_ifN (b := false) hh u
      case h => exact et_val (iT _ _ rfl rfl)
      case hc => rfl
      case k1 => intro z; cases z
      case k2 =>
        intro _ H2 h4
        apply p_ifN (b := false) h4 u
        case h => exact et_fin (et_or (c2 := 0) (et_test (ed_op (ed_var rfl) ed_non os_isN)) fun _ => et_val (iT _ _ rfl rfl)) rfl rfl
        case hc => rfl
        case k1 => intro z; cases z
        case k2 =>
          intro _ H3 h5
          apply p_ret (s := .dat (.bool true)) h5 u
          case h =>
            refine ed_fin (ed_andV (c2 := 0) (i0 _ rfl) fun _ => ed_fin (ed_andV (c2 := 0) (ed_notV (i0 _ rfl)) fun _ => ed_op (ed_var rfl) (ed_var rfl) os_eqI) rfl rfl) rfl ?_
            rw [decide_eq_true rfl]
            rfl
          case hc => rfl
          case k => exact fun v H' h => q v _ H' _ _ _ _ σ rfl h
end
end K30
set_option Elab.async false
set_option linter.all false
set_option maxRecDepth 100000
set_option maxHeartbeats 1000000
namespace K30
open PySem PySem.Spec PyProof.Rows L2
/-! ### a dict at the box's place -/
section
variable {K : PySem.W.Frag} {B : Bx} {rho : List Sl} {mu : List (Addr × List PyData)} {T : Hp → Prop} {n m c : Nat} {σ : L2.St} {H : Hp} {t1 t2 : TS} {D : Ends}
theorem Holds.dictNew {C0 H0 : Hp} (h : Holds ⟨K, none, C0, H0⟩ rho mu T n σ H) {p : Addr} (hp : H p = none) (hm : m ≤ 1000) (cz : H0 p = none → C0 p = none) : H0 p = none ∧ Holds ⟨K, some p, C0, upd H0 p (.dK [])⟩ rho mu T m σ (upd H p (.dK [])) := by
  obtain ⟨C, a, b⟩ := h
  have h0 : H0 p = none := a.h0 hp
  refine ⟨h0, C, ⟨fun q u e => ?_, a.len, a.env, fun q hq => ?_, a.nd, fun c e => ?_, a.old, fun q o e => ?_⟩, b⟩
  · rw [upd_ne (ne_of_none (a.sub q u e) hp)]
    exact a.sub q u e
  · obtain ⟨h1, h2, vs, h3, h4⟩ := a.hot q hq
    have x := ne_of_none h3 hp
    exact ⟨h1, ⟨fun e => x (Option.some.inj e).symm, by show upd H0 p (.dK []) q.1 = none; rw [upd_ne x]; exact h2.2⟩, vs, by rw [upd_ne x]; exact h3, h4⟩
  · have e' : p = c := Option.some.inj e
    subst e'
    exact ⟨a.free hp, _, upd_same, .inr ⟨⟨[], rfl, by show 0 + m ≤ 1000; omega⟩, [], upd_same⟩⟩
  · have e : upd H0 p (.dK []) q = some o := e
    by_cases y : q = p
    · subst y
      exact ⟨(a.free hp).trans (cz h0).symm, fun x => absurd rfl x⟩
    · rw [upd_ne y] at e ⊢
      have k := a.keep q o e
      exact ⟨k.1, fun _ => k.2 (by intro z; cases z)⟩
theorem asg_tup {ta : TA} {g : TG} (h : ta σ H fun vs H2 => vs.length ≤ sizeLine ∧ ∀ p, H2 p = none → g (.ref p) σ (upd H2 p (.tup vs)) (t2 D)) : tSeq (tAsg (tTup ta) g) t2 D σ H := h
theorem ret_tup {ta : TA} (h : ta σ H fun vs H2 => vs.length ≤ sizeLine ∧ ∀ p, H2 p = none → D.rt (.ref p) (upd H2 p (.tup vs))) : tRet (tTup ta) D σ H := h
theorem cons_step {te : TE} {tr : TA} {Q : List V → Hp → Prop} (h : te σ H fun x H1 => tr σ H1 fun xs H2 => Q (x :: xs) H2) : tCons te tr σ H Q := h
theorem putK_len {κ : Type} [DecidableEq κ] {kvs : List (κ × V)} {k : κ} {v : V} : (putK kvs k v).length ≤ kvs.length + 1 := by
  unfold putK
  split
  · rw [List.length_map]; exact Nat.le_succ _
  · rw [List.length_append]; exact Nat.le_refl _
theorem s_dput {p : Addr} {i j l : Nat} {k : Int} {s : Sl} (hb : B.beta = some p) (hd : ∃ q, B.H0 p = some (.dK q)) (hh : Holds B rho mu T (n + 1) σ H) (u : Up T) (hi : rho[i]? = some (.adr p)) (hj : rho[j]? = some (.dat (.int k))) (hl : rho[l]? = some s) (hs : s ≠ .emp)
    (q : ∀ H', Holds B rho mu T n σ H' → t2 D σ H') : tSeq (sDPut (tVar i) (tVar j) (tVar l)) t2 D σ H := by
  obtain ⟨C, a, b⟩ := hh
  obtain ⟨v1, g1, e1⟩ := a.env i _ hi (by intro z; cases z)
  obtain ⟨v2, g2, e2⟩ := a.env j _ hj (by intro z; cases z)
  obtain ⟨v3, g3, e3⟩ := a.env l _ hl hs
  have e1 : v1 = .ref p := e1
  subst e1
  cases e2
  obtain ⟨hc, o, ho, hx⟩ := a.box p hb
  obtain ⟨ps, eo, len⟩ : ∃ ps, o = .dK ps ∧ ps.length + (n + 1) ≤ 1000 := by
    rcases hx with ⟨_, e⟩ | ⟨h, _⟩
    · obtain ⟨q, hq⟩ := hd
      exact absurd hq (e q)
    · exact h
  subst eo
  refine ⟨v3, g3, .ref p, g1, .int k, g2, p, upd H p (.dK (putK ps (.inl k) v3)), rfl, DPut.k (k := .inl k) ho (small1000 (by omega)), q _ ⟨C, ⟨fun z w e => ?_, a.len, a.env, fun z hz => ?_, a.nd, fun c e => ?_, a.old, fun z o e => ?_⟩, b⟩⟩
  · have x : z ≠ p := fun y => by rw [y, hc] at e; cases e
    rw [upd_ne x]
    exact a.sub z w e
  · obtain ⟨h1, h2, vs, h3, h4⟩ := a.hot z hz
    have x : z.1 ≠ p := fun y => h2.1 (by rw [y]; exact hb)
    exact ⟨h1, h2, vs, by rw [upd_ne x]; exact h3, h4⟩
  · have e' : c = p := by rw [hb] at e; exact (Option.some.inj e).symm
    subst e'
    exact ⟨hc, _, upd_same, .inr ⟨⟨_, rfl, by have := putK_len (kvs := ps) (k := (.inl k : Key)) (v := v3); omega⟩, hd⟩⟩
  · have k := a.keep z o e
    refine ⟨k.1, fun x => ?_⟩
    have y : z ≠ p := fun y => x (by rw [y]; exact hb)
    rw [upd_ne y]
    exact k.2 x
/-- for x in xs: .., at a cost by the turn, and then t2 -/
theorem p_forCN {α β : Type} (xs : List α) (enc : α → PyData) (step : β → α → β) (inv : Nat → β → Prop) (x0 : β) (rhoI : β → List Sl) (muI : β → List (Addr × List PyData)) {wi : TI} {g : TG} {tb : TS} {cI N : Nat}
    (hh : Holds B rho mu T N σ H) (u : Up T) (hN : n + xs.length * cI ≤ N) (hw : EvW B c wi rho (fun L => L = xs.map enc)) (hc : c = 0) (hr : rhoI x0 = rho) (hm : muI x0 = mu) (h0 : inv 0 x0)
    (turn : ∀ i a x (T' : Hp → Prop) (m : Nat) (N : L2.St → Hp → Prop) σ' H' v, xs[i]? = some a → inv i x → Up T' → Holds B (rhoI x) (muI x) (AndV B.K T' v (.dat (enc a))) (m + cI) σ' H' →
      (∀ σ2 H2, inv (i + 1) (step x a) → Holds B (rhoI (step x a)) (muI (step x a)) T' m σ2 H2 → N σ2 H2) → g v σ' H' fun σ2 H2 => tb { D with nx := N, ct := N, bk := fun σ H => t2 D σ H } σ2 H2)
    (done : ∀ σ' H', inv xs.length (xs.foldl step x0) → Holds B (rhoI (xs.foldl step x0)) (muI (xs.foldl step x0)) T n σ' H' → t2 D σ' H') : tSeq (tFor wi g tb) t2 D σ H := by
  subst hc
  refine s_seq (s_for (n := n) (c0 := 0) (cN := xs.length * cI) (cI := cI) (D := { D with nx := t2 D }) (hh.le (by omega)) u hw (fun L i x => x = (xs.take i).foldl step x0 ∧ inv i x) rhoI muI x0 hr hm (fun L _ => ⟨rfl, h0⟩) (fun L hL => ?_) (fun L i d x T' m N σ' H' v hL hd hx up _ _ h1 q => ?_) fun L x σ' H' hL hx h1 => ?_)
  · have hL : L = xs.map enc := hL
    rw [hL, List.length_map]
    exact Nat.le_refl _
  · have hL : L = xs.map enc := hL
    subst hL
    rw [List.getElem?_map] at hd
    obtain ⟨a, h2, h3⟩ := Option.map_eq_some_iff.mp hd
    subst h3
    have e : (xs.take (i + 1)).foldl step x0 = step x a := by
      rw [List.take_add_one, h2, hx.1, List.foldl_append]
      rfl
    exact turn i a x T' m N σ' H' v h2 hx.2 up h1 fun σ2 H2 h4 h5 => q (step x a) σ2 H2 ⟨e.symm, h4⟩ h5
  · have hL : L = xs.map enc := hL
    subst hL
    have e : x = xs.foldl step x0 := by
      have z := hx.1
      rw [List.length_map, List.take_length] at z
      exact z
    have z := hx.2
    rw [List.length_map] at z
    subst e
    exact done σ' H' z h1
/-- a pure def whose result is told as a slot -/
def spS (K : PySem.W.Frag) {α : Type} (enc : α → List PyData) (ok : α → Prop) (res : α → Sl) : Sp := fun vs H Q _ => ∃ C a, Same C H ∧ DtAll K C vs (enc a) ∧ ok a ∧
  ∀ v C' H', Same H H' → Same C C' → Same C' H' → (∀ a o, H a = some o → C' a = C a) → Vl K C' v (res a) → Q v H'
theorem ed_callS {tA : TA} {α : Type} {enc : α → List PyData} {ok : α → Prop} {res : α → Sl} {E : XK} (a : α) (h : EvA B c tA rho (fun l => l = (enc a).map .dat)) (hp : ok a) : EvD B c (tCall (spS B.K enc ok res) [] E tA) rho (res a) := fun mu T n σ H u hh Q q =>
  h mu T n σ H u hh _ fun vs H1 ss e h1 => by
    obtain ⟨C, x, b, hv⟩ := h1
    have e' : ss = (enc a).map .dat := e
    subst e'
    exact ⟨C, a, x.sub, by rw [List.append_nil]; exact VlAll.dats hv, hp, fun v C' H' s1 s2 s3 s4 hv' => q v H' (res a) rfl ⟨C', x.ext s1 s2 s3 s4, u _ _ s2 b, hv'⟩⟩
end
/-- the odd points -/
def badAt (d : Deed) (p : Point × Str) : Bool := decide (d.kind = ("whole" : Str)) && (isInM p.1.spot d.last && match d with
  | .four _ a _ _ => !decide (p.2 = a)
  | _ => false)
def oddStep (d : Deed) (acc : List Nat) (x : (Point × Str) × Nat) : List Nat := if badAt d x.1 = true then acc ++ [x.2] else acc
theorem odd_fine {d : Deed} {w : List Point} {os : List Str} (hd : d.ok = true) (hk : d.kind = "whole") : ((w.zip os).all fun p => !badAt d p) = fine w os d := by
  obtain ⟨a, b, c, e, _⟩ := whole_four hd hk
  subst e
  unfold fine
  rw [List.all_map]
  congr 1
  funext p
  show (!(true && (isInM p.1.spot c && !decide (p.2 = a)))) = (!isInM p.1.spot c || decide (p.2 = a))
  cases isInM p.1.spot c <;> cases decide (p.2 = a) <;> rfl
theorem odd_else {d : Deed} {l : List (Point × Str)} (hk : d.kind ≠ "whole") : (l.all fun p => !badAt d p) = true := by
  refine List.all_eq_true.mpr fun p _ => ?_
  unfold badAt
  rw [decide_eq_false hk]
  rfl
section
variable {P : Program} {w : World} {K : PySem.W.Frag} {mg : Str → Option Value} {base : Heap} {k : Nat}
abbrev sp_law_play (K : PySem.W.Frag) : Sp := spS K (fun a : List Point × List Deed => [eWorld a.1, eBook a.2]) (fun a => a.1.length ≤ 999 ∧ a.2.length ≤ 999 ∧ ∀ d ∈ a.2, d.ok = true) (fun a => .row 1 [eNats (playM a.1 a.2).1, eNames (playM a.1 a.2).2])
theorem df_law_play (A : At K mg "_law_play" 41) (g : G0 K mg) (D1 : Df P w K mg base CX0 k "_law_turned" ["_law_deed_so", "_law_spot_so", "_law_owner_so"] (sp_law_turned K)) (D2 : Df P w K mg base CX0 k "_law_in" ["_law_spot_so", "_law_cut_so"] (sp_law_in K)) :
    Df P w K mg base CX0 (k + 1) "_law_play" ["_law_world_so", "_law_deeds_so"] (sp_law_play K) := by
  obtain ⟨f, fd, af, F⟩ := A
  refine ⟨f, fd, af, ?_, F.kp, F.bindsN (fun _ _ _ _ _ _ us hl => match us, hl with | [_, _], _ => rfl), look_of F⟩
  refine F.ok sc_law_play (fun vs H Q E h => ?_) (fun cdv A outer s H vs Q E hr h => ?_)
  · obtain ⟨C, a, _, h2, _⟩ := h
    rw [h2.length]
    rfl
  obtain ⟨C, a, hs1, hv1, ha, q⟩ := h
  refine ⟨t_law_play K (sp_law_turned K) (sp_law_in K), PSs.nox (ps_law_play g D1 D2 hr), ?_⟩
  obtain ⟨w, h⟩ := a
  obtain ⟨hw, hl, hok⟩ := ha
  have hw : w.length ≤ 999 := hw
  have hl : h.length ≤ 999 := hl
  have hh := start_pure (n := 0) (N := ["_law_world_so", "_law_deeds_so", "_law_owners_so", "_law_fine", "_law_bad_so", "_law_k", "_law_deed_so", "_law_odd_so", "_law_j", "_law_own"]) (k := 8) hs1 hv1 rfl
  have hh : Holds ⟨K, none, C, H⟩ [.dat (eWorld w), .dat (eBook h), .emp, .emp, .emp, .emp, .emp, .emp, .emp, .emp] [] (fun _ => True) 0 (L2.start ["_law_world_so", "_law_deeds_so", "_law_owners_so", "_law_fine", "_law_bad_so", "_law_k", "_law_deed_so", "_law_odd_so", "_law_j", "_law_own"] vs) H := hh
  generalize L2.start ["_law_world_so", "_law_deeds_so", "_law_owners_so", "_law_fine", "_law_bad_so", "_law_k", "_law_deed_so", "_law_odd_so", "_law_j", "_law_own"] vs = σ at hh
  unfold t_law_play
  -- the three values
  have e1 : EvD ⟨K, none, C, H⟩ 0 (tLc (iSeq K (tVar 0)) (gName 9) tYes (tOp (rIx K) (tVar 9) (tC (.int 2))) [9]) [.dat (eWorld w), .dat (eBook h), .emp, .emp, .emp, .emp, .emp, .emp, .emp, .emp] (.dat (.list ((w.map Point.own).map .str))) :=
    ed_fin (ed_lc1 (B := ⟨K, none, C, H⟩) w ePoint (fun x => [.dat (eWorld w), .dat (eBook h), .emp, .emp, .emp, .emp, .emp, .emp, .emp, .dat (ePoint x)]) (fun x => .str x.own) (ew_seq (ed_var rfl) (.inr rfl)) (fun x _ => eg_name) (fun _ _ => et_yes) (fun x _ => ed_fin (ed_op (ed_var rfl) ed_int (os_ix (.inr rfl) rfl)) rfl rfl) (by omega)) rfl (by rw [List.map_map]; rfl)
  refine asg_tup (cons_step ?_)
  refine e1 [] (fun _ => True) 0 σ H Up.tt hh _ fun v1 H1 s1 es h1 => ?_
  have es' : s1 = .dat (.list ((w.map Point.own).map .str)) := es
  subst es'
  refine cons_step ?_
  refine ed_nil (B := ⟨K, none, C, H⟩) [] _ 0 σ H1 Up.tt.andV h1 _ fun v2 H2 s2 es2 h2 => ?_
  have es2' : s2 = .dat (.list []) := es2
  subst es2'
  refine fun p hp => ⟨by show 3 ≤ sizeLine; decide, fun p2 hp2 => ?_⟩
  have hH0p : H p = none := by
    obtain ⟨C', a, _⟩ := h2
    exact a.h0 hp
  obtain ⟨_, h3⟩ := h2.dictNew (m := 1000) hp (Nat.le_refl _) fun _ => Same.free hs1 hH0p
  obtain ⟨B, hB⟩ : ∃ B : Bx, B = ⟨K, some p, C, upd H p (.dK [])⟩ := ⟨_, rfl⟩
  have hBk : B.K = K := by rw [hB]
  have hBb : B.beta = some p := by rw [hB]
  have hBd : ∃ q, B.H0 p = some (.dK q) := by rw [hB]; exact ⟨[], upd_same⟩
  have hq : ∀ v H' rho mu T n σ', Holds B rho mu (AndV B.K T v (.row 1 [eNats (playM w h).1, eNames (playM w h).2])) n σ' H' → Q v H' := by
    intro v H' rho mu T n σ' h9
    rw [hB] at h9
    obtain ⟨C', a, b, hv⟩ := h9
    refine q v C' H' (fun z o e => ?_) a.old a.sub (fun z o e => ?_) hv
    · have x : z ≠ p := ne_of_none e hH0p
      exact (a.keep z o (by show upd H p (.dK []) z = some o; rw [upd_ne x]; exact e)).2 fun y => x (Option.some.inj y).symm
    · have x : z ≠ p := ne_of_none e hH0p
      exact (a.keep z o (by show upd H p (.dK []) z = some o; rw [upd_ne x]; exact e)).1
  rw [← hB] at h3
  clear hB q
  subst hBk
  have h3 : Holds B [.dat (eWorld w), .dat (eBook h), .emp, .emp, .emp, .emp, .emp, .emp, .emp, .emp] [] (AndA B.K (fun _ => True) [v1, v2, .ref p] [.dat (.list ((w.map Point.own).map .str)), .dat (.list []), .adr p]) 1000 σ (upd H2 p (.dK [])) := h3.imp fun C z => ⟨trivial, .cons z.1.2 (.cons z.2 (.cons rfl .nil))⟩
  have h4 := h3.cold Up.tt.andA hp2 (.tup [v1, v2, .ref p]) (P := fun C => SqT B.K C p2 [v1, v2, .ref p]) fun C _ _ _ => .inl (.inl upd_same)
  have hsq : SqT B.K (upd (upd H2 p (.dK [])) p2 (.tup [v1, v2, .ref p])) p2 [v1, v2, .ref p] := .inl (.inl upd_same)
  refine ⟨p2, [v1, v2, .ref p], rfl, hsq, rfl, ?_⟩
  refine (egs_cons (vs := [2, 3, 4]) eg_name (egs_cons eg_name (egs_cons eg_name egs_nil))) [] (fun _ => True) 1000 σ _ _ Up.tt (h4.imp fun C z => z.1) _ fun σ1 _ h5 => ?_
  have h5 : Holds B [.dat (eWorld w), .dat (eBook h), .dat (.list ((w.map Point.own).map .str)), .dat (.list []), .adr p, .emp, .emp, .emp, .emp, .emp] [] (fun _ => True) 1000 σ1 _ := h5
  -- the deeds
  apply p_forCN (n := 0) (cI := 1) (x0 := ([], w.map Point.own)) h.zipIdx (fun x => .tuple [.int (x.2 : Int), eDeed x.1]) (stepM w) (fun i x => x.1.length ≤ i ∧ x.2.length = w.length)
    (fun x => [.dat (eWorld w), .dat (eBook h), .dat (.list (x.2.map .str)), .dat (.list (x.1.map eNat)), .adr p, .emp, .emp, .emp, .emp, .emp]) (fun _ => []) h5 Up.tt (by rw [List.length_zipIdx]; omega)
    (by rw [← enumD_map]; exact ew_enum (ed_var rfl) (.inr rfl)) rfl rfl rfl ⟨Nat.le_refl _, by rw [List.length_map]⟩
  case done =>
    intro σ' H' _ h6
    obtain ⟨st, hst⟩ : ∃ st, st = playM w h := ⟨_, rfl⟩
    have h6 : Holds B [.dat (eWorld w), .dat (eBook h), .dat (.list (st.2.map .str)), .dat (.list (st.1.map eNat)), .adr p, .emp, .emp, .emp, .emp, .emp] [] (fun _ => True) 0 σ' H' := by rw [hst]; exact h6
    rw [← hst] at hq
    have ev : EvA B 0 (tCons (tCB (rTupleOf B.K) (tCons (tVar 3) tNil)) (tCons (tCB (rTupleOf B.K) (tCons (tVar 2) tNil)) (tCons (tVar 4) tNil))) [.dat (eWorld w), .dat (eBook h), .dat (.list (st.2.map .str)), .dat (.list (st.1.map eNat)), .adr p, .emp, .emp, .emp, .emp, .emp] (fun l => l = [.dat (eNats st.1), .dat (eNames st.2), .adr p]) :=
      ea_cons (c1 := 0) (c2 := 0) (er_fin (c1 := 0) (ed_cb (ea_one (ed_var rfl)) (cl_tuple (.inl rfl))) rfl fun _ e => e) (ea_cons (c1 := 0) (c2 := 0) (er_fin (c1 := 0) (ed_cb (ea_one (ed_var rfl)) (cl_tuple (.inl rfl))) rfl fun _ e => e) (ea_one (ed_var rfl)))
    refine ret_tup ?_
    refine ev [] (fun _ => True) 0 σ' H' Up.tt h6 _ fun vs H7 ss es h7 => ?_
    have es' : ss = [.dat (eNats st.1), .dat (eNames st.2), .adr p] := es
    subst es'
    have hlen : vs.length = 3 := by
      obtain ⟨C', _, _, hv⟩ := h7
      exact VlAll.len hv
    refine ⟨by rw [hlen]; decide, fun p3 hp3 => hq _ _ [.dat (eWorld w), .dat (eBook h), .dat (.list (st.2.map .str)), .dat (.list (st.1.map eNat)), .adr p, .emp, .emp, .emp, .emp, .emp] [] (fun _ => True) 0 σ' ?_⟩
    have h8 := h7.cold Up.tt.andA hp3 (.tup vs) (P := fun C => Vl B.K C (.ref p3) (.row 1 [eNats st.1, eNames st.2])) fun C t t2 sc => by
      have hv := t2.2
      cases hv with
      | @cons x1 r1 _ _ a1 b1 =>
        cases b1 with
        | @cons x2 r2 _ _ a2 b2 =>
          cases b2 with
          | @cons x3 r3 _ _ a3 b3 =>
            cases b3
            exact ⟨p3, [x1, x2], [x3], rfl, .inl (.inl upd_same), .cons a1 (.cons a2 .nil), rfl⟩
    exact h8.imp fun C z => ⟨trivial, z.2⟩
  case turn =>
    intro i x st T' m N σ' H' v hx inv up h6 next
    obtain ⟨d, j⟩ := x
    obtain ⟨inv1, inv2⟩ := inv
    have hi : i < h.length := by
      have z := (List.getElem?_eq_some_iff.mp hx).1
      rw [List.length_zipIdx] at z
      exact z
    have hd : d ∈ h := by
      have z := List.mem_of_getElem? hx
      exact (List.mem_zipIdx z).2.2 ▸ List.getElem_mem _
    have hdk := hok d hd
    have ew : (w.zip st.2).map Prod.fst = w := by rw [List.map_fst_zip]; omega
    have eo : (w.zip st.2).map Prod.snd = st.2 := by rw [List.map_snd_zip]; omega
    have lz : (w.zip st.2).length = w.length := by rw [List.length_zip]; omega
    have enumW : enumD (w.map ePoint) = (w.zip st.2).zipIdx.map fun x => .tuple [.int (x.2 : Int), ePoint x.1.1] := by
      conv => lhs; rw [← ew]
      rw [List.map_map, enumD_map]
      rfl
    have own : ∀ x ∈ (w.zip st.2).zipIdx, atI (st.2.map PyData.str) (x.2 : Int) = some (.str x.1.2) := by
      intro x hx
      refine atI_nat ?_
      rw [List.getElem?_map, ← eo, List.getElem?_map]
      have z := List.mem_zipIdx_iff_getElem?.mp hx
      rw [z]
      rfl
    refine (eg_tup (vs := [5, 6]) (ds := [.int (j : Int), eDeed d]) (egs_cons eg_name (egs_cons eg_name egs_nil))) _ _ _ _ _ _ up h6 _ fun σ2 _ h7 => ?_
    apply p_newHotN h7
    intro po σ3 H3 h8
    have h8 : Holds B [.dat (eWorld w), .dat (eBook h), .dat (.list (st.2.map .str)), .dat (.list (st.1.map eNat)), .adr p, .dat (.int (j : Int)), .dat (eDeed d), .adr po, .emp, .emp] [(po, [])] T' (m + 1) σ3 H3 := h8
    apply p_forN (x0 := ([] : List Nat)) (w.zip st.2).zipIdx (fun x => .tuple [.int (x.2 : Int), ePoint x.1.1]) (oddStep d) (fun i acc => acc.length ≤ i ∧ acc.isEmpty = ((w.zip st.2).take i).all fun p => !badAt d p)
      (fun _ => [.dat (eWorld w), .dat (eBook h), .dat (.list (st.2.map .str)), .dat (.list (st.1.map eNat)), .adr p, .dat (.int (j : Int)), .dat (eDeed d), .adr po, .emp, .emp]) (fun acc => [(po, acc.map eNat)]) h8 up
      (by rw [← enumW]; exact ew_enum (ed_var rfl) (.inr rfl)) rfl rfl rfl ⟨Nat.le_refl _, rfl⟩
    case turn =>
      intro i2 x acc T2 m2 N2 σ4 H4 v2 hx2 inv3 up2 h9 next2
      obtain ⟨⟨pt, o⟩, jj⟩ := x
      have hxm := List.mem_of_getElem? hx2
      have hi2 : i2 < w.length := by
        have z := (List.getElem?_eq_some_iff.mp hx2).1
        rw [List.length_zipIdx, lz] at z
        exact z
      have hx3 : (w.zip st.2)[i2]? = some (pt, o) := by
        rw [List.getElem?_zipIdx] at hx2
        obtain ⟨y, hy, e⟩ := Option.map_eq_some_iff.mp hx2
        rw [hy, ← (Prod.mk.inj e).1]
      refine (eg_tup (vs := [8, 9]) (ds := [.int (jj : Int), ePoint pt]) (egs_cons eg_name (egs_cons eg_name egs_nil))) _ _ _ _ _ _ up2 h9 _ fun σ5 _ h10 => ?_
      have e0 : EvD B (0 + 0) (tOp (rIx B.K) (tVar 6) (tC (.int 0))) [.dat (eWorld w), .dat (eBook h), .dat (.list (st.2.map .str)), .dat (.list (st.1.map eNat)), .adr p, .dat (.int (j : Int)), .dat (eDeed d), .adr po, .dat (.int (jj : Int)), .dat (ePoint pt)] (.dat (.str d.kind)) := ed_op (ed_var rfl) ed_int (os_ix0 (.inr rfl))
      have hnext : ∀ σ6 H6, Holds B [.dat (eWorld w), .dat (eBook h), .dat (.list (st.2.map .str)), .dat (.list (st.1.map eNat)), .adr p, .dat (.int (j : Int)), .dat (eDeed d), .adr po, .dat (.int (jj : Int)), .dat (ePoint pt)] [(po, (oddStep d acc ((pt, o), jj)).map eNat)] T2 m2 σ6 H6 → N2 σ6 H6 := by
        intro σ6 H6 h11
        refine next2 _ _ ⟨?_, ?_⟩ (h11.less rfl fun i s e => ?_)
        · unfold oddStep
          split
          · rw [List.length_append]; exact Nat.succ_le_succ inv3.1
          · exact Nat.le_succ_of_le inv3.1
        · rw [List.take_add_one, hx3, List.all_append, ← inv3.2]
          show (oddStep d acc ((pt, o), jj)).isEmpty = (acc.isEmpty && (!badAt d (pt, o) && true))
          unfold oddStep
          cases hb : badAt d (pt, o) with
          | true =>
            rw [if_pos rfl]
            cases acc <;> rfl
          | false =>
            rw [if_neg (by decide)]
            cases acc <;> rfl
        · match i with
          | 0 | 1 | 2 | 3 | 4 | 5 | 6 | 7 => exact .inr e
          | 8 | 9 => exact .inl (Option.some.inj e).symm
          | i + 10 => exact .inr e
      apply p_if (b := badAt d (pt, o)) h10 up2
      case h =>
        refine et_and (c2 := 0) (et_test (ed_op e0 ed_str os_eqS)) fun hk => ?_
        obtain ⟨a, b, c, e, hc⟩ := whole_four hdk (of_decide_eq_true hk)
        subst e
        refine et_fin (et_and (et_val (ed_call (pt.spot, c) (ea_cons (ed_op (ed_var rfl) ed_int (os_ix0 (.inr rfl))) (ea_one (ed_op (ed_var rfl) (ed_neg ed_int) (os_ix (.inr rfl) (last_at (.four "whole" a b c)))))) hc)) fun _ => et_test (ed_op (ed_op (ed_var rfl) (ed_var rfl) (os_ix (.inl rfl) (own _ hxm))) (ed_op (ed_var rfl) ed_int (os_ix (.inr rfl) rfl)) os_neS)) rfl rfl
      case hc => rfl
      case k1 =>
        intro hb H5 h11
        refine s_app (c := 0) (S := fun z => z = .dat (eNat jj)) h11 up2 rfl ((ed_var rfl).imp fun s e => ⟨_, e, e⟩) (by rw [List.length_map]; omega) fun dd σ6 H7 e h12 => ?_
        have e := Sl.dat.inj e
        subst e
        refine hnext _ _ ?_
        rw [show oddStep d acc ((pt, o), jj) = acc ++ [jj] from if_pos hb, List.map_append]
        exact h12
      case k2 =>
        intro hb H5 h11
        refine hnext _ _ ?_
        rw [show oddStep d acc ((pt, o), jj) = acc from if_neg (by rw [hb]; decide)]
        exact h11
    case done =>
      intro σ4 H4 inv3 h9
      obtain ⟨odd, hodd⟩ : ∃ odd, odd = (w.zip st.2).zipIdx.foldl (oddStep d) [] := ⟨_, rfl⟩
      rw [← hodd] at inv3 h9
      rw [List.length_zipIdx, List.take_length] at inv3
      have h10 := (h9.freeze up).reslot (i := 7) rfl
      have h10 : Holds B [.dat (eWorld w), .dat (eBook h), .dat (.list (st.2.map .str)), .dat (.list (st.1.map eNat)), .adr p, .dat (.int (j : Int)), .dat (eDeed d), .dat (.list (odd.map eNat)), .emp, .emp] [] T' (m + 1) σ4 H4 := h10
      have e0 : ∀ l, EvD B (0 + 0) (tOp (rIx B.K) (tVar 6) (tC (.int 0))) [.dat (eWorld w), .dat (eBook h), .dat (.list (st.2.map .str)), l, .adr p, .dat (.int (j : Int)), .dat (eDeed d), .dat (.list (odd.map eNat)), .emp, .emp] (.dat (.str d.kind)) := fun l => ed_op (ed_var rfl) ed_int (os_ix0 (.inr rfl))
      have e7 : ∀ l, EvT B 0 (tTest (tOp (rEqD B.K) (tVar 7) (tLst tNil))) [.dat (eWorld w), .dat (eBook h), .dat (.list (st.2.map .str)), l, .adr p, .dat (.int (j : Int)), .dat (eDeed d), .dat (.list (odd.map eNat)), .emp, .emp] odd.isEmpty := fun l =>
        et_fin (et_test (ed_op (ed_var rfl) ed_nil (os_eq shaped_nats rfl))) rfl (by rw [eqv_nil, List.isEmpty_map])
      -- the last if
      have last : ∀ (fs : List Nat) σ5 H5 D', D'.nx = N → stepM w st (d, j) = (if odd.isEmpty = true then (fs, turned w st.2 d) else (fs, st.2)) → Holds B [.dat (eWorld w), .dat (eBook h), .dat (.list (st.2.map .str)), .dat (.list (fs.map eNat)), .adr p, .dat (.int (j : Int)), .dat (eDeed d), .dat (.list (odd.map eNat)), .emp, .emp] [] T' m σ5 H5 →
          tIfS (tTest (tOp (rEqD B.K) (tVar 7) (tLst tNil))) (tAsg (tLc (iEnumS B.K (tCons (tVar 0) tNil)) (gTup B.K 2 (gCons (gName 8) (gCons (gName 9) gNil))) tYes (tCall (sp_law_turned B.K) [] E0 (tCons (tVar 6) (tCons (tOp (rIx B.K) (tVar 9) (tC (.int 0))) (tCons (tOp (rIx B.K) (tVar 2) (tVar 8)) tNil)))) [8, 9]) (gName 2)) tNext D' σ5 H5 := by
        intro fs σ5 H5 D' hN hs h11
        have inv' : (stepM w st (d, j)).1.length ≤ i + 1 ∧ (stepM w st (d, j)).2.length = w.length := ⟨step_fine inv1, step_len inv2⟩
        apply p_if (b := odd.isEmpty) h11 up (e7 _) rfl
        case k1 =>
          intro hb H6 h12
          rw [if_pos hb] at hs
          apply p_asg (s := .dat (.list ((turned w st.2 d).map .str))) h12 up
          case h =>
            refine ed_fin (ed_lc1 (w.zip st.2).zipIdx (fun x => .tuple [.int (x.2 : Int), ePoint x.1.1]) (fun x => [.dat (eWorld w), .dat (eBook h), .dat (.list (st.2.map .str)), .dat (.list (fs.map eNat)), .adr p, .dat (.int (j : Int)), .dat (eDeed d), .dat (.list (odd.map eNat)), .dat (.int (x.2 : Int)), .dat (ePoint x.1.1)]) (fun x => .str (d.done x.1.1.spot x.1.2))
              (by rw [← enumW]; exact ew_enum (ed_var rfl) (.inr rfl)) (fun x _ => eg_tup (egs_cons eg_name (egs_cons eg_name egs_nil))) (fun _ _ => et_yes)
              (fun x hx => ed_fin (ed_call (d, x.1.1.spot, x.1.2) (ea_cons (ed_var rfl) (ea_cons (ed_op (ed_var rfl) ed_int (os_ix0 (.inr rfl))) (ea_one (ed_op (ed_var rfl) (ed_var rfl) (os_ix (.inl rfl) (own x hx)))))) hdk) rfl rfl) (by rw [List.length_zipIdx, lz]; omega)) rfl ?_
            unfold turned
            rw [List.map_map]
            have e : ((w.zip st.2).zipIdx.map fun x => PyData.str (d.done x.1.1.spot x.1.2)) = ((w.zip st.2).zipIdx.map Prod.fst).map (PyData.str ∘ fun p => d.done p.1.spot p.2) := by
              rw [List.map_map]
              rfl
            rw [e, List.zipIdx_map_fst]
          case hc => rfl
          case k =>
            intro σ6 H7 h13
            rw [hN]
            refine next _ _ inv' ?_
            rw [hs]
            exact h13.less rfl fun i s e => by
              match i with
              | 0 | 1 | 2 | 3 | 4 => exact .inr e
              | 5 | 6 | 7 | 8 | 9 => exact .inl (Option.some.inj e).symm
              | i + 10 => exact .inr e
        case k2 =>
          intro hb H6 h12
          rw [if_neg (by rw [hb]; decide)] at hs
          show D'.nx σ5 H6
          rw [hN]
          refine next _ _ inv' ?_
          rw [hs]
          exact h12.less rfl fun i s e => by
            match i with
            | 0 | 1 | 2 | 3 | 4 => exact .inr e
            | 5 | 6 | 7 | 8 | 9 => exact .inl (Option.some.inj e).symm
            | i + 10 => exact .inr e
      by_cases hk : d.kind = "whole"
      · have hf : odd.isEmpty = fine w st.2 d := inv3.2.trans (odd_fine hdk hk)
        apply p_ifN (b := true) h10 up (et_fin (et_test (ed_op (e0 _) ed_str os_eqS)) rfl (decide_eq_true hk)) rfl
        case k2 => intro z; cases z
        case k1 =>
          intro _ H5 h11
          refine s_dput (s := .dat (.list (odd.map eNat))) hBb hBd h11 up rfl rfl rfl (by intro z; cases z) fun H6 h12 => ?_
          apply p_asg (s := .dat (.list ((st.1 ++ if odd.isEmpty = true then [j] else []).map eNat))) h12 up
          case h =>
            refine ed_fin (ed_op (ed_var rfl) (er_fin (c1 := 0) (er_if (c2 := 0) (S := fun z => z = .dat (.list ((if odd.isEmpty = true then [j] else []).map eNat))) (e7 _) (fun z => (ed_fin (c1 := 0) (ed_lst (ds := [eNat j]) (ea_one (ed_var rfl))) rfl rfl).to (by rw [if_pos z]; rfl)) (fun z => ed_nil.to (by rw [if_neg (by rw [z]; decide)]; rfl))) rfl fun _ e => e) (os_cat ?_)) rfl (by rw [List.map_append])
            rw [List.length_map, List.length_map]
            split <;> simp only [List.length_cons, List.length_nil] <;> omega
          case hc => rfl
          case k =>
            intro σ5 H7 h13
            refine last _ _ _ _ rfl ?_ h13
            unfold stepM
            rw [show ((d, j) : Deed × Nat).1.kind = "whole" from hk]
            rw [if_pos rfl, ← hf]
            by_cases z : odd.isEmpty = true
            · rw [if_pos z, if_pos z, if_pos z]
            · rw [if_neg z, if_neg z, if_neg z, List.append_nil]
      · have hf : odd.isEmpty = true := inv3.2.trans (odd_else hk)
        apply p_ifN (b := false) (h10.le (Nat.le_succ _)) up (et_fin (et_test (ed_op (e0 _) ed_str os_eqS)) rfl (decide_eq_false hk)) rfl
        case k1 => intro z; cases z
        case k2 =>
          intro _ H5 h11
          refine last _ _ _ _ rfl ?_ h11
          rw [if_pos hf]
          exact if_neg hk
end
end K30
set_option Elab.async false
set_option linter.all false
set_option maxRecDepth 100000
set_option maxHeartbeats 1000000
namespace K30
open PySem PySem.Spec PyProof.Rows L2
section
variable {B : Bx} {rho : List Sl} {c c1 c2 : Nat} {te : TE}
theorem dt_perm {K : PySem.W.Frag} {C : Hp} {ys xs : List V} (p : ys.Perm xs) : ∀ {ds : List PyData}, DtAll K C xs ds → ∃ es, es.Perm ds ∧ DtAll K C ys es := by
  induction p with
  | nil => intro ds h; exact ⟨ds, .refl _, h⟩
  | cons x _ ih =>
    intro ds h
    cases h with
    | cons h1 h2 =>
      obtain ⟨es, e1, e2⟩ := ih h2
      exact ⟨_ :: es, e1.cons _, .cons h1 e2⟩
  | swap x y l =>
    intro ds h
    cases h with
    | cons h1 h2 =>
      cases h2 with
      | cons h3 h4 => exact ⟨_, .swap _ _ _, .cons h3 (.cons h1 h4)⟩
  | trans _ _ ih1 ih2 =>
    intro ds h
    obtain ⟨es, e1, e2⟩ := ih2 h
    obtain ⟨fs, f1, f2⟩ := ih1 e2
    exact ⟨fs, f1.trans e1, f2⟩
theorem cl_sortT {ds : List PyData} {F : PyData → Prop} (G : Fam F) (hF : ∀ d ∈ ds, F d) : ClS B 0 (rSortT B.K) [.dat (.list ds)] (fun z => ∃ es, es.Perm ds ∧ z = .dat (.list es)) := fun rho mu T n σ H vs u hh Q q => by
  obtain ⟨C, a, b, hv⟩ := hh
  obtain ⟨v, e, h1⟩ := one_dat hv
  cases h1 with
  | @lst p xs _ h3 h4 =>
    refine ⟨p, xs, ds, F, e, SqL.of (a.sub _ _ h3), DtAll.dp _ _ (DtAll.up a.sub _ _ h4), G, hF, fun ys o hp ho => ?_⟩
    obtain ⟨es, e1, e2⟩ := dt_perm hp h4
    refine q _ _ (.dat (.list es)) ⟨es, e1, rfl⟩ ?_
    have z := Holds.cold (T := fun C => T C ∧ DtAll B.K C ys es) ⟨C, a, b, e2⟩ (fun C C' e y => ⟨u C C' e y.1, DtAll.up e _ _ y.2⟩) ho (.lst ys) (P := fun C => Vl B.K C (.ref o) (.dat (.list es))) fun C t t2 sc => .lst upd_same t2.2
    exact z.imp fun C y => ⟨y.1.1, y.2⟩
theorem dt_some {K : PySem.W.Frag} {C : Hp} {xs : List V} {ds : List PyData} (h : DtAll K C xs ds) : ∀ {ys : List V}, (∀ y ∈ ys, y ∈ xs) → ∃ es, (∀ e ∈ es, e ∈ ds) ∧ es.length = ys.length ∧ DtAll K C ys es
  | [], _ => ⟨[], fun e z => (by cases z), rfl, .nil⟩
  | y :: ys, m => by
    obtain ⟨es, e1, e2, e3⟩ := dt_some h (ys := ys) fun z hz => m z (List.mem_cons_of_mem _ hz)
    obtain ⟨i, hi, e⟩ := List.getElem_of_mem (m y List.mem_cons_self)
    obtain ⟨d, hd, hy⟩ := h.get' (i := i) (v := y) (by rw [List.getElem?_eq_getElem hi, e])
    refine ⟨d :: es, fun z hz => ?_, by rw [List.length_cons, List.length_cons, e2], .cons hy e3⟩
    rcases List.mem_cons.mp hz with e | hz
    · rw [e]
      exact List.mem_of_getElem? hd
    · exact e1 z hz
theorem er_sortSet {S : List PyData → Prop} {F : PyData → Prop} (h : EvR B c te rho (fun s => ∃ ds, S ds ∧ s = .dat (.list ds))) (G : Fam F) (hS : ∀ ds, S ds → (∀ d ∈ ds, F d) ∧ ds.length ≤ 3) :
    EvR B c (tSortSet B.K te) rho (fun s => ∃ ds es, S ds ∧ (∀ e ∈ es, e ∈ ds) ∧ es.length ≤ 3 ∧ s = .dat (.list es)) := fun mu T n σ H u hh Q q => h mu T n σ H u hh _ fun v H1 s ⟨ds, hs, es⟩ h1 => by
  subst es
  obtain ⟨C, a, b, hv⟩ := h1
  obtain ⟨hF, h3⟩ := hS ds hs
  cases hv with
  | @lst p xs _ g3 g4 =>
    refine ⟨p, xs, ds, F, rfl, SqL.of (a.sub _ _ g3), DtAll.dp _ _ (DtAll.up a.sub _ _ g4), G, hF, h3, fun ys o hy hl ho => ?_⟩
    obtain ⟨es, e1, e2, e3⟩ := dt_some g4 hy
    refine q _ _ (.dat (.list es)) ⟨ds, es, hs, e1, by omega, rfl⟩ ?_
    have z := Holds.cold (T := fun C => T C ∧ DtAll B.K C ys es) ⟨C, a, b, e3⟩ (fun C C' e y => ⟨u C C' e y.1, DtAll.up e _ _ y.2⟩) ho (.lst ys) (P := fun C => Vl B.K C (.ref o) (.dat (.list es))) fun C t t2 sc => .lst upd_same t2.2
    exact z.imp fun C y => ⟨y.1.1, y.2⟩
theorem dt_toV {K : PySem.W.Frag} {C : Hp} : ∀ {ys : List Str}, DtAll K C (ys.map V.str) (ys.map .str)
  | [] => .nil
  | _ :: _ => .cons (.str _) dt_toV
theorem cl_sortS {xs : List Str} (hl : xs.length < 64) : ClS B 0 (rSortedS B.K) [.dat (.list (xs.map .str))] (fun z => ∃ ys : List Str, ys.Perm xs ∧ z = .dat (.list (ys.map .str))) := fun rho mu T n σ H vs u hh Q q => by
  obtain ⟨C, a, b, hv⟩ := hh
  obtain ⟨v, e, h1⟩ := one_dat hv
  cases h1 with
  | @lst p us _ h3 h4 =>
    have e2 := DtAll.flat mem_flat h4
    have e3 : us = xs.map V.str := by rw [e2, List.map_map]; rfl
    subst e3
    refine ⟨p, xs, e, SqL.of (a.sub _ _ h3), hl, fun ys o hp _ ho => q _ _ (.dat (.list (ys.map .str))) ⟨ys, hp, rfl⟩ ?_⟩
    have z := Holds.cold (T := T) ⟨C, a, b⟩ u ho (.lst (ys.map V.str)) (P := fun C => Vl B.K C (.ref o) (.dat (.list (ys.map .str)))) fun C t t2 sc => .lst upd_same dt_toV
    exact z
end
theorem LcR.mem {b : Nat → Bool} {R : Nat → PyData → Prop} : ∀ {n : Nat} {ds : List PyData}, LcR b R n ds → ∀ d ∈ ds, ∃ i, i < n ∧ R i d
  | 0, ds, h, d, hd => by
    have e : ds = [] := h
    rw [e] at hd
    cases hd
  | n + 1, ds, h, d, hd => by
    have h : if b n = true then ∃ es d, LcR b R n es ∧ R n d ∧ ds = es ++ [d] else LcR b R n ds := h
    by_cases c : b n = true
    · rw [if_pos c] at h
      obtain ⟨es, e, h1, h2, h3⟩ := h
      rw [h3] at hd
      rcases List.mem_append.mp hd with hd | hd
      · obtain ⟨i, hi, r⟩ := LcR.mem h1 d hd
        exact ⟨i, Nat.lt_succ_of_lt hi, r⟩
      · rw [List.mem_singleton.mp hd]
        exact ⟨n, Nat.lt_succ_self _, h2⟩
    · rw [if_neg c] at h
      obtain ⟨i, hi, r⟩ := LcR.mem h d hd
      exact ⟨i, Nat.lt_succ_of_lt hi, r⟩
/-! ### all sub-lists, as tuples -/
def tupE {β : Type} (e : β → PyData) (x : List β) : PyData := .tuple (x.map e)
def subStep {β : Type} (acc : List (List β)) (x : β) : List (List β) := acc ++ acc.map (· ++ [x])
structure Flat {β : Type} (e : β → PyData) : Prop where
  alike : ∀ a b, PySem.W.alike (e a) (e b) = true
  plain : ∀ a, plainD (e a) = true
  deep : ∀ a, (e a).depth = 0
theorem flat_str : Flat PyData.str := ⟨fun _ _ => rfl, fun _ => rfl, fun _ => rfl⟩
theorem flat_nat : Flat eNat := ⟨fun _ _ => rfl, fun _ => rfl, fun _ => rfl⟩
theorem alike_all {β : Type} {e : β → PyData} (h : ∀ a b, PySem.W.alike (e a) (e b) = true) : ∀ l m : List β, PySem.W.alikeAll (l.map e) (m.map e) = true
  | [], _ => by rw [List.map_nil]; unfold PySem.W.alikeAll; rfl
  | _ :: _, [] => by rw [List.map_nil, List.map_cons]; unfold PySem.W.alikeAll; rfl
  | a :: l, b :: m => by
    rw [List.map_cons, List.map_cons]
    unfold PySem.W.alikeAll
    rw [h a b, alike_all h l m]
    rfl
theorem plain_all {β : Type} {e : β → PyData} (h : ∀ a, plainD (e a) = true) : ∀ l : List β, plainDs (l.map e) = true
  | [] => rfl
  | a :: l => by
    show (plainD (e a) && plainDs (l.map e)) = true
    rw [h a, plain_all h l]
    rfl
theorem deep_all {β : Type} {e : β → PyData} {k : Nat} (h : ∀ a, (e a).depth ≤ k) : ∀ l : List β, PyData.depthAll (l.map e) ≤ k
  | [] => Nat.zero_le _
  | a :: l => by
    show max (e a).depth (PyData.depthAll (l.map e)) ≤ k
    have := h a
    have := deep_all h l
    omega
theorem fam_of {β : Type} {e : β → PyData} (h1 : ∀ a b, PySem.W.alike (e a) (e b) = true) (h2 : ∀ a, plainD (e a) = true) (h3 : ∀ a, (e a).depth ≤ 3) : Fam fun d => ∃ x : List β, d = tupE e x := by
  refine ⟨?_, ?_, ?_, ?_⟩
  · rintro d ⟨x, rfl⟩
    exact ⟨_, rfl⟩
  · rintro d d' ⟨x, rfl⟩ ⟨y, rfl⟩
    show PySem.W.alike (.tuple (x.map e)) (.tuple (y.map e)) = true
    unfold PySem.W.alike
    exact alike_all h1 x y
  · rintro d ⟨x, rfl⟩
    exact plain_all h2 x
  · rintro d ⟨x, rfl⟩
    exact Nat.succ_le_succ (deep_all h3 x)
section
variable {P : Program} {w : World} {K : PySem.W.Frag} {mg : Str → Option Value} {base : Heap} {k : Nat}
theorem sem_subs {β : Type} {e : β → PyData} (fl : Flat e) {B : Bx} {l : List β} {pd : PyData} (hs : SeqD pd (l.map e)) (hl : l.length ≤ 6) {D : Ends} {σ : L2.St} {H : Hp} {n : Nat} {T : Hp → Prop} (u : Up T)
    (q : ∀ v H' rho σ' (ls : List (List β)), ls.length ≤ 64 → (∀ x ∈ ls, x.length ≤ 6 ∧ ∀ y ∈ x, y ∈ l) → Holds B rho [] (AndV B.K T v (.dat (.list (ls.map (tupE e))))) n σ' H' → D.rt v H') (hh : Holds B [.dat pd, .emp, .emp, .emp] [] T n σ H) : t_law_subs B.K D σ H := by
  unfold t_law_subs
  apply p_asgN (s := .dat (.list (([[]] : List (List β)).map (tupE e)))) hh u
  case h => exact ed_fin (ed_lst (ds := [.tuple []]) (ea_one ed_nilT)) rfl rfl
  case hc => rfl
  case k =>
    intro σ1 H1 h1
    apply p_forN (x0 := ([[]] : List (List β))) l e subStep (fun i acc => acc.length ≤ 2 ^ i ∧ ∀ x ∈ acc, x.length ≤ i ∧ ∀ y ∈ x, y ∈ l) (fun acc => [.dat pd, .dat (.list (acc.map (tupE e))), .emp, .emp]) (fun _ => []) h1 u (ew_seq (ed_var rfl) hs) rfl rfl rfl
      ⟨Nat.le_refl _, fun x hx => by rw [List.mem_singleton.mp hx]; exact ⟨Nat.le_refl _, fun y hy => by cases hy⟩⟩
    case turn =>
      intro i b acc T' m N σ' H' v hb inv up h2 next
      have hi : i < l.length := (List.getElem?_eq_some_iff.mp hb).1
      have pw : 2 ^ i ≤ 32 := by
        have : i ≤ 5 := by omega
        exact Nat.le_trans (Nat.pow_le_pow_right (by decide) this) (by decide)
      refine (eg_name (vs := [2]) (i := 2) (by decide)) _ _ _ _ _ _ up h2 _ fun σ2 _ h3 => ?_
      apply p_asg (s := .dat (.list ((subStep acc b).map (tupE e)))) h3 up
      case h =>
        refine ed_fin (ed_op (ed_var rfl) (ed_lc1 acc (tupE e) (fun x => [.dat pd, .dat (.list (acc.map (tupE e))), .dat (e b), .dat (tupE e x)]) (fun x => tupE e (x ++ [b])) (ew_seq (ed_var rfl) (.inl rfl)) (fun x _ => eg_name) (fun _ _ => et_yes)
          (fun x hx => ed_fin (ed_op (ed_var rfl) (ed_tup (ds := [e b]) (ea_one (ed_var rfl))) (os_catT ?_)) rfl ?_) (by omega)) (os_cat ?_)) rfl ?_
        · have := (inv.2 x hx).1
          rw [List.length_map]
          simp only [List.length_cons, List.length_nil]
          omega
        · unfold tupE
          rw [List.map_append]
          rfl
        · rw [List.length_map, List.length_map]
          omega
        · unfold subStep
          rw [List.map_append, List.map_map]
          rfl
      case hc => rfl
      case k =>
        intro σ3 H3 h4
        refine next _ _ ⟨?_, fun x hx => ?_⟩ (h4.less rfl fun i s e => ?_)
        · unfold subStep
          rw [List.length_append, List.length_map, Nat.pow_succ]
          have := inv.1
          omega
        · unfold subStep at hx
          rcases List.mem_append.mp hx with hx | hx
          · exact ⟨Nat.le_succ_of_le (inv.2 x hx).1, (inv.2 x hx).2⟩
          · obtain ⟨z, hz, ez⟩ := List.mem_map.mp hx
            subst ez
            refine ⟨by rw [List.length_append]; exact Nat.succ_le_succ (inv.2 z hz).1, fun y hy => ?_⟩
            rcases List.mem_append.mp hy with hy | hy
            · exact (inv.2 z hz).2 y hy
            · rw [List.mem_singleton.mp hy]
              exact List.mem_of_getElem? hb
        · match i with
          | 0 | 1 => exact .inr e
          | 2 | 3 => exact .inl (Option.some.inj e).symm
          | i + 4 => exact .inr e
    case done =>
      intro σ2 H2 inv h2
      generalize l.foldl subStep [[]] = acc at inv h2
      refine s_ret (c := 0) h2 u (er_fin (c1 := 0) (ed_cb (ea_one (ed_var rfl)) (cl_sortT (fam_of fl.alike fl.plain fun a => by rw [fl.deep a]; exact Nat.zero_le _) fun d hd => ?_)) rfl fun s e => e) fun v s H' ⟨es, e1, e2⟩ h3 => ?_
      · obtain ⟨x, _, e⟩ := List.mem_map.mp hd
        exact ⟨x, e.symm⟩
      · subst e2
        have back : ∀ {ds : List PyData} {acc : List (List β)}, (∀ d ∈ ds, ∃ x ∈ acc, d = tupE e x) → ∃ ls : List (List β), ds = ls.map (tupE e) ∧ ∀ x ∈ ls, x ∈ acc := by
          intro ds acc
          induction ds with
          | nil => intro _; exact ⟨[], rfl, fun x hx => (by cases hx)⟩
          | cons d ds ih =>
            intro h
            obtain ⟨ls, l1, l2⟩ := ih fun z hz => h z (List.mem_cons_of_mem _ hz)
            obtain ⟨x, hx, ex⟩ := h d List.mem_cons_self
            refine ⟨x :: ls, by rw [List.map_cons, ← l1, ex], fun y hy => ?_⟩
            rcases List.mem_cons.mp hy with z | hy
            · rw [z]; exact hx
            · exact l2 y hy
        obtain ⟨ls, l1, l2⟩ := back (ds := es) (acc := acc) fun d hd => by
          obtain ⟨x, hx, ex⟩ := List.mem_map.mp (e1.mem_iff.mp hd)
          exact ⟨x, hx, ex.symm⟩
        subst l1
        refine q v H' _ _ ls ?_ (fun x hx => ⟨Nat.le_trans (inv.2 x (l2 x hx)).1 hl, (inv.2 x (l2 x hx)).2⟩) h3
        have z := e1.length_eq
        rw [List.length_map, List.length_map] at z
        have := inv.1
        have : 2 ^ l.length ≤ 64 := Nat.le_trans (Nat.pow_le_pow_right (by decide) hl) (by decide)
        omega
abbrev sp_law_subs (K : PySem.W.Frag) : Sp := spP K (fun l : List Nat => [.list (l.map eNat)]) (fun l => l.length ≤ 6) (fun l d => ∃ ls : List (List Nat), ls.length ≤ 64 ∧ (∀ x ∈ ls, x.length ≤ 6 ∧ ∀ y ∈ x, y ∈ l) ∧ d = .list (ls.map eNats))
theorem df_law_subs (A : At K mg "_law_subs" 30) (g : G0 K mg) : Df P w K mg base CX0 (k + 1) "_law_subs" ["_law_some_so"] (sp_law_subs K) := by
  refine df_pure A sc_law_subs (fun _ => rfl) (by decide) (fun _ _ _ _ _ _ us hl => match us, hl with | [_], _ => rfl) fun f cdv A outer s H E C a hr ha => ⟨t_law_subs K, ps_law_subs g hr, fun D σ q hh => ?_⟩
  exact sem_subs flat_nat (B := ⟨K, none, C, H⟩) (.inl rfl) ha Up.tt (fun v H' rho σ' ls h1 h2 h3 => q v _ H' rho [] _ _ σ' ⟨ls, h1, h2, rfl⟩ h3) hh
abbrev sp_law_spots (K : PySem.W.Frag) : Sp := spP K (fun l : List Str => [eNames l]) (fun l => l.length ≤ 6) (fun l d => ∃ ls : List Spot, ls.length ≤ 64 ∧ (∀ x ∈ ls, x.length ≤ 6 ∧ ∀ y ∈ x, y ∈ l) ∧ d = .list (ls.map eSpot))
theorem df_law_spots (A : At K mg "_law_spots" 31) (g : G0 K mg) : Df P w K mg base CX0 (k + 1) "_law_spots" ["_law_areas_so"] (sp_law_spots K) := by
  refine df_pure A sc_law_spots (fun _ => rfl) (by decide) (fun _ _ _ _ _ _ us hl => match us, hl with | [_], _ => rfl) fun f cdv A outer s H E C a hr ha => ⟨t_law_spots K, ps_law_spots g hr, fun D σ q hh => ?_⟩
  exact sem_subs flat_str (B := ⟨K, none, C, H⟩) (.inr rfl) ha Up.tt (fun v H' rho σ' ls h1 h2 h3 => q v _ H' rho [] _ _ σ' ⟨ls, h1, h2, rfl⟩ h3) hh
/-! ### _law_let -/
abbrev sp_law_let (K : PySem.W.Frag) : Sp := spP K (fun a : List Str × Cut => [.tuple [eNames a.1, eCut a.2]]) (fun a => a.1.length ≤ 6 ∧ cutOk a.2 = true) (fun a d => ∃ ls : List Spot, ls.length ≤ 64 ∧ (∀ x ∈ ls, x.length ≤ 6 ∧ ∀ y ∈ x, y ∈ a.1) ∧ d = .list (ls.map eSpot))
theorem df_law_let (A : At K mg "_law_let" 33) (g : G0 K mg) (D1 : Df P w K mg base CX0 k "_law_spots" ["_law_areas_so"] (sp_law_spots K)) (D2 : Df P w K mg base CX0 k "_law_in" ["_law_spot_so", "_law_cut_so"] (sp_law_in K)) : Df P w K mg base CX0 (k + 1) "_law_let" ["_law_chart_so"] (sp_law_let K) := by
  refine df_pure A sc_law_let (fun _ => rfl) (by decide) (fun _ _ _ _ _ _ us hl => match us, hl with | [_], _ => rfl) fun f cdv A outer s H E C a hr ha => ⟨t_law_let K (sp_law_spots K) (sp_law_in K), ps_law_let g D1 D2 hr, fun D σ q hh => ?_⟩
  obtain ⟨nm, cu⟩ := a
  obtain ⟨h6, hcu⟩ := ha
  unfold t_law_let
  have ev : EvR ⟨K, none, C, H⟩ 0 (tLc (iSeq K (tCall (sp_law_spots K) [] E0 (tCons (tOp (rIx K) (tVar 0) (tC (.int 0))) tNil))) (gName 1) (tNot (tB (tCall (sp_law_in K) [] E0 (tCons (tVar 1) (tCons (tOp (rIx K) (tVar 0) (tC (.int 1))) tNil))))) (tVar 1) [1]) [.dat (.tuple [eNames nm, eCut cu]), .emp]
      (fun s => ∃ ls : List Spot, ls.length ≤ 64 ∧ (∀ x ∈ ls, x.length ≤ 6 ∧ ∀ y ∈ x, y ∈ nm) ∧ s = .dat (.list (ls.map eSpot))) := by
    have e0 : EvR ⟨K, none, C, H⟩ 0 (tCall (sp_law_spots K) [] E0 (tCons (tOp (rIx K) (tVar 0) (tC (.int 0))) tNil)) [.dat (.tuple [eNames nm, eCut cu]), .emp] (fun s => ∃ d ds, (∃ ls : List Spot, ls.length ≤ 64 ∧ (∀ x ∈ ls, x.length ≤ 6 ∧ ∀ y ∈ x, y ∈ nm) ∧ ds = ls.map eSpot) ∧ SeqD d ds ∧ s = .dat d) :=
      er_fin (er_call (B := ⟨K, none, C, H⟩) nm (ea_one (ed_op (ed_var rfl) ed_int (os_ix0 (.inr rfl)))) h6) rfl fun s ⟨d, ⟨ls, l1, l2, e⟩, es⟩ => ⟨d, _, ⟨ls, l1, l2, rfl⟩, by rw [e]; exact .inl rfl, es⟩
    have cell : ∀ (L : List PyData) (i : Nat) (d : PyData), (∃ ls : List Spot, ls.length ≤ 64 ∧ (∀ x ∈ ls, x.length ≤ 6 ∧ ∀ y ∈ x, y ∈ nm) ∧ L = ls.map eSpot) → L[i]? = some d → ∃ sp : Spot, d = eSpot sp ∧ sp.length ≤ 6 ∧ ∀ y ∈ sp, y ∈ nm := by
      intro L i d ⟨ls, l1, l2, e⟩ hd
      rw [e, List.getElem?_map] at hd
      obtain ⟨x, hx, ex⟩ := Option.map_eq_some_iff.mp hd
      exact ⟨x, ex.symm, l2 x (List.mem_of_getElem? hx)⟩
    refine er_fin (er_lc (B := ⟨K, none, C, H⟩) (cT := 0) (cE := 0) (cN := 0) (ew_seqR e0) (fun L i d => [.dat (.tuple [eNames nm, eCut cu]), .dat d]) (fun L i => match L[i]? with | some (.tuple l) => !isInM (l.filterMap fun x => match x with | .str y => some y | _ => none) cu | _ => false) (fun L i d => L[i]? = some d)
      (fun L i d hL hd => eg_name) (fun L i d hL hd => ?_) (fun L i d hL hd hb => (ed_var rfl).imp fun s e => ⟨d, hd, e⟩) (fun L hL => ?_)) rfl fun s ⟨L, ds, hL, hR, es⟩ => ?_
    · obtain ⟨sp, e, hsp⟩ := cell L i d hL hd
      rw [hd, e]
      refine et_fin (et_not (et_val (ed_call (sp, cu) (ea_cons (ed_var rfl) (ea_one (ed_op (ed_var rfl) ed_int (os_ix (.inr rfl) rfl)))) hcu))) rfl ?_
      show (!isInM sp cu) = !isInM ((sp.map PyData.str).filterMap _) cu
      rw [List.filterMap_map]
      congr 2
      exact List.filterMap_some.symm
    · obtain ⟨ls, l1, _, e⟩ := hL
      rw [e, List.length_map]
      exact ⟨by omega, by omega⟩
    · subst es
      have ll : L.length ≤ 64 := by
        obtain ⟨ls, l1, _, e⟩ := hL
        rw [e, List.length_map]
        exact l1
      have len := hR.len
      have all := hR.mem
      have back : ∀ {ds : List PyData}, (∀ d ∈ ds, ∃ sp : Spot, d = eSpot sp ∧ sp.length ≤ 6 ∧ ∀ y ∈ sp, y ∈ nm) → ∃ ls : List Spot, ds = ls.map eSpot ∧ ∀ x ∈ ls, x.length ≤ 6 ∧ ∀ y ∈ x, y ∈ nm := by
        intro ds
        induction ds with
        | nil => intro _; exact ⟨[], rfl, fun x hx => (by cases hx)⟩
        | cons d ds ih =>
          intro h
          obtain ⟨ls, l1, l2⟩ := ih fun z hz => h z (List.mem_cons_of_mem _ hz)
          obtain ⟨x, ex, hx⟩ := h d List.mem_cons_self
          refine ⟨x :: ls, by rw [List.map_cons, ← l1, ex], fun y hy => ?_⟩
          rcases List.mem_cons.mp hy with z | hy
          · rw [z]; exact hx
          · exact l2 y hy
      obtain ⟨ls, l1, l2⟩ := back (ds := ds) fun d hd => by
        obtain ⟨i, _, hi⟩ := all d hd
        exact cell L i d hL hi
      subst l1
      rw [List.length_map] at len
      exact ⟨ls, by omega, l2, rfl⟩
  refine s_ret (c := 0) hh Up.tt ev fun v s H' ⟨ls, l1, l2, es⟩ h3 => ?_
  subst es
  exact q v _ H' _ _ _ _ σ ⟨ls, l1, l2, rfl⟩ h3
end
end K30
set_option Elab.async false
set_option linter.all false
set_option maxRecDepth 100000
set_option maxHeartbeats 1000000
namespace K30
open PySem PySem.Spec PyProof.Rows L2
/-! ### whole numbers read off a state as it is -/
def Iv (te : TE) (σ : L2.St) (H : Hp) (i : Int) : Prop := ∀ Q : VK, Q (.int i) H → te σ H Q
section
variable {K : PySem.W.Frag} {σ : L2.St} {H : Hp} {ta tb te : TE} {i j : Int} {D : Ends} {t2 : TS} {b : Addr}
theorem iv_c : Iv (tC (.int i)) σ H i := fun Q q => q
theorem iv_var {k : Nat} (h : σ[k]? = some (some (.int i))) : Iv (tVar k) σ H i := fun Q q => ⟨_, h, q⟩
theorem iv_op0 {f : Int → Int → Int} (h1 : Iv ta σ H i) (h2 : Iv tb σ H j) : Iv (tOp (rI0 fun i j => .int (f i j)) ta tb) σ H (f i j) := fun Q q => h1 _ (h2 _ ⟨i, j, rfl, rfl, q⟩)
theorem iv_opC {f : Int → Int → Int} {C : Int → Int → Prop} (h1 : Iv ta σ H i) (h2 : Iv tb σ H j) (hc : C i j) : Iv (tOp (rI C fun i j => .int (f i j)) ta tb) σ H (f i j) := fun Q q => h1 _ (h2 _ ⟨i, j, rfl, rfl, hc, q⟩)
theorem iv_int (h : Iv ta σ H i) : Iv (tCB rIntOf (tCons ta tNil)) σ H i := fun Q q => h _ (.inl ⟨i, rfl, q⟩)
theorem iv_ix {xs : List V} (h0 : σ[0]? = some (some (.ref b))) (hb : H b = some (.lst xs)) (hv : atI xs i = some (.int j)) : Iv (tOp (rIx K) (tVar 0) (tC (.int i))) σ H j := fun Q q => ⟨_, h0, .inl ⟨b, xs, i, _, rfl, rfl, SqL.of hb, hv, q⟩⟩
theorem iv_asg {k : Nat} (h : Iv te σ H i) (q : t2 D (σ.set k (some (.int i))) H) : tSeq (tAsg te (gName k)) t2 D σ H := h _ q
theorem iv_put {xs : List V} {n : Nat} (h0 : σ[0]? = some (some (.ref b))) (hb : H b = some (.lst xs)) (h : Iv te σ H i) (hn : ixN xs.length j = some n) (q : t2 D σ (upd H b (.lst (xs.set n (.int i))))) : tSeq (tAsg te (gSub (tVar 0) (tC (.int j)) rSetL)) t2 D σ H :=
  h _ ⟨_, h0, b, xs, j, n, rfl, rfl, hb, hn, q⟩
theorem nextSeq (h : t2 D σ H) : tNext { D with nx := t2 D } σ H := h
theorem iv_ret (h : Iv te σ H i) (q : D.rt (.int i) H) : tRet te D σ H := h _ q
end
section
variable {P : Program} {w : World} {K : PySem.W.Frag} {mg : Str → Option Value} {base : Heap} {k : Nat}
/-! ### _law_take -/
abbrev sp_law_take (K : PySem.W.Frag) : Sp := spB K 1 (fun n : Nat => [.int (n : Int)]) (fun n => 0 < n ∧ n ≤ 1000) (fun n d => ∃ r : Nat, r < n ∧ d = .int (r : Int))
theorem df_law_take (A : At K mg "_law_take" 25) (g : G0 K mg) : Df P w K mg base CX0 (k + 1) "_law_take" ["_law_box_here", "_law_below_so"] (sp_law_take K) := by
  obtain ⟨f, fd, af, F⟩ := A
  refine ⟨f, fd, af, ?_, F.kp, F.bindsN (fun _ _ _ _ _ _ us hl => match us, hl with | [_, _], _ => rfl), look_of F⟩
  refine F.ok sc_law_take (fun vs H Q E h => ?_) (fun cdv A outer s H vs Q E hr h => ⟨t_law_take K, PSs.nox (ps_law_take g hr), ?_⟩)
  · obtain ⟨C, a, b, ws, n, rfl, _, _, _, h2, _⟩ := h
    rw [List.length_cons, h2.length]
    rfl
  obtain ⟨C, m, b, ws, n, rfl, h1, hcb, ⟨x, y, z, hb, hz1, hz2⟩, h2, ⟨m1, m2⟩, q⟩ := h
  have e : ws = [.int (m : Int)] := by
    cases h2 with
    | cons a b =>
      cases a
      cases b
      rfl
  subst e
  have fin : ∀ (r : Int) (o : HO), (∃ x y z : Int, o = .lst [.int x, .int y, .int z] ∧ 0 ≤ z ∧ z + n ≤ 4611686018427387904) → Q (.int (r % (m : Int))) (upd H b o) := by
    intro r o ⟨x', y', z', eo, e1, e2⟩
    have p1 : 0 ≤ r % (m : Int) := Int.emod_nonneg _ (by omega)
    have p2 : r % (m : Int) < m := Int.emod_lt_of_pos _ (by omega)
    refine q _ C _ (.int (r % (m : Int))) (fun a o' hne ho => by rw [upd_ne hne]; exact ho) ⟨x', y', z', by rw [upd_same, eo], e1, e2⟩ (Same.refl C) (fun a o' ho => ?_) (fun _ _ _ => rfl) ⟨(r % (m : Int)).toNat, by omega, by rw [Int.toNat_of_nonneg p1]⟩ (.int _)
    have ne : a ≠ b := fun e => by rw [e, hcb] at ho; cases ho
    rw [upd_ne ne]
    exact h1 _ _ ho
  unfold t_law_take
  have s0 : L2.start ["_law_box_here", "_law_below_so", "_law_once", "_law_far", "_law_twice", "_law_drawn"] [V.ref b, .int (m : Int)] = [some (.ref b), some (.int (m : Int)), none, none, none, none] := rfl
  rw [s0]
  have t0 : ∀ Q' : Bool → Hp → Prop, Q' (decide (0 < x)) H → tTest (tOp (rI0 fun i j => .bl (decide (j < i))) (tOp (rIx K) (tVar 0) (tC (.int 0))) (tC (.int 0))) [some (.ref b), some (.int (m : Int)), none, none, none, none] H Q' :=
    fun Q' q' => (iv_ix (j := x) rfl hb rfl) _ ⟨x, 0, rfl, rfl, decide (0 < x), rfl, q'⟩
  refine s_seq (t0 _ ?_)
  by_cases hx : 0 < x
  · refine if_pos (decide_eq_true hx) ▸ ?_
    refine iv_asg (iv_opC (f := fun i j => i % j) (iv_int (iv_ix (j := x) rfl hb rfl)) (iv_var (i := (m : Int)) rfl) (by omega)) ?_
    refine iv_put rfl hb (iv_opC (f := fun i j => i / j) (iv_ix (j := x) rfl hb rfl) (iv_var (i := (m : Int)) rfl) (by unfold CDiv; omega)) (n := 0) rfl ?_
    exact iv_ret (iv_var rfl) (fin x _ ⟨_, _, _, rfl, hz1, by omega⟩)
  · refine if_neg (show ¬ decide (0 < x) = true from by simpa using hx) ▸ ?_
    refine nextSeq ?_
    refine iv_put rfl hb (iv_op0 (f := fun i j => i + j) (iv_ix (j := z) rfl hb rfl) iv_c) (n := 2) rfl ?_
    have hb2 : upd H b (.lst [.int x, .int y, .int (z + 1)]) b = some (.lst [.int x, .int y, .int (z + 1)]) := upd_same
    show tSeq _ _ _ _ (upd H b (.lst [.int x, .int y, .int (z + 1)]))
    refine iv_asg (iv_opC (f := fun i j => i % j) (iv_int (iv_opC (f := fun i j => i * j) (iv_op0 (f := fun i j => i + j) (iv_ix (j := y) rfl hb2 rfl) (iv_opC (f := fun i j => i * j) iv_c (iv_ix (j := z + 1) rfl hb2 rfl) (.inl ⟨by decide, by decide⟩))) (iv_op0 (f := fun i j => i + j) iv_c (iv_ix (j := z + 1) rfl hb2 rfl)) (.inr ⟨by omega, by omega⟩))) iv_c (by decide)) ?_
    generalize (y + 48271 * (z + 1)) * (39373 + (z + 1)) % 2147483647 = once
    refine iv_asg (iv_op0 (f := fun i j => i + j) (iv_opC (f := fun i j => i % j) (iv_int (iv_var (i := once) rfl)) iv_c (by decide)) iv_c) ?_
    have hf : 0 ≤ once % 40009 + 7 ∧ once % 40009 + 7 < 100000 := by omega
    generalize once % 40009 + 7 = far at hf
    refine iv_asg (iv_opC (f := fun i j => i % j) (iv_int (iv_opC (f := fun i j => i * j) (iv_op0 (f := fun i j => i + j) (iv_op0 (f := fun i j => i + j) (iv_var (i := once) rfl) (iv_ix (j := z + 1) rfl hb2 rfl)) (iv_opC (f := fun i j => i / j) (iv_ix (j := y) rfl hb2 rfl) iv_c (by unfold CDiv; omega))) (iv_var (i := far) rfl) (.inr ⟨by omega, by omega⟩))) iv_c (by decide)) ?_
    generalize (once + (z + 1) + y / 1000003) * far % 2147483629 = twice
    refine iv_ret (iv_opC (f := fun i j => i % j) (iv_int (iv_opC (f := fun i j => i / j) (iv_opC (f := fun i j => i % j) (iv_int (iv_op0 (f := fun i j => i + j) (iv_opC (f := fun i j => i * j) (iv_var (i := twice) rfl) iv_c (.inr ⟨by decide, by decide⟩)) (iv_var (i := once) rfl))) iv_c (by decide)) iv_c (by unfold CDiv; omega))) (iv_var (i := (m : Int)) rfl) (by omega)) ?_
    exact fin _ _ ⟨_, _, _, rfl, by omega, by omega⟩
end
end K30
set_option Elab.async false
set_option linter.all false
set_option maxRecDepth 100000
set_option maxHeartbeats 1000000
namespace K30
open PySem PySem.Spec PyProof.Rows L2
section
variable {B : Bx} {rho rho' : List Sl} {mu : List (Addr × List PyData)} {T : Hp → Prop} {n c c1 c2 m : Nat} {σ : L2.St} {H : Hp} {te ta tb : TE} {tt : TT} {tA : TA} {D : Ends} {S S1 S2 : Sl → Prop} {s s1 s2 : Sl} {t1 t2 : TS}
theorem s_asgN {i : Nat} (hh : Holds B rho mu T m σ H) (u : Up T) (h : EvR B c te rho S) (hm : n + c ≤ m) (k : ∀ s σ' H', S s → Holds B (rho.set i s) mu T n σ' H' → t2 D σ' H') : tSeq (tAsg te (gName i)) t2 D σ H := s_seq (s_asg (hh.le hm) u h k)
theorem s_retL (hh : Holds B rho mu T m σ H) (u : Up T) (h : EvR B c te rho S) (hm : n + c ≤ m) (k : ∀ v s H', S s → Holds B rho mu (AndV B.K T v s) n σ H' → D.rt v H') : tRet te D σ H := s_ret (hh.le hm) u h k
theorem s_ifN {b : Bool} (hh : Holds B rho mu T m σ H) (u : Up T) (h : EvT B c tt rho b) (hm : n + c ≤ m) (k1 : b = true → ∀ H', Holds B rho mu T n σ H' → t1 { D with nx := t2 D } σ H') (k2 : b = false → ∀ H', Holds B rho mu T n σ H' → t2 D σ H') : tSeq (tIfS tt t1 tNext) t2 D σ H := s_seq (s_if (hh.le hm) u h k1 k2)
/-- calls whose arguments are told by a set -/
theorem er_callR {α : Type} {enc : α → List PyData} {ok : α → Prop} {res : α → PyData → Prop} {E : XK} {SA : List Sl → Prop} (h : EvA B c tA rho SA) (hp : ∀ ss, SA ss → ∃ a, ss = (enc a).map .dat ∧ ok a) : EvR B c (tCall (spP B.K enc ok res) [] E tA) rho (fun s => ∃ a d, SA ((enc a).map .dat) ∧ ok a ∧ res a d ∧ s = .dat d) := fun mu T n σ H u hh Q q =>
  h mu T n σ H u hh _ fun vs H1 ss e h1 => by
    obtain ⟨a, ea, oka⟩ := hp ss e
    subst ea
    obtain ⟨C, x, b, hv⟩ := h1
    exact ⟨C, a, x.sub, by rw [List.append_nil]; exact VlAll.dats hv, oka, fun v C' H' d z1 z2 z3 z4 hd hv' => q v H' (.dat d) ⟨a, d, e, oka, hd, rfl⟩ ⟨C', x.ext z1 z2 z3 z4, u _ _ z2 b, hv'⟩⟩
theorem er_callBR {α : Type} {cost : Nat} {enc : α → List PyData} {ok : α → Prop} {res : α → PyData → Prop} {E : XK} {b : Addr} {SA : List Sl → Prop} (hb : IsBox B b) (h : EvA B c tA rho SA) (hp : ∀ ss, SA ss → ∃ a, ss = .adr b :: (enc a).map .dat ∧ ok a) :
    EvR B (c + cost) (tCall (spB B.K cost enc ok res) [] E tA) rho (fun s => ∃ a d, SA (.adr b :: (enc a).map .dat) ∧ ok a ∧ res a d ∧ s = .dat d) := fun mu T n σ H u hh Q q =>
  h mu T (n + cost) σ H u (hh.le (by omega)) _ fun vs H1 ss e h1 => by
    obtain ⟨a, ea, oka⟩ := hp ss e
    subst ea
    obtain ⟨C, x, t, hv⟩ := h1
    cases hv with
    | @cons v ws _ _ hv1 hws =>
      have hv1 : v = .ref b := hv1
      subst hv1
      obtain ⟨g1, g2⟩ := x.box b hb.1
      exact ⟨C, a, b, ws, n, by rw [List.append_nil], x.sub, g1, g2.is hb.2, VlAll.dats hws, oka, fun v C' H' d z1 hx z2 z3 z4 hd hv' => q v H' (.dat d) ⟨a, d, e, oka, hd, rfl⟩ ⟨C', x.extB hb.1 z1 (hx.to hb.2) z2 z3 z4, u _ _ z2 t, hv'⟩⟩
theorem back {β : Type} {e : β → PyData} {Pr : β → Prop} : ∀ {ds : List PyData}, (∀ d ∈ ds, ∃ x, Pr x ∧ d = e x) → ∃ ls : List β, ds = ls.map e ∧ ∀ x ∈ ls, Pr x
  | [], _ => ⟨[], rfl, fun x hx => (by cases hx)⟩
  | d :: ds, h => by
    obtain ⟨ls, l1, l2⟩ := back (ds := ds) fun z hz => h z (List.mem_cons_of_mem _ hz)
    obtain ⟨x, hx, ex⟩ := h d List.mem_cons_self
    refine ⟨x :: ls, by rw [List.map_cons, ← l1, ex], fun y hy => ?_⟩
    rcases List.mem_cons.mp hy with z | hy
    · rw [z]; exact hx
    · exact l2 y hy
theorem er_le (h : EvR B c te rho S) (k : c ≤ c1) : EvR B c1 te rho S := h.le k
end
def goodCond (x : Cond) : Prop := x.length ≤ 5 ∧ ∀ p ∈ x, PyData.strOk p.1 = true
def goodCut (c : Cut) : Prop := c.length ≤ 3 ∧ ∀ x ∈ c, goodCond x
theorem goodCut.ok {c : Cut} (h : goodCut c) : cutOk c = true := by
  unfold cutOk
  rw [Bool.and_eq_true]
  refine ⟨decide_eq_true (by have := h.1; omega), List.all_eq_true.mpr fun x hx => ?_⟩
  unfold condOk
  rw [Bool.and_eq_true]
  exact ⟨decide_eq_true (by have := (h.2 x hx).1; omega), List.all_eq_true.mpr (h.2 x hx).2⟩
def goodNames (l : List Str) : Prop := l.length ≤ 5 ∧ ∀ x ∈ l, PyData.strOk x = true
section
variable {P : Program} {w : World} {K : PySem.W.Frag} {mg : Str → Option Value} {base : Heap} {k : Nat}
/-! ### _law_of -/
abbrev sp_law_of (K : PySem.W.Frag) : Sp := spB K 1 (fun a : PyData × List PyData => [a.1]) (fun a => SeqD a.1 a.2 ∧ 0 < a.2.length ∧ a.2.length ≤ 1000) (fun a d => d ∈ a.2)
theorem df_law_of (A : At K mg "_law_of" 29) (g : G0 K mg) (D1 : Df P w K mg base CX0 k "_law_take" ["_law_box_here", "_law_below_so"] (sp_law_take K)) : Df P w K mg base CX0 (k + 1) "_law_of" ["_law_box_here", "_law_pool_so"] (sp_law_of K) := by
  refine df_box A sc_law_of (fun _ => rfl) (by decide) (fun _ _ _ _ _ _ us hl => match us, hl with | [_, _], _ => rfl) fun f cdv A outer s H E C a b nk hr ha => ⟨t_law_of K (sp_law_take K), ps_law_of g D1 hr, fun n D σ q hh => ?_⟩
  obtain ⟨pd, ds⟩ := a
  obtain ⟨h1, h2, h3⟩ := ha
  have hb : IsBox ⟨K, some b, C, H⟩ b := ⟨rfl, nk⟩
  unfold t_law_of
  have hh : Holds ⟨K, some b, C, H⟩ [.adr b, .dat pd] [] (fun _ => True) (n + 1) σ H := hh
  have ev : EvR ⟨K, some b, C, H⟩ 1 (tOp (rIx K) (tVar 1) (tCall (sp_law_take K) [] E0 (tCons (tVar 0) (tCons (tCB (rLenOf K) (tCons (tVar 1) tNil)) tNil)))) [.adr b, .dat pd] (fun s => ∃ d ∈ ds, s = .dat d) := by
    have len : EvD ⟨K, some b, C, H⟩ 0 (tCB (rLenOf K) (tCons (tVar 1) tNil)) [.adr b, .dat pd] (.dat (.int (ds.length : Int))) := er_fin (ed_cb (B := ⟨K, some b, C, H⟩) (ea_one (ed_var rfl)) (cl_len h1)) rfl fun _ e => e
    have cal := er_callB (B := ⟨K, some b, C, H⟩) (res := fun (n : Nat) d => ∃ r : Nat, r < n ∧ d = .int (r : Int)) (E := E0) (cost := 1) (enc := fun n : Nat => [.int (n : Int)]) (ok := fun n => 0 < n ∧ n ≤ 1000) hb ds.length (ea_cons (ed_var (i := 0) rfl) (ea_one len)) ⟨h2, h3⟩
    refine er_fin (er_op (ed_var (i := 1) rfl) cal fun x y e1 e2 => ?_) rfl fun _ e => e
    have e1 : x = .dat pd := e1
    subst e1
    obtain ⟨d, ⟨r, hr, ed⟩, ey⟩ := e2
    subst ed ey
    have he : ds[r]? = some ds[r] := List.getElem?_eq_getElem hr
    exact fun rho mu T n σ H x y u hh Q q => os_ix h1 (atI_nat he) rho mu T n σ H x y u hh Q fun v H' s e h' => q v H' s ⟨ds[r], List.getElem_mem hr, e⟩ h'
  refine s_retL hh Up.tt ev (Nat.le_refl _) fun v s H' ⟨d, hd, e⟩ h' => ?_
  subst e
  exact q v d H' _ _ _ σ hd h'
/-! ### _law_clause -/
def eWay (p : Str × Nat) : PyData := .tuple [.str p.1, .int (p.2 : Int)]
abbrev sp_law_clause (K : PySem.W.Frag) : Sp := spB K 5 (fun a : PyData × List Str => [a.1]) (fun a => SeqD a.1 (a.2.map .str) ∧ goodNames a.2) (fun a d => ∃ x : Cond, goodCond x ∧ d = eCond x)
theorem df_law_clause (A : At K mg "_law_clause" 34) (g : G0 K mg) (D1 : Df P w K mg base CX0 k "_law_take" ["_law_box_here", "_law_below_so"] (sp_law_take K)) : Df P w K mg base CX0 (k + 1) "_law_clause" ["_law_box_here", "_law_areas_so"] (sp_law_clause K) := by
  refine df_box A sc_law_clause (fun _ => rfl) (by decide) (fun _ _ _ _ _ _ us hl => match us, hl with | [_, _], _ => rfl) fun f cdv A outer s H E C a b nk hr ha => ⟨t_law_clause K (sp_law_take K), ps_law_clause g D1 hr, fun n D σ q hh => ?_⟩
  obtain ⟨pd, nm⟩ := a
  obtain ⟨h1, h2, h3⟩ := ha
  have hb : IsBox ⟨K, some b, C, H⟩ b := ⟨rfl, nk⟩
  unfold t_law_clause
  have hh : Holds ⟨K, some b, C, H⟩ [.adr b, .dat pd, .emp, .emp, .emp] [] (fun _ => True) (n + 5) σ H := hh
  have ev := er_lc (B := ⟨K, some b, C, H⟩) (rho := [.adr b, .dat pd, .emp, .emp, .emp]) (vs := [3]) (g := gName 3) (tt := tYes) (te := tTup (tCons (tVar 3) (tCons (tCall (sp_law_take K) [] E0 (tCons (tVar 0) (tCons (tC (.int 4)) tNil))) tNil))) (cT := 0) (cE := 1) (cN := 5) (ew_seq (ed_var (i := 1) rfl) h1)
    (fun L i d => [.adr b, .dat pd, .emp, .dat d, .emp]) (fun L i => true) (fun L i e => ∃ x ∈ nm, ∃ r : Nat, L[i]? = some (.str x) ∧ e = eWay (x, r)) (fun L i d hL hd => eg_name) (fun L i d hL hd => et_yes) (fun L i d hL hd _ => ?_) (fun L hL => ?_)
  · refine s_asgN (n := n) hh Up.tt ev (by omega) fun s σ1 H1 ⟨L, ds, hL, hR, es⟩ h4 => ?_
    subst es
    have hL : L = nm.map .str := hL
    obtain ⟨ws, w1, w2⟩ := back (e := eWay) (Pr := fun p => p.1 ∈ nm) (ds := ds) fun d hd => by
      obtain ⟨i, _, x, hx, r, _, e⟩ := hR.mem d hd
      exact ⟨(x, r), hx, e⟩
    subst w1
    have lw : ws.length ≤ 5 := by
      have z := hR.len
      rw [List.length_map, hL, List.length_map] at z
      have h2 : nm.length ≤ 5 := h2
      omega
    have h4 : Holds ⟨K, some b, C, H⟩ [.adr b, .dat pd, .dat (.list (ws.map eWay)), .emp, .emp] [] (fun _ => True) n σ1 H1 := h4
    have fin : EvD ⟨K, some b, C, H⟩ 0 (tCB (rTupleOf K) (tCons (tLc (iSeq K (tVar 2)) (gTup K 2 (gCons (gName 3) (gCons (gName 4) gNil))) (tTest (tOp (rI0 fun i j => .bl (decide (i < j))) (tVar 4) (tC (.int 2)))) (tTup (tCons (tVar 3) (tCons (tOp rEq (tVar 4) (tC (.int 1))) tNil))) [3, 4]) tNil)) [.adr b, .dat pd, .dat (.list (ws.map eWay)), .emp, .emp]
        (.dat (eCond ((ws.filter fun p => decide ((p.2 : Int) < 2)).map fun p => (p.1, decide ((p.2 : Int) = 1))))) := by
      refine er_fin (ed_cb (B := ⟨K, some b, C, H⟩) (ea_one (ed_lc ws eWay (fun p => [.adr b, .dat pd, .dat (.list (ws.map eWay)), .dat (.str p.1), .dat (.int (p.2 : Int))]) (fun p => decide ((p.2 : Int) < 2)) (fun p => ePair (p.1, decide ((p.2 : Int) = 1))) (ew_seq (ed_var rfl) (.inl rfl)) (fun p _ => eg_tup (egs_cons eg_name (egs_cons eg_name egs_nil)))
        (fun p _ => et_fin (et_test (ed_op (ed_var rfl) ed_int os_lt)) rfl rfl) (fun p _ _ => ed_fin (ed_tup (ds := [.str p.1, .bool (decide ((p.2 : Int) = 1))]) (ea_cons (ed_var rfl) (ea_one (ed_op (ed_var rfl) ed_int os_eqI)))) rfl rfl) (by omega))) (cl_tuple (.inl rfl))) rfl fun _ e => ?_
      rw [e]
      unfold eCond
      rw [List.map_map]
      rfl
    refine s_retL (c := 0) h4 Up.tt fin (Nat.le_refl _) fun v s H' e h' => ?_
    have e' := e
    subst e'
    refine q v _ H' _ _ _ σ1 ⟨_, ⟨?_, fun p hp => ?_⟩, rfl⟩ h'
    · rw [List.length_map]
      exact Nat.le_trans (List.length_filter_le ..) lw
    · obtain ⟨z, hz, ez⟩ := List.mem_map.mp hp
      rw [← ez]
      exact h3 _ (w2 z (List.mem_filter.mp hz).1)
  · have hL : L = nm.map .str := hL
    rw [hL, List.getElem?_map] at hd
    obtain ⟨x, hx, ex⟩ := Option.map_eq_some_iff.mp hd
    subst ex
    have cal := er_callB (B := ⟨K, some b, C, H⟩) (rho := [.adr b, .dat pd, .emp, .dat (.str x), .emp]) (res := fun (n : Nat) d => ∃ r : Nat, r < n ∧ d = .int (r : Int)) (E := E0) (cost := 1) (enc := fun n : Nat => [.int (n : Int)]) (ok := fun n => 0 < n ∧ n ≤ 1000) hb 4 (ea_cons (ed_var (i := 0) rfl) (ea_one ed_int)) ⟨by decide, by decide⟩
    refine er_fin (er_tup (S' := fun l => ∃ r : Nat, l = [.str x, .int (r : Int)]) ((ea_consR (ed_var (i := 3) rfl) (ea_oneR cal)).imp fun l ⟨s1, ss, e1, ⟨s2, ⟨d, ⟨r, _, ed⟩, e2⟩, e3⟩, e⟩ => ⟨_, ⟨r, rfl⟩, by rw [e, e1, e3, e2, ed]; rfl⟩) fun ds ⟨r, e⟩ => by rw [e]; exact Nat.le_of_ble_eq_true rfl) rfl fun s ⟨ds, ⟨r, e1⟩, e2⟩ => ?_
    refine ⟨_, ⟨x, List.mem_of_getElem? hx, r, ?_, rfl⟩, by rw [e2, e1]; rfl⟩
    rw [hL, List.getElem?_map, hx]
    rfl
  · have hL : L = nm.map .str := hL
    have h2 : nm.length ≤ 5 := h2
    rw [hL, List.length_map]
    exact ⟨by omega, by omega⟩
/-! ### _law_cut -/
theorem fam_cond : Fam fun d => ∃ x : Cond, d = tupE ePair x := fam_of (fun a b => rfl) (fun _ => rfl) (fun _ => Nat.le_of_ble_eq_true rfl)
abbrev sp_law_cut (K : PySem.W.Frag) : Sp := spB K 11 (fun a : PyData × List Str => [a.1, .int 2]) (fun a => SeqD a.1 (a.2.map .str) ∧ goodNames a.2) (fun a d => ∃ c : Cut, goodCut c ∧ d = eCut c)
theorem df_law_cut (A : At K mg "_law_cut" 35) (g : G0 K mg) (D1 : Df P w K mg base CX0 k "_law_take" ["_law_box_here", "_law_below_so"] (sp_law_take K)) (D2 : Df P w K mg base CX0 k "_law_clause" ["_law_box_here", "_law_areas_so"] (sp_law_clause K)) : Df P w K mg base CX0 (k + 1) "_law_cut" ["_law_box_here", "_law_areas_so", "_law_most_so"] (sp_law_cut K) := by
  refine df_box A sc_law_cut (fun _ => rfl) (by decide) (fun _ _ _ _ _ _ us hl => match us, hl with | [_, _, _], _ => rfl) fun f cdv A outer s H E C a b nk hr ha => ⟨t_law_cut K (sp_law_take K) (sp_law_clause K), ps_law_cut g D1 D2 hr, fun n D σ q hh => ?_⟩
  obtain ⟨pd, nm⟩ := a
  have hb : IsBox ⟨K, some b, C, H⟩ b := ⟨rfl, nk⟩
  unfold t_law_cut
  have hh : Holds ⟨K, some b, C, H⟩ [.adr b, .dat pd, .dat (.int 2), .emp] [] (fun _ => True) (n + 11) σ H := hh
  have cal := er_callB (B := ⟨K, some b, C, H⟩) (rho := [.adr b, .dat pd, .dat (.int 2), .emp]) (res := fun (n : Nat) d => ∃ r : Nat, r < n ∧ d = .int (r : Int)) (E := E0) (cost := 1) (enc := fun n : Nat => [.int (n : Int)]) (ok := fun n => 0 < n ∧ n ≤ 1000) hb 3 (ea_cons (ed_var (i := 0) rfl) (ea_one ((ed_op (ed_var (i := 2) rfl) (ed_int (i := 1)) (os_add (i := 2) (j := 1))).to rfl))) ⟨by decide, by decide⟩
  have wlk := ew_range (S := fun n => n < 3) ((ea_oneR cal).imp fun l ⟨s, ⟨d, ⟨r, hr, ed⟩, es⟩, e⟩ => ⟨(r : Int), by show (r : Int).toNat < 3; omega, by omega, by omega, by rw [e, es, ed]⟩)
  have item : EvR ⟨K, some b, C, H⟩ 5 (tCall (sp_law_clause K) [] E0 (tCons (tVar 0) (tCons (tVar 1) tNil))) [.adr b, .dat pd, .dat (.int 2), .emp] (fun s => ∃ e, (∃ x : Cond, goodCond x ∧ e = eCond x) ∧ s = .dat e) := er_fin (er_callB (B := ⟨K, some b, C, H⟩) hb (pd, nm) (ea_cons (ed_var rfl) (ea_one (ed_var rfl))) ha) rfl fun _ e => e
  have ev := er_lc (B := ⟨K, some b, C, H⟩) (rho := [.adr b, .dat pd, .dat (.int 2), .emp]) (vs := [3]) (g := gName 3) (tt := tYes) (te := tCall (sp_law_clause K) [] E0 (tCons (tVar 0) (tCons (tVar 1) tNil))) (cT := 0) (cE := 5) (cN := 10) wlk
    (fun L i d => [.adr b, .dat pd, .dat (.int 2), .dat d]) (fun L i => true) (fun L i e => ∃ x : Cond, goodCond x ∧ e = eCond x) (fun L i d hL hd => eg_name) (fun L i d hL hd => et_yes)
    (fun L i d hL hd _ => er_fin (er_callB (B := ⟨K, some b, C, H⟩) hb (pd, nm) (ea_cons (ed_var rfl) (ea_one (ed_var rfl))) ha) rfl fun _ e => e) (fun L ⟨n, hn, _, e⟩ => by
      rw [e]
      unfold rangeD
      rw [List.length_map, List.length_range]
      have hn : n < 3 := hn
      exact ⟨by omega, by omega⟩)
  have set := er_sortSet (S := fun ds => ds.length ≤ 2 ∧ ∀ d ∈ ds, ∃ x : Cond, goodCond x ∧ d = eCond x) (ev.imp fun s ⟨L, ds, ⟨n, hn, _, eL⟩, hR, es⟩ => ⟨ds, ⟨by
      have z := hR.len
      rw [eL] at z
      unfold rangeD at z
      rw [List.length_map, List.length_range] at z
      have hn : n < 3 := hn
      omega, fun d hd => by
      obtain ⟨i, _, x⟩ := hR.mem d hd
      exact x⟩, es⟩) fam_cond fun ds ⟨h1, h2⟩ => ⟨fun d hd => (h2 d hd).elim fun x hx => ⟨x, hx.2⟩, by omega⟩
  have ev2 : EvR ⟨K, some b, C, H⟩ 11 (tCB (rTupleOf K) (tCons (tSortSet K (tLc (iRng1 (tCons (tCall (sp_law_take K) [] E0 (tCons (tVar 0) (tCons (tOp (rI0 fun i j => .int (i + j)) (tVar 2) (tC (.int 1))) tNil))) tNil)) (gName 3) tYes (tCall (sp_law_clause K) [] E0 (tCons (tVar 0) (tCons (tVar 1) tNil))) [3])) tNil)) [.adr b, .dat pd, .dat (.int 2), .emp] (fun s => ∃ c : Cut, goodCut c ∧ s = .dat (eCut c)) := by
    refine er_fin (er_cb (B := ⟨K, some b, C, H⟩) (c2 := 0) (S := fun s => ∃ c : Cut, goodCut c ∧ s = .dat (eCut c)) (ea_oneR set) fun ss ⟨s, ⟨ds, es, ⟨_, h2⟩, h3, h4, e⟩, e2⟩ => ?_) rfl fun _ e => e
    subst e e2
    obtain ⟨ls, l1, l2⟩ := back (e := eCond) (Pr := goodCond) (ds := es) fun d hd => h2 d (h3 d hd)
    subst l1
    rw [List.length_map] at h4
    exact fun rho mu T n σ H vs u hh Q q => cl_tuple (.inl rfl) rho mu T n σ H vs u hh Q fun v H' s e h' => q v H' s ⟨ls, ⟨h4, l2⟩, e⟩ h'
  refine s_retL hh Up.tt ev2 (Nat.le_refl _) fun v s H' ⟨c, hc, e⟩ h' => ?_
  subst e
  exact q v _ H' _ _ _ σ ⟨c, hc, rfl⟩ h'
end
end K30
set_option Elab.async false
set_option linter.all false
set_option maxRecDepth 100000
set_option maxHeartbeats 1000000
namespace K30
open PySem PySem.Spec PyProof.Rows L2
section
variable {B : Bx} {rho rho' : List Sl} {mu : List (Addr × List PyData)} {T : Hp → Prop} {n c c1 c2 m : Nat} {σ : L2.St} {H : Hp} {te th ta tb : TE} {tt : TT} {tA : TA} {D : Ends} {S S1 S2 : Sl → Prop} {s s1 s2 : Sl} {t1 t2 : TS}
theorem os_pow {i j : Int} (h : CPow i j) : OpS B (rI CPow fun i j => .int (i ^ j.toNat)) (.dat (.int i)) (.dat (.int j)) (fun z => z = .dat (.int (i ^ j.toNat))) := OpS.ofIntC (f := fun i j => .int (i ^ j.toNat)) h rfl rfl
theorem os_mul {i j : Int} (h : CMul i j) : OpS B (rI CMul fun i j => .int (i * j)) (.dat (.int i)) (.dat (.int j)) (fun z => z = .dat (.int (i * j))) := OpS.ofIntC (f := fun i j => .int (i * j)) h rfl rfl
theorem os_mod {i j : Int} (h : 0 < j) : OpS B (rI (fun _ j => 0 < j) fun i j => .int (i % j)) (.dat (.int i)) (.dat (.int j)) (fun z => z = .dat (.int (i % j))) := OpS.ofIntC (C := fun _ j => 0 < j) (f := fun i j => .int (i % j)) h rfl rfl
/-- xs[:i], i drawn -/
theorem er_slLR {ds : List PyData} {Si : Int → Prop} (h : EvD B c1 te rho (.dat (.list ds))) (hi : EvR B c2 th rho (fun s => ∃ i, Si i ∧ s = .dat (.int i))) : EvR B (c1 + c2) (tSl (rSlL B.K) te tNoPart (tPart th)) rho (fun s => ∃ i, Si i ∧ s = .dat (.list (cutD ds none (some i)))) := fun mu T n σ H u hh Q q =>
  h mu T (n + c2) σ H u (hh.le (by omega)) _ fun v H1 s e k1 => hi mu _ n σ H1 u.andV k1 _ fun w H2 s2 ⟨i, si, es⟩ k2 => by
    have e' : s = .dat (.list ds) := e
    subst e' es
    obtain ⟨C, a, ⟨b, hv⟩, hw⟩ := k2
    cases hw
    cases hv with
    | @lst p xs _ h3 h4 =>
      refine ⟨i, rfl, p, xs, rfl, SqL.of (a.sub _ _ h3), fun o ho => q _ _ (.dat (.list (cutD ds none (some i)))) ⟨i, si, rfl⟩ ?_⟩
      have z := Holds.cold (T := fun C => T C ∧ DtAll B.K C xs ds) ⟨C, a, b, h4⟩ (fun C C' e y => ⟨u C C' e y.1, DtAll.up e _ _ y.2⟩) ho (.lst (cutV xs none (some i))) (P := fun C => Vl B.K C (.ref o) (.dat (.list (cutD ds none (some i))))) fun C t t2 sc => .lst upd_same (dt_cut t2.2 none (some i))
      exact z.imp fun C y => ⟨y.1.1, y.2⟩
theorem s_parN {i j : Nat} {SA : List Sl → Prop} (hh : Holds B rho mu T m σ H) (u : Up T) (h : EvA B c tA rho SA) (hm : n + c ≤ m) (k : ∀ ss, SA ss → ∃ s1 s2, ss = [s1, s2] ∧ ∀ σ' H', Holds B ((rho.set i s1).set j s2) mu T n σ' H' → t2 D σ' H') : tSeq (tPar i j tA) t2 D σ H := s_seq (s_par (hh.le hm) u h k)
theorem s_parHotN {i j : Nat} (hh : Holds B rho mu T m σ H) (u : Up T) (h : EvR B c te rho S) (hm : n + c ≤ m) (k : ∀ s p σ' H', S s → Holds B ((rho.set i s).set j (.adr p)) ((p, []) :: mu) T n σ' H' → t2 D σ' H') : tSeq (tPar i j (tCons te (tCons (tLst tNil) tNil))) t2 D σ H := s_seq (s_parHot (hh.le hm) u h k)
/-- for x in xs: .., the list drawn -/
theorem s_forN {α : Type} {c0 cN cI : Nat} {wi : TI} {g : TG} {tb : TS} {SL : List PyData → Prop} (hh : Holds B rho mu T m σ H) (u : Up T) (hmn : n + (c0 + cN) ≤ m) (hw : EvW B c0 wi rho SL) (I : List PyData → Nat → α → Prop) (rhoI : α → List Sl) (muI : α → List (Addr × List PyData)) (x0 : α)
    (hr : rhoI x0 = rho) (hm : muI x0 = mu) (h0 : ∀ L, SL L → I L 0 x0) (hc : ∀ L, SL L → L.length * cI ≤ cN)
    (turn : ∀ L i d x (T' : Hp → Prop) (m : Nat) (N : L2.St → Hp → Prop) σ' H' v, SL L → L[i]? = some d → I L i x → Up T' → (∀ C, T' C → T C) → Holds B (rhoI x) (muI x) (AndV B.K T' v (.dat d)) (m + cI) σ' H' →
      (∀ x' σ2 H2, I L (i + 1) x' → Holds B (rhoI x') (muI x') T' m σ2 H2 → N σ2 H2) → g v σ' H' fun σ2 H2 => tb { D with nx := N, ct := N, bk := fun σ H => t2 D σ H } σ2 H2)
    (done : ∀ L x σ' H', SL L → I L L.length x → Holds B (rhoI x) (muI x) T n σ' H' → t2 D σ' H') : tSeq (tFor wi g tb) t2 D σ H :=
  s_seq (s_for (D := { D with nx := t2 D }) (hh.le hmn) u hw I rhoI muI x0 hr hm h0 hc (fun L i d x T' m N σ' H' v h1 h2 h3 h4 h5 _ h7 h8 => turn L i d x T' m N σ' H' v h1 h2 h3 h4 h5 h7 h8) done)
end
section
variable {P : Program} {w : World} {K : PySem.W.Frag} {mg : Str → Option Value} {base : Heap} {k : Nat}
theorem take_call {B : Bx} {b : Addr} {rho : List Sl} {te : TE} {m : Nat} {i : Nat} (hb : IsBox B b) (hi : rho[i]? = some (.adr b)) (h : EvD B 0 te rho (.dat (.int (m : Int)))) (h1 : 0 < m) (h2 : m ≤ 1000) :
    EvR B 1 (tCall (sp_law_take B.K) [] E0 (tCons (tVar i) (tCons te tNil))) rho (fun s => ∃ r : Nat, r < m ∧ s = .dat (.int (r : Int))) :=
  er_fin (er_callB (res := fun (n : Nat) d => ∃ r : Nat, r < n ∧ d = .int (r : Int)) (E := E0) (cost := 1) (enc := fun n : Nat => [.int (n : Int)]) (ok := fun n => 0 < n ∧ n ≤ 1000) hb m (ea_cons (ed_var hi) (ea_one h)) ⟨h1, h2⟩) rfl fun s ⟨d, ⟨r, hr, ed⟩, es⟩ => ⟨r, hr, by rw [es, ed]⟩
theorem of_call {B : Bx} {b : Addr} {rho : List Sl} {te : TE} {pd : PyData} {ds : List PyData} {i : Nat} (hb : IsBox B b) (hi : rho[i]? = some (.adr b)) (h : EvD B 0 te rho (.dat pd)) (hs : SeqD pd ds) (h1 : 0 < ds.length) (h2 : ds.length ≤ 1000) :
    EvR B 1 (tCall (sp_law_of B.K) [] E0 (tCons (tVar i) (tCons te tNil))) rho (fun s => ∃ d ∈ ds, s = .dat d) :=
  er_fin (er_callB (res := fun (a : PyData × List PyData) d => d ∈ a.2) (E := E0) (cost := 1) (enc := fun a : PyData × List PyData => [a.1]) (ok := fun a => SeqD a.1 a.2 ∧ 0 < a.2.length ∧ a.2.length ≤ 1000) hb (pd, ds) (ea_cons (ed_var hi) (ea_one h)) ⟨hs, h1, h2⟩) rfl fun s ⟨d, hd, es⟩ => ⟨d, hd, es⟩
theorem cut_call {B : Bx} {b : Addr} {rho : List Sl} {pd : PyData} {nm : List Str} {i j : Nat} (hb : IsBox B b) (hi : rho[i]? = some (.adr b)) (hj : rho[j]? = some (.dat pd)) (hs : SeqD pd (nm.map .str)) (hn : goodNames nm) :
    EvR B 11 (tCall (sp_law_cut B.K) [] E0 (tCons (tVar i) (tCons (tVar j) (tCons (tC (.int 2)) tNil)))) rho (fun s => ∃ c : Cut, goodCut c ∧ s = .dat (eCut c)) :=
  er_fin (er_callB (res := fun (a : PyData × List Str) d => ∃ c : Cut, goodCut c ∧ d = eCut c) (E := E0) (cost := 11) (enc := fun a : PyData × List Str => [a.1, .int 2]) (ok := fun a => SeqD a.1 (a.2.map .str) ∧ goodNames a.2) hb (pd, nm) (ea_cons (ed_var hi) (ea_cons (ed_var hj) (ea_one ed_int))) ⟨hs, hn⟩) rfl fun s ⟨d, ⟨c, hc, ed⟩, es⟩ => ⟨c, hc, by rw [es, ed]⟩
/-! ### _law_chart -/
def five : List Str := ["m", "b", "x", "aa", "k"]
theorem five_ok : ∀ x ∈ five, PyData.strOk x = true := by decide +kernel
abbrev sp_law_chart (K : PySem.W.Frag) : Sp := spB K 17 (fun _ : Unit => [.int 3]) (fun _ => True) (fun _ d => ∃ (nm : List Str) (c : Cut), goodNames nm ∧ goodCut c ∧ d = .tuple [eNames nm, eCut c])
theorem df_law_chart (A : At K mg "_law_chart" 36) (g : G0 K mg) (D1 : Df P w K mg base CX0 k "_law_take" ["_law_box_here", "_law_below_so"] (sp_law_take K)) (D2 : Df P w K mg base CX0 k "_law_clause" ["_law_box_here", "_law_areas_so"] (sp_law_clause K)) : Df P w K mg base CX0 (k + 1) "_law_chart" ["_law_box_here", "_law_many_so"] (sp_law_chart K) := by
  refine df_box A sc_law_chart (fun _ => rfl) (by decide) (fun _ _ _ _ _ _ us hl => match us, hl with | [_, _], _ => rfl) fun f cdv A outer s H E C a b nk hr ha => ⟨t_law_chart K (sp_law_take K) (sp_law_clause K), ps_law_chart g D1 D2 hr, fun n D σ q hh => ?_⟩
  have hb : IsBox ⟨K, some b, C, H⟩ b := ⟨rfl, nk⟩
  unfold t_law_chart
  have hh : Holds ⟨K, some b, C, H⟩ [.adr b, .dat (.int 3), .emp, .emp, .emp, .emp] [] (fun _ => True) (n + 17) σ H := hh
  have l5 : EvD ⟨K, some b, C, H⟩ 0 (tLst (tCons (tC (.str "m")) (tCons (tC (.str "b")) (tCons (tC (.str "x")) (tCons (tC (.str "aa")) (tCons (tC (.str "k")) tNil)))))) [.adr b, .dat (.int 3), .emp, .emp, .emp, .emp] (.dat (.list (five.map .str))) :=
    ed_fin (ed_lst (ds := five.map .str) (ea_cons ed_str (ea_cons ed_str (ea_cons ed_str (ea_cons ed_str (ea_one ed_str)))))) rfl rfl
  have many : EvR ⟨K, some b, C, H⟩ 1 (tOp (rI0 fun i j => .int (i - j)) (tVar 1) (tCB rIntOf (tCons (tOp rEq (tCall (sp_law_take K) [] E0 (tCons (tVar 0) (tCons (tC (.int 6)) tNil))) (tC (.int 0))) tNil))) [.adr b, .dat (.int 3), .emp, .emp, .emp, .emp] (fun s => ∃ i : Int, (i = 2 ∨ i = 3) ∧ s = .dat (.int i)) := by
    refine er_fin (er_op (ed_var (i := 1) rfl) (er_cb (c2 := 0) (S := fun s => ∃ k : Bool, s = .dat (.int (if k then 1 else 0))) (ea_oneR (er_op (S := fun s => ∃ k : Bool, s = .dat (.bool k)) (take_call (m := 6) hb rfl ed_int (by decide) (by decide)) (ed_int (i := 0)) fun s1 s2 ⟨r, _, e1⟩ e2 => ?_)) fun ss ⟨s, ⟨k, e1⟩, e2⟩ => ?_) fun s1 s2 e1 ⟨k, e2⟩ => ?_) rfl fun _ e => e
    · have e2 : s2 = .dat (.int 0) := e2
      subst e1 e2
      exact fun rho mu T n σ H x y u hh Q q => os_eqI rho mu T n σ H x y u hh Q fun v H' s e h' => q v H' s ⟨_, e⟩ h'
    · subst e1 e2
      exact fun rho mu T n σ H vs u hh Q q => cl_intB rho mu T n σ H vs u hh Q fun v H' s e h' => q v H' s ⟨k, e⟩ h'
    · have e1 : s1 = .dat (.int 3) := e1
      subst e1 e2
      exact fun rho mu T n σ H x y u hh Q q => os_sub rho mu T n σ H x y u hh Q fun v H' s e h' => q v H' s ⟨_, by cases k <;> decide, e⟩ h'
  have ev1 : EvR ⟨K, some b, C, H⟩ 1 (tCB (rSortedS K) (tCons (tSl (rSlL K) (tLst (tCons (tC (.str "m")) (tCons (tC (.str "b")) (tCons (tC (.str "x")) (tCons (tC (.str "aa")) (tCons (tC (.str "k")) tNil)))))) tNoPart (tPart (tOp (rI0 fun i j => .int (i - j)) (tVar 1) (tCB rIntOf (tCons (tOp rEq (tCall (sp_law_take K) [] E0 (tCons (tVar 0) (tCons (tC (.int 6)) tNil))) (tC (.int 0))) tNil))))) tNil)) [.adr b, .dat (.int 3), .emp, .emp, .emp, .emp]
      (fun s => ∃ nm : List Str, goodNames nm ∧ s = .dat (.list (nm.map .str))) := by
    refine er_fin (er_cb (c2 := 0) (S := fun s => ∃ nm : List Str, goodNames nm ∧ s = .dat (.list (nm.map .str))) (ea_oneR (er_slLR l5 many)) fun ss ⟨s, ⟨i, hi, e1⟩, e2⟩ => ?_) rfl fun _ e => e
    subst e1 e2
    have key : ∃ xs : List Str, cutD (five.map .str) none (some i) = xs.map .str ∧ xs.length ≤ 5 ∧ ∀ x ∈ xs, x ∈ five := by
      rcases hi with e | e
      · subst e
        exact ⟨five.take 2, rfl, by decide, fun x hx => List.mem_of_mem_take hx⟩
      · subst e
        exact ⟨five.take 3, rfl, by decide, fun x hx => List.mem_of_mem_take hx⟩
    obtain ⟨xs, x1, x2, x3⟩ := key
    rw [x1]
    exact fun rho mu T n σ H vs u hh Q q => cl_sortS (by omega) rho mu T n σ H vs u hh Q fun v H' s ⟨ys, hp, e⟩ h' => q v H' s ⟨ys, ⟨by rw [hp.length_eq]; exact x2, fun x hx => five_ok x (x3 x (hp.mem_iff.mp hx))⟩, e⟩ h'
  refine s_asgN (n := n + 16) hh Up.tt ev1 (by omega) fun s σ1 H1 ⟨nm, hnm, es⟩ h1 => ?_
  subst es
  have h1 : Holds ⟨K, some b, C, H⟩ [.adr b, .dat (.int 3), .dat (.list (nm.map .str)), .emp, .emp, .emp] [] (fun _ => True) (n + 16) σ1 H1 := h1
  have ev2 := er_lc (B := ⟨K, some b, C, H⟩) (rho := [.adr b, .dat (.int 3), .dat (.list (nm.map .str)), .emp, .emp, .emp]) (vs := [4]) (g := gName 4) (tt := tYes) (te := tCall (sp_law_clause K) [] E0 (tCons (tVar 0) (tCons (tVar 2) tNil))) (cT := 0) (cE := 5) (cN := 15)
    (ew_range (S := fun n => n < 4) ((ea_oneR (take_call (m := 4) hb (i := 0) rfl ed_int (by decide) (by decide))).imp fun l ⟨s, ⟨r, hr, es⟩, e⟩ => ⟨(r : Int), by show (r : Int).toNat < 4; omega, by omega, by omega, by rw [e, es]⟩))
    (fun L i d => [.adr b, .dat (.int 3), .dat (.list (nm.map .str)), .emp, .dat d, .emp]) (fun L i => true) (fun L i e => ∃ x : Cond, goodCond x ∧ e = eCond x) (fun L i d hL hd => eg_name) (fun L i d hL hd => et_yes)
    (fun L i d hL hd _ => er_fin (er_callB (B := ⟨K, some b, C, H⟩) hb (.list (nm.map .str), nm) (ea_cons (ed_var rfl) (ea_one (ed_var rfl))) ⟨.inl rfl, hnm⟩) rfl fun _ e => e) (fun L ⟨n, hn, _, e⟩ => by
      rw [e]
      unfold rangeD
      rw [List.length_map, List.length_range]
      have hn : n < 4 := hn
      exact ⟨by omega, by omega⟩)
  refine s_asgN (n := n) h1 Up.tt ev2 (by omega) fun s σ2 H2 ⟨L, ds, ⟨m, hm, _, eL⟩, hR, es⟩ h2 => ?_
  subst es
  obtain ⟨cs, c1, c2⟩ := back (e := eCond) (Pr := goodCond) (ds := ds) fun d hd => by
    obtain ⟨i, _, x⟩ := hR.mem d hd
    exact x
  have lc : cs.length ≤ 3 := by
    have z := hR.len
    rw [eL, c1] at z
    unfold rangeD at z
    rw [List.length_map, List.length_map, List.length_range] at z
    have hm : m < 4 := hm
    omega
  subst c1
  have h2 : Holds ⟨K, some b, C, H⟩ [.adr b, .dat (.int 3), .dat (.list (nm.map .str)), .dat (.list (cs.map eCond)), .emp, .emp] [] (fun _ => True) n σ2 H2 := h2
  have bare := ed_lc (B := ⟨K, some b, C, H⟩) (rho := [.adr b, .dat (.int 3), .dat (.list (nm.map .str)), .dat (.list (cs.map eCond)), .emp, .emp]) (vs := [5]) (g := gName 5) (tt := tTest (tOp (rI0 fun i j => .bl (decide (j < i))) (tCB (rLenOf K) (tCons (tVar 5) tNil)) (tC (.int 1)))) (te := tVar 5) cs eCond
    (fun x => [.adr b, .dat (.int 3), .dat (.list (nm.map .str)), .dat (.list (cs.map eCond)), .emp, .dat (eCond x)]) (fun x => decide ((1 : Int) < (x.length : Int))) eCond (ew_seq (ed_var (i := 3) rfl) (.inl rfl)) (fun x _ => eg_name)
    (fun x _ => et_fin (et_test (ed_op (er_fin (c1 := 0) (ed_cb (ea_one (ed_var rfl)) (cl_len (.inr rfl))) rfl fun _ e => e) ed_int os_gt)) rfl (by rw [List.length_map])) (fun x _ _ => ed_var rfl) (by omega)
  have set := er_sortSet (S := fun ds => ∃ xs : List Cond, xs.length ≤ 3 ∧ (∀ x ∈ xs, goodCond x) ∧ ds = xs.map eCond) (bare.imp fun s e => ⟨_, ⟨_, Nat.le_trans (List.length_filter_le ..) lc, fun x hx => c2 x (List.mem_filter.mp hx).1, rfl⟩, e⟩) fam_cond
    fun ds ⟨xs, x1, x2, x3⟩ => ⟨fun d hd => by rw [x3] at hd; obtain ⟨x, _, e⟩ := List.mem_map.mp hd; exact ⟨x, e.symm⟩, by rw [x3, List.length_map]; exact x1⟩
  have ev3 := er_tup (S' := fun ds => ∃ c : Cut, goodCut c ∧ ds = [eNames nm, eCut c]) (B := ⟨K, some b, C, H⟩) ((ea_consR (S := fun s => s = .dat (eNames nm)) (er_fin (c1 := 0) (ed_cb (ea_one (ed_var (i := 2) rfl)) (cl_tuple (.inl rfl))) rfl fun _ e => e) (ea_oneR (er_cb (B := ⟨K, some b, C, H⟩) (c2 := 0) (S := fun s => ∃ c : Cut, goodCut c ∧ s = .dat (eCut c)) (ea_oneR set) fun ss ⟨s, ⟨ds, es, ⟨xs, x1, x2, x3⟩, h3, h4, e⟩, e2⟩ => by
      subst e e2
      obtain ⟨ls, l1, l2⟩ := back (e := eCond) (Pr := goodCond) (ds := es) fun d hd => by
        have z := h3 d hd
        rw [x3] at z
        obtain ⟨x, hx, e⟩ := List.mem_map.mp z
        exact ⟨x, x2 x hx, e.symm⟩
      subst l1
      rw [List.length_map] at h4
      exact fun rho mu T n σ H vs u hh Q q => cl_tuple (.inl rfl) rho mu T n σ H vs u hh Q fun v H' s e h' => q v H' s ⟨ls, ⟨h4, l2⟩, e⟩ h'))).imp
    fun l ⟨s, ss, e1, ⟨s2, ⟨c, hc, e2⟩, e3⟩, e⟩ => ⟨_, ⟨c, hc, rfl⟩, by rw [e, e1, e3, e2]; rfl⟩) fun ds ⟨c, _, e⟩ => by rw [e]; exact Nat.le_of_ble_eq_true rfl
  refine s_retL (n := n) h2 Up.tt ev3 (Nat.le_refl _) fun v s H' ⟨ds, ⟨c, hc, e1⟩, e⟩ h' => ?_
  subst e e1
  exact q v _ H' _ _ _ σ2 ⟨nm, c, hnm, hc, rfl⟩ h'
end
end K30
set_option Elab.async false
set_option linter.all false
set_option maxRecDepth 100000
set_option maxHeartbeats 1000000
namespace K30
open PySem PySem.Spec PyProof.Rows L2
def goodDeed (d : Deed) : Prop := d.ok = true ∧ goodCut d.last ∧ ((∃ k a b c, d = .four k a b c) ∨ ∃ k a c, d = .one k a c)
def kinds : List Str := ["give", "vest", "swap", "whole"]
theorem eqv_nil2 (l : List PyData) : (!PyData.eqv (.list l) (.list [])) = !l.isEmpty := by rw [eqv_nil]
theorem lay_spots : ∀ {l : List Spot}, (∀ x ∈ l, ∀ y ∈ x, PyData.strOk y = true) → PyData.canLayAll0 (l.map eSpot) = true
  | [], _ => rfl
  | x :: l, h => by
    show (PyData.canLayAll0 (x.map .str) && PyData.canLayAll0 (l.map eSpot)) = true
    rw [lay_strs (h x List.mem_cons_self), lay_spots fun y hy => h y (List.mem_cons_of_mem _ hy)]
    rfl
theorem deep_spots : ∀ {l : List Spot}, PyData.depthAll (l.map eSpot) ≤ 1
  | [] => Nat.zero_le _
  | x :: l => by
    show max (PyData.depthAll (x.map .str) + 1) (PyData.depthAll (l.map eSpot)) ≤ 1
    rw [deep_flat mem_flat]
    have := deep_spots (l := l)
    omega
theorem shaped_spots {l : List Spot} (h : ∀ x ∈ l, ∀ y ∈ x, PyData.strOk y = true) : SeqAt.shaped (.list (l.map eSpot)) = true := by
  show (PyData.canLayAll0 (l.map eSpot) && decide (PyData.depthAll (l.map eSpot) + 1 ≤ 64)) = true
  rw [lay_spots h, decide_eq_true (by have := deep_spots (l := l); omega)]
  rfl
section
variable {P : Program} {w : World} {K : PySem.W.Frag} {mg : Str → Option Value} {base : Heap} {k : Nat}
/-! ### _law_world -/
def sizes : List Int := [1, 1, 2, 3, 10 ^ 30]
abbrev sp_law_world (K : PySem.W.Frag) : Sp := spB K 19 (fun a : List Str × Cut => [.tuple [eNames a.1, eCut a.2], .int 6]) (fun a => goodNames a.1 ∧ goodCut a.2) (fun a d => ∃ w : List Point, w.length ≤ 6 ∧ (∀ p ∈ w, p.spot.length ≤ 1000) ∧ d = eWorld w)
theorem df_law_world (A : At K mg "_law_world" 37) (g : G0 K mg) (D1 : Df P w K mg base CX0 k "_law_take" ["_law_box_here", "_law_below_so"] (sp_law_take K)) (D2 : Df P w K mg base CX0 k "_law_of" ["_law_box_here", "_law_pool_so"] (sp_law_of K)) (D3 : Df P w K mg base CX0 k "_law_let" ["_law_chart_so"] (sp_law_let K)) :
    Df P w K mg base CX0 (k + 1) "_law_world" ["_law_box_here", "_law_chart_so", "_law_most_so"] (sp_law_world K) := by
  refine df_box A sc_law_world (fun _ => rfl) (by decide) (fun _ _ _ _ _ _ us hl => match us, hl with | [_, _, _], _ => rfl) fun f cdv A outer s H E C a b nk hr ha => ⟨t_law_world K (sp_law_take K) (sp_law_of K) (sp_law_let K), ps_law_world g D1 D2 D3 hr, fun n D σ q hh => ?_⟩
  obtain ⟨nm, cu⟩ := a
  obtain ⟨hn, hcu⟩ := ha
  have hn : goodNames nm := hn
  have hcu : goodCut cu := hcu
  have hb : IsBox ⟨K, some b, C, H⟩ b := ⟨rfl, nk⟩
  unfold t_law_world
  have hh : Holds ⟨K, some b, C, H⟩ [.adr b, .dat (.tuple [eNames nm, eCut cu]), .dat (.int 6), .emp, .emp, .emp, .emp] [] (fun _ => True) (n + 19) σ H := hh
  have cl := er_call (B := ⟨K, some b, C, H⟩) (rho := [.adr b, .dat (.tuple [eNames nm, eCut cu]), .dat (.int 6), .emp, .emp, .emp, .emp]) (E := E0) (enc := fun a : List Str × Cut => [.tuple [eNames a.1, eCut a.2]]) (ok := fun a => a.1.length ≤ 6 ∧ cutOk a.2 = true)
    (res := fun a d => ∃ ls : List Spot, ls.length ≤ 64 ∧ (∀ x ∈ ls, x.length ≤ 6 ∧ ∀ y ∈ x, y ∈ a.1) ∧ d = .list (ls.map eSpot)) (nm, cu) (ea_one (ed_var (i := 1) rfl)) ⟨by have := hn.1; show nm.length ≤ 6; omega, hcu.ok⟩
  refine s_parHotN (n := n + 19) hh Up.tt cl (by omega) fun s p σ1 H1 ⟨d, ⟨ls, l1, l2, ed⟩, es⟩ h1 => ?_
  subst es ed
  have h1 : Holds ⟨K, some b, C, H⟩ [.adr b, .dat (.tuple [eNames nm, eCut cu]), .dat (.int 6), .emp, .dat (.list (ls.map eSpot)), .adr p, .emp] [(p, [])] (fun _ => True) (n + 19) σ1 H1 := h1
  have rng : EvR ⟨K, some b, C, H⟩ 1 (tIf (tTest (tOp (rNeD K) (tVar 4) (tLst tNil))) (tCall (sp_law_take K) [] E0 (tCons (tVar 0) (tCons (tOp (rI0 fun i j => .int (i + j)) (tVar 2) (tC (.int 1))) tNil))) (tC (.int 0))) [.adr b, .dat (.tuple [eNames nm, eCut cu]), .dat (.int 6), .emp, .dat (.list (ls.map eSpot)), .adr p, .emp]
      (fun s => ∃ r : Nat, r < 7 ∧ (r = 0 ∨ ls ≠ []) ∧ s = .dat (.int (r : Int))) := by
    refine er_fin (er_if (b := !ls.isEmpty) (c2 := 1) (et_fin (c1 := 0) (et_test (ed_op (ed_var (i := 4) rfl) ed_nil (os_ne (shaped_spots fun x hx y hy => hn.2 y ((l2 x hx).2 y hy)) rfl))) rfl (by rw [eqv_nil2, List.isEmpty_map])) (fun z => ?_) (fun z => ?_)) rfl fun _ e => e
    · refine er_fin (take_call (m := 7) hb (i := 0) rfl ((ed_op (ed_var (i := 2) rfl) (ed_int (i := 1)) (os_add (i := 6) (j := 1))).to rfl) (by decide) (by decide)) rfl fun s ⟨r, hr, e⟩ => ⟨r, hr, .inr fun e => ?_, e⟩
      rw [e] at z
      cases z
    · exact er_le (c := 0) ((ed_int (i := 0)).imp fun s e => ⟨0, by decide, .inl rfl, e⟩) (by omega)
  apply s_forN (α := List Point) (n := n) (c0 := 1) (cN := 18) (cI := 3) h1 Up.tt (by omega) (ew_range (S := fun r => r < 7 ∧ (r = 0 ∨ ls ≠ [])) ((ea_oneR rng).imp fun l ⟨s, ⟨r, hr, h0, es⟩, e⟩ => ⟨(r : Int), by show (r : Int).toNat < 7 ∧ _; rw [Int.toNat_natCast]; exact ⟨hr, h0⟩, by omega, by omega, by rw [e, es]⟩))
    (fun L i x => x.length ≤ i ∧ ∀ p ∈ x, p.spot.length ≤ 1000) (fun _ => [.adr b, .dat (.tuple [eNames nm, eCut cu]), .dat (.int 6), .emp, .dat (.list (ls.map eSpot)), .adr p, .emp]) (fun x => [(p, x.map ePoint)]) [] rfl rfl (fun L _ => ⟨Nat.le_refl _, fun p hp => by cases hp⟩)
  case hc =>
    intro L ⟨r, ⟨hr, _⟩, _, e⟩
    rw [e]
    unfold rangeD
    rw [List.length_map, List.length_range]
    omega
  case done =>
    intro L x σ2 H2 ⟨r, ⟨hr, _⟩, _, eL⟩ ⟨i1, i2⟩ h2
    have h3 := (h2.freeze Up.tt).reslot (i := 5) rfl
    have lx : x.length ≤ 6 := by
      rw [eL] at i1
      unfold rangeD at i1
      rw [List.length_map, List.length_range] at i1
      omega
    refine s_retL (c := 0) (n := n) (S := fun s => s = .dat (eWorld x)) h3 Up.tt (er_fin (c1 := 0) (ed_cb (ea_one (ed_var (i := 5) rfl)) (cl_tuple (.inl rfl))) rfl fun _ e => e) (Nat.le_refl _) fun v s H' e h' => ?_
    have e' := e
    subst e'
    exact q v _ H' _ _ _ σ2 ⟨x, lx, i2, rfl⟩ h'
  case turn =>
    intro L i d x T' m N σ' H' v ⟨r, ⟨hr, h0⟩, _, eL⟩ hd ⟨i1, i2⟩ up _ h2 next
    have hi : i < r := by
      have z := (List.getElem?_eq_some_iff.mp hd).1
      rw [eL] at z
      unfold rangeD at z
      rw [List.length_map, List.length_range] at z
      exact z
    have hls : ls ≠ [] := by
      rcases h0 with z | z
      · omega
      · exact z
    have lpos : 0 < ls.length := List.length_pos_iff.mpr hls
    refine (eg_name (vs := [3]) (i := 3) (by decide)) _ _ _ _ _ _ up h2 _ fun σ2 _ h3 => ?_
    have h3 : Holds ⟨K, some b, C, H⟩ [.adr b, .dat (.tuple [eNames nm, eCut cu]), .dat (.int 6), .dat d, .dat (.list (ls.map eSpot)), .adr p, .emp] [(p, x.map ePoint)] T' (m + 3) σ2 H' := h3
    have lst : EvD ⟨K, some b, C, H⟩ 0 (tLst (tCons (tC (.int 1)) (tCons (tC (.int 1)) (tCons (tC (.int 2)) (tCons (tC (.int 3)) (tCons (tOp (rI CPow fun i j => .int (i ^ j.toNat)) (tC (.int 10)) (tC (.int 30))) tNil)))))) [.adr b, .dat (.tuple [eNames nm, eCut cu]), .dat (.int 6), .dat d, .dat (.list (ls.map eSpot)), .adr p, .emp] (.dat (.list (sizes.map .int))) :=
      ed_fin (ed_lst (ds := [.int 1, .int 1, .int 2, .int 3, .int (10 ^ (30 : Int).toNat)]) (ea_cons ed_int (ea_cons ed_int (ea_cons ed_int (ea_cons ed_int (ea_one (ed_op ed_int ed_int (os_pow ⟨by decide, by decide, by decide⟩)))))))) rfl rfl
    refine s_asgN (n := m + 2) h3 up (of_call hb (i := 0) rfl lst (.inl rfl) (by decide) (by decide)) (by omega) fun s σ3 H3 ⟨dz, hdz, es⟩ h4 => ?_
    subst es
    obtain ⟨z, _, ez⟩ := List.mem_map.mp hdz
    subst ez
    have h4 : Holds ⟨K, some b, C, H⟩ [.adr b, .dat (.tuple [eNames nm, eCut cu]), .dat (.int 6), .dat d, .dat (.list (ls.map eSpot)), .adr p, .dat (.int z)] [(p, x.map ePoint)] T' (m + 2) σ3 H3 := h4
    have nms : EvD ⟨K, some b, C, H⟩ 0 (tLst (tCons (tC (.str "cy")) (tCons (tC (.str "ann")) (tCons (tC (.str "bob")) (tCons (tC (.str "zz")) tNil))))) [.adr b, .dat (.tuple [eNames nm, eCut cu]), .dat (.int 6), .dat d, .dat (.list (ls.map eSpot)), .adr p, .dat (.int z)] (.dat (.list ((["cy", "ann", "bob", "zz"] : List Str).map .str))) :=
      ed_fin (ed_lst (ds := (["cy", "ann", "bob", "zz"] : List Str).map .str) (ea_cons ed_str (ea_cons ed_str (ea_cons ed_str (ea_one ed_str))))) rfl rfl
    have o1 := of_call (B := ⟨K, some b, C, H⟩) (rho := [.adr b, .dat (.tuple [eNames nm, eCut cu]), .dat (.int 6), .dat d, .dat (.list (ls.map eSpot)), .adr p, .dat (.int z)]) hb (i := 0) rfl (ed_var (i := 4) rfl) (.inl rfl) (by rw [List.length_map]; exact lpos) (by rw [List.length_map]; omega)
    have o2 := of_call (B := ⟨K, some b, C, H⟩) (rho := [.adr b, .dat (.tuple [eNames nm, eCut cu]), .dat (.int 6), .dat d, .dat (.list (ls.map eSpot)), .adr p, .dat (.int z)]) hb (i := 0) rfl nms (.inl rfl) (by decide) (by decide)
    have pt : EvR ⟨K, some b, C, H⟩ 2 (tTup (tCons (tCall (sp_law_of K) [] E0 (tCons (tVar 0) (tCons (tVar 4) tNil))) (tCons (tVar 6) (tCons (tCall (sp_law_of K) [] E0 (tCons (tVar 0) (tCons (tLst (tCons (tC (.str "cy")) (tCons (tC (.str "ann")) (tCons (tC (.str "bob")) (tCons (tC (.str "zz")) tNil))))) tNil))) tNil)))) [.adr b, .dat (.tuple [eNames nm, eCut cu]), .dat (.int 6), .dat d, .dat (.list (ls.map eSpot)), .adr p, .dat (.int z)]
        (fun s => ∃ d, (∃ pt : Point, pt.spot.length ≤ 1000 ∧ d = ePoint pt) ∧ s = .dat d) := by
      refine er_fin (er_tup (S' := fun ds => ∃ pt : Point, pt.spot.length ≤ 1000 ∧ ds = [eSpot pt.spot, .int pt.size, .str pt.own]) ((ea_consR o1 (ea_consR (ed_var (i := 6) rfl) (ea_oneR o2))).imp fun l ⟨s1, ss, ⟨d1, m1, e1⟩, ⟨s2, ss2, e2, ⟨s3, ⟨d3, m3, e3⟩, e4⟩, e5⟩, e⟩ => ?_) fun ds ⟨pt, _, e⟩ => by rw [e]; exact Nat.le_of_ble_eq_true rfl) rfl fun s ⟨ds, ⟨pt, h, e1⟩, e2⟩ => ⟨ePoint pt, ⟨pt, h, rfl⟩, by rw [e2, e1]; rfl⟩
      obtain ⟨sp, hsp, esp⟩ := List.mem_map.mp m1
      obtain ⟨o, _, eo⟩ := List.mem_map.mp m3
      exact ⟨[eSpot sp, .int z, .str o], ⟨⟨sp, z, o⟩, by have := (l2 sp hsp).1; show sp.length ≤ 1000; omega, rfl⟩, by rw [e, e1, e5, e4, e2, e3, ← esp, ← eo]; rfl⟩
    refine s_app (n := m) (c := 2) (S := fun s => ∃ pt : Point, pt.spot.length ≤ 1000 ∧ s = .dat (ePoint pt)) (h4.le (by omega)) up rfl (pt.imp fun s ⟨d, ⟨pt, h1, h2⟩, e⟩ => ⟨d, ⟨pt, h1, by rw [e, h2]⟩, e⟩) (by rw [List.length_map]; omega) fun dd σ5 H5 ⟨pt, hpt, e⟩ h5 => ?_
    have e := Sl.dat.inj e
    subst e
    refine next (x ++ [pt]) _ _ ⟨by rw [List.length_append]; exact Nat.succ_le_succ i1, fun y hy => ?_⟩ ?_
    · rcases List.mem_append.mp hy with hy | hy
      · exact i2 y hy
      · rw [List.mem_singleton.mp hy]
        exact hpt
    · rw [List.map_append]
      exact h5.less rfl fun i s e => by
        match i with
        | 0 | 1 | 2 | 4 | 5 => exact .inr e
        | 3 | 6 => exact .inl (Option.some.inj e).symm
        | i + 7 => exact .inr e
end
end K30
set_option Elab.async false
set_option linter.all false
set_option maxRecDepth 100000
set_option maxHeartbeats 1000000
namespace K30
open PySem PySem.Spec PyProof.Rows L2
section
variable {P : Program} {w : World} {K : PySem.W.Frag} {mg : Str → Option Value} {base : Heap} {k : Nat}
/-! ### _law_deed -/
structure DeedIn where
  pd : PyData
  nm : List Str
  so : List Str
structure DeedIn.Ok (a : DeedIn) : Prop where
  seq : SeqD a.pd (a.nm.map .str)
  names : goodNames a.nm
  pos : 0 < a.so.length
  few : a.so.length ≤ 10
  kin : ∀ s ∈ a.so, s ∈ kinds
abbrev sp_law_deed (K : PySem.W.Frag) : Sp := spB K 14 (fun a : DeedIn => [a.pd, .list (a.so.map .str)]) DeedIn.Ok (fun a d => ∃ dd : Deed, goodDeed dd ∧ dd.kind ∈ a.so ∧ d = eDeed dd)
theorem df_law_deed (A : At K mg "_law_deed" 38) (g : G0 K mg) (D1 : Df P w K mg base CX0 k "_law_of" ["_law_box_here", "_law_pool_so"] (sp_law_of K)) (D2 : Df P w K mg base CX0 k "_law_cut" ["_law_box_here", "_law_areas_so", "_law_most_so"] (sp_law_cut K)) :
    Df P w K mg base CX0 (k + 1) "_law_deed" ["_law_box_here", "_law_areas_so", "_law_sorts_so"] (sp_law_deed K) := by
  refine df_box A sc_law_deed (fun _ => rfl) (by decide) (fun _ _ _ _ _ _ us hl => match us, hl with | [_, _, _], _ => rfl) fun f cdv A outer s H E C a b nk hr ha => ⟨t_law_deed K (sp_law_of K) (sp_law_cut K), ps_law_deed g D1 D2 hr, fun n D σ q hh => ?_⟩
  obtain ⟨pd, nm, so⟩ := a
  have hb : IsBox ⟨K, some b, C, H⟩ b := ⟨rfl, nk⟩
  unfold t_law_deed
  have hh : Holds ⟨K, some b, C, H⟩ [.adr b, .dat pd, .dat (.list (so.map .str)), .emp, .emp, .emp, .emp, .emp, .emp, .emp] [] (fun _ => True) (n + 14) σ H := hh
  have o1 := of_call (B := ⟨K, some b, C, H⟩) (rho := [.adr b, .dat pd, .dat (.list (so.map .str)), .emp, .emp, .emp, .emp, .emp, .emp, .emp]) hb (i := 0) rfl (ed_var (i := 2) rfl) (.inl rfl) (by rw [List.length_map]; exact ha.pos) (by rw [List.length_map]; have := ha.few; show so.length ≤ 1000; have : so.length ≤ 10 := this; omega)
  have o2 := cut_call (B := ⟨K, some b, C, H⟩) (rho := [.adr b, .dat pd, .dat (.list (so.map .str)), .emp, .emp, .emp, .emp, .emp, .emp, .emp]) hb (i := 0) (j := 1) rfl rfl ha.seq ha.names
  refine s_parN (n := n + 2) (c := 1 + (11 + 0)) hh Up.tt (ea_consR o1 (ea_consR o2 ea_nil)) (by omega) fun ss ⟨s1, ss2, ⟨d1, m1, e1⟩, ⟨s2, ss3, ⟨cu, hcu, e2⟩, e3, e4⟩, e⟩ => ⟨s1, s2, by rw [e, e4, e3], fun σ1 H1 h1 => ?_⟩
  subst e1 e2
  obtain ⟨kd, hkd, ekd⟩ := List.mem_map.mp m1
  subst ekd
  have kk : kd ∈ kinds := ha.kin kd hkd
  have h1 : Holds ⟨K, some b, C, H⟩ [.adr b, .dat pd, .dat (.list (so.map .str)), .emp, .emp, .emp, .emp, .dat (.str kd), .dat (eCut cu), .emp] [] (fun _ => True) (n + 2) σ1 H1 := h1
  have l3 : EvD ⟨K, some b, C, H⟩ 0 (tLst (tCons (tC (.str "cy")) (tCons (tC (.str "ann")) (tCons (tC (.str "bob")) tNil)))) [.adr b, .dat pd, .dat (.list (so.map .str)), .emp, .emp, .emp, .emp, .dat (.str kd), .dat (eCut cu), .emp] (.dat (.list ((["cy", "ann", "bob"] : List Str).map .str))) :=
    ed_fin (ed_lst (ds := (["cy", "ann", "bob"] : List Str).map .str) (ea_cons ed_str (ea_cons ed_str (ea_one ed_str)))) rfl rfl
  refine s_asgN (n := n + 1) h1 Up.tt (of_call hb (i := 0) rfl l3 (.inl rfl) (by decide) (by decide)) (by omega) fun s σ2 H2 ⟨d, hd, es⟩ h2 => ?_
  subst es
  obtain ⟨near, hnear, en⟩ := List.mem_map.mp hd
  subst en
  have h2 : Holds ⟨K, some b, C, H⟩ [.adr b, .dat pd, .dat (.list (so.map .str)), .dat (.str near), .emp, .emp, .emp, .dat (.str kd), .dat (eCut cu), .emp] [] (fun _ => True) (n + 1) σ2 H2 := h2
  have lfar : EvD ⟨K, some b, C, H⟩ 0 (tLc (iSeq K (tLst (tCons (tC (.str "cy")) (tCons (tC (.str "ann")) (tCons (tC (.str "bob")) (tCons (tC (.str "eve")) tNil)))))) (gName 9) (tTest (tOp rNe (tVar 9) (tVar 3))) (tVar 9) [9]) [.adr b, .dat pd, .dat (.list (so.map .str)), .dat (.str near), .emp, .emp, .emp, .dat (.str kd), .dat (eCut cu), .emp]
      (.dat (.list (((["cy", "ann", "bob", "eve"] : List Str).filter fun x => !decide (x = near)).map .str))) :=
    ed_fin (ed_lc (B := ⟨K, some b, C, H⟩) (["cy", "ann", "bob", "eve"] : List Str) .str (fun x => [.adr b, .dat pd, .dat (.list (so.map .str)), .dat (.str near), .emp, .emp, .emp, .dat (.str kd), .dat (eCut cu), .dat (.str x)]) (fun x => !decide (x = near)) .str
      (ew_seq (ed_fin (c1 := 0) (ed_lst (ds := (["cy", "ann", "bob", "eve"] : List Str).map .str) (ea_cons ed_str (ea_cons ed_str (ea_cons ed_str (ea_one ed_str))))) rfl rfl) (.inl rfl)) (fun x _ => eg_name) (fun x _ => et_fin (et_test (ed_op (ed_var rfl) (ed_var rfl) os_neS)) rfl rfl) (fun x _ _ => ed_var rfl) (by decide)) rfl rfl
  have farPos : 0 < ((["cy", "ann", "bob", "eve"] : List Str).filter fun x => !decide (x = near)).length := by
    have key : ∀ x ∈ (["cy", "ann", "bob"] : List Str), 0 < ((["cy", "ann", "bob", "eve"] : List Str).filter fun y => !decide (y = x)).length := by decide +kernel
    exact key near hnear
  refine s_asgN (n := n) h2 Up.tt (of_call hb (i := 0) rfl lfar (.inl rfl) (by rw [List.length_map]; exact farPos) (by rw [List.length_map]; exact Nat.le_trans (List.length_filter_le ..) (by decide))) (by omega) fun s σ3 H3 ⟨d, hd3, es⟩ h3 => ?_
  subst es
  obtain ⟨far, _, ef⟩ := List.mem_map.mp hd3
  subst ef
  have h3 : Holds ⟨K, some b, C, H⟩ [.adr b, .dat pd, .dat (.list (so.map .str)), .dat (.str near), .dat (.str far), .emp, .emp, .dat (.str kd), .dat (eCut cu), .emp] [] (fun _ => True) n σ3 H3 := h3
  have h4 : kd ∈ kinds := kk
  have t3 : EvT ⟨K, some b, C, H⟩ 0 (tTest (tOp (rIn K false) (tVar 7) (tTup (tCons (tC (.str "give")) (tCons (tC (.str "swap")) (tCons (tC (.str "whole")) tNil)))))) [.adr b, .dat pd, .dat (.list (so.map .str)), .dat (.str near), .dat (.str far), .emp, .emp, .dat (.str kd), .dat (eCut cu), .emp] ((["give", "swap", "whole"] : List Str).contains kd) :=
    et_fin (et_test (ed_op (ed_var rfl) (ed_fin (c1 := 0) (ed_tup (ds := (["give", "swap", "whole"] : List Str).map .str) (ea_cons ed_str (ea_cons ed_str (ea_one ed_str)))) rfl rfl) os_inS)) rfl rfl
  apply p_ifN h3 Up.tt t3 rfl
  case k1 =>
    intro hc H4 h5
    have ok : (Deed.four kd near far cu).ok = true := by
      have key : ∀ x : Str, x ∈ kinds → (["give", "swap", "whole"] : List Str).contains x = true → (x != "vest") = true := by decide +kernel
      show (kd != "vest" && cutOk cu) = true
      rw [key kd kk hc, hcu.ok]
      rfl
    apply p_ret (s := .dat (eDeed (.four kd near far cu))) h5 Up.tt
    case h => exact ed_fin (ed_tup (ds := [.str kd, .str near, .str far, eCut cu]) (ea_cons (ed_var rfl) (ea_cons (ed_var rfl) (ea_cons (ed_var rfl) (ea_one (ed_var rfl)))))) rfl rfl
    case hc => rfl
    case k => exact fun v H' h' => q v _ H' _ _ _ σ3 ⟨.four kd near far cu, ⟨ok, hcu, .inl ⟨_, _, _, _, rfl⟩⟩, hkd, rfl⟩ h'
  case k2 =>
    intro hc H4 h5
    have ev : kd = "vest" := by
      have key : ∀ x ∈ kinds, (["give", "swap", "whole"] : List Str).contains x = false → x = "vest" := by decide +kernel
      exact key kd kk hc
    subst ev
    apply p_ifN (b := true) h5 Up.tt
    case h => exact et_fin (et_test (ed_op (ed_var rfl) ed_str os_eqS)) rfl rfl
    case hc => rfl
    case k2 => intro z; cases z
    case k1 =>
      intro _ H5 h6
      have ok : (Deed.one "vest" far cu).ok = true := by
        show (("vest" : Str) != "give" && ("vest" : Str) != "swap" && ("vest" : Str) != "whole" && cutOk cu) = true
        rw [hcu.ok]
        rfl
      apply p_ret (s := .dat (eDeed (.one "vest" far cu))) h6 Up.tt
      case h => exact ed_fin (ed_tup (ds := [.str "vest", .str far, eCut cu]) (ea_cons (ed_var rfl) (ea_cons (ed_var rfl) (ea_one (ed_var rfl))))) rfl rfl
      case hc => rfl
      case k => exact fun v H' h' => q v _ H' _ _ _ σ3 ⟨.one "vest" far cu, ⟨ok, hcu, .inr ⟨_, _, _, rfl⟩⟩, hkd, rfl⟩ h'
end
/-! ### a list that may change is looked at -/
theorem et_peek {B : Bx} {rho : List Sl} {T : Hp → Prop} {n : Nat} {σ : L2.St} {H : Hp} {tt : TT} {l : Addr} {ds : List PyData} {i : Nat} {bb : Bool} (hh : Holds B rho [(l, ds)] T n σ H) (u : Up T) (hi : rho[i]? = some (.adr l)) (h : EvT B 0 tt (rho.set i (.dat (.list ds))) bb)
    {Q : Bool → Hp → Prop} (k : ∀ H', Holds B rho [(l, ds)] T n σ H' → Q bb H') : tt σ H Q := by
  obtain ⟨C, a, b⟩ := hh
  obtain ⟨g1, g2, vs, g3, g4⟩ := a.hot (l, ds) List.mem_cons_self
  have uT : Up fun D => Same C D ∧ D l = some (.lst vs) := fun D D' e z => ⟨z.1.trans e, e _ _ z.2⟩
  have fr : Holds B rho [] (AndV B.K (fun D => Same C D ∧ D l = some (.lst vs)) (.ref l) (.dat (.list ds))) n σ H := by
    obtain ⟨D, x, t, hv⟩ := Holds.freeze (T := fun D => Same C D) ⟨C, a, Same.refl C⟩ (fun D D' e z => z.trans e)
    refine ⟨D, x, ⟨t, ?_⟩, hv⟩
    cases hv with
    | @lst p xs _ h1 h2 =>
      have z := x.sub _ _ h1
      rw [g3] at z
      have e : vs = xs := HO.lst.inj (Option.some.inj z)
      rw [e]
      exact h1
  refine h [] _ n σ H uT (fr.reslot hi) _ fun H' h' => k H' ?_
  obtain ⟨D, x, ys, hD⟩ := h'
  have cl : ∀ q o, C q = some o → (if q = l then none else D q) = some o := fun q o e => by
    rw [if_neg (fun z => by rw [z, g1] at e; cases e)]
    exact ys q o e
  refine ⟨fun q => if q = l then none else D q, ⟨fun q o e => ?_, a.len, fun j s e ne => ?_, fun m hm => ?_, a.nd, fun c e => ?_, fun q o e => cl q o (a.old q o e), fun q o e => ?_⟩, u C _ cl b⟩
  · by_cases z : q = l
    · have e : (if q = l then none else D q) = some o := e
      rw [if_pos z] at e
      cases e
    · have e : (if q = l then none else D q) = some o := e
      rw [if_neg z] at e
      exact x.sub q o e
  · obtain ⟨v, e1, e2⟩ := a.env j s e ne
    exact ⟨v, e1, Vl.up cl e2⟩
  · have e : m = (l, ds) := List.mem_singleton.mp hm
    subst e
    exact ⟨if_pos rfl, g2, vs, x.sub _ _ hD, DtAll.up cl _ _ g4⟩
  · obtain ⟨z1, z2⟩ := x.box c e
    have ne : c ≠ l := fun z => g2.1 (by rw [e, z])
    exact ⟨by show (if c = l then none else D c) = none; rw [if_neg ne]; exact z1, z2⟩
  · have z := x.keep q o e
    have ne : q ≠ l := fun y => by rw [y, show B.H0 l = none from g2.2] at e; cases e
    exact ⟨by show (if q = l then none else D q) = B.C0 q; rw [if_neg ne]; exact z.1, z.2⟩
theorem deed_then {K : PySem.W.Frag} {B : Bx} {rho : List Sl} {mu : List (Addr × List PyData)} {T : Hp → Prop} {n : Nat} {σ : L2.St} {H : Hp} {te : TE} {D : Ends} {t2 : TS} {i : Nat} {so : List Str} (hh : Holds B rho mu T n σ H) (u : Up T) (h : EvD B 0 te rho (.dat (.list (so.map .str))))
    (k : ∀ σ' H', Holds B (rho.set i (.dat (.list (so.map .str)))) mu T n σ' H' → t2 D σ' H') : tAsg te (gName i) { D with nx := t2 D } σ H := s_asg (c := 0) hh u h fun s σ' H' e h' => by
  have e' : s = .dat (.list (so.map .str)) := e
  subst e'
  exact k σ' H' h'
section
variable {P : Program} {w : World} {K : PySem.W.Frag} {mg : Str → Option Value} {base : Heap} {k : Nat}
/-! ### _law_book -/
def kinds3 : List Str := ["give", "vest", "swap"]
def kindsW : List Str := ["give", "vest", "swap", "whole", "whole", "whole"]
theorem wholes_app : ∀ (h : List Deed) (d : Deed) (i : Nat), (wholesFrom i (h ++ [d])).length = (wholesFrom i h).length + if d.kind = "whole" then 1 else 0
  | [], d, i => by
    show (if d.kind = "whole" then i :: wholesFrom (i + 1) [] else wholesFrom (i + 1) []).length = 0 + _
    split <;> rfl
  | x :: h, d, i => by
    have ih := wholes_app h d (i + 1)
    show (if x.kind = "whole" then i :: wholesFrom (i + 1) (h ++ [d]) else wholesFrom (i + 1) (h ++ [d])).length = (if x.kind = "whole" then i :: wholesFrom (i + 1) h else wholesFrom (i + 1) h).length + _
    by_cases c : x.kind = "whole"
    · rw [if_pos c, if_pos c, List.length_cons, List.length_cons, ih]
      omega
    · rw [if_neg c, if_neg c, ih]
structure BookIn where
  pd : PyData
  nm : List Str
structure BookIn.Ok (a : BookIn) : Prop where
  seq : SeqD a.pd (a.nm.map .str)
  names : goodNames a.nm
def goodBook (h : List Deed) : Prop := h.length ≤ 8 ∧ (∀ d ∈ h, goodDeed d) ∧ (wholesM h).length ≤ 4
abbrev sp_law_book (K : PySem.W.Frag) : Sp := spB K 113 (fun a : BookIn => [a.pd, .int 8, .int 4]) BookIn.Ok (fun _ d => ∃ h : List Deed, goodBook h ∧ d = eBook h)
theorem df_law_book (A : At K mg "_law_book" 42) (g : G0 K mg) (D1 : Df P w K mg base CX0 k "_law_take" ["_law_box_here", "_law_below_so"] (sp_law_take K)) (D2 : Df P w K mg base CX0 k "_law_deed" ["_law_box_here", "_law_areas_so", "_law_sorts_so"] (sp_law_deed K)) (D3 : Df P w K mg base CX0 k "_law_wholes" ["_law_deeds_so"] (sp_law_wholes K)) :
    Df P w K mg base CX0 (k + 1) "_law_book" ["_law_box_here", "_law_areas_so", "_law_most_so", "_law_whole_so"] (sp_law_book K) := by
  refine df_box A sc_law_book (fun _ => rfl) (by decide) (fun _ _ _ _ _ _ us hl => match us, hl with | [_, _, _, _], _ => rfl) fun f cdv A outer s H E C a b nk hr ha => ⟨t_law_book K (sp_law_take K) (sp_law_deed K) (sp_law_wholes K), ps_law_book g D1 D2 D3 hr, fun n D σ q hh => ?_⟩
  obtain ⟨pd, nm⟩ := a
  have hb : IsBox ⟨K, some b, C, H⟩ b := ⟨rfl, nk⟩
  unfold t_law_book
  have hh : Holds ⟨K, some b, C, H⟩ [.adr b, .dat pd, .dat (.int 8), .dat (.int 4), .emp, .emp, .emp] [] (fun _ => True) (n + 113) σ H := hh
  apply p_newHotN hh
  intro p σ1 H1 h1
  have h1 : Holds ⟨K, some b, C, H⟩ [.adr b, .dat pd, .dat (.int 8), .dat (.int 4), .adr p, .emp, .emp] [(p, [])] (fun _ => True) (n + 113) σ1 H1 := h1
  apply s_forN (α := List Deed) (n := n) (c0 := 1) (cN := 112) (cI := 14) h1 Up.tt (by omega) (ew_range (S := fun r => r < 9) ((ea_oneR (take_call (m := 9) hb (i := 0) rfl ((ed_op (ed_var (i := 2) rfl) (ed_int (i := 1)) (os_add (i := 8) (j := 1))).to rfl) (by decide) (by decide))).imp fun l ⟨s, ⟨r, hr, es⟩, e⟩ => ⟨(r : Int), by show (r : Int).toNat < 9; omega, by omega, by omega, by rw [e, es]⟩))
    (fun L i x => x.length ≤ i ∧ (∀ d ∈ x, goodDeed d) ∧ (wholesM x).length ≤ 4) (fun _ => [.adr b, .dat pd, .dat (.int 8), .dat (.int 4), .adr p, .emp, .emp]) (fun x => [(p, x.map eDeed)]) [] rfl rfl (fun L _ => ⟨Nat.le_refl _, fun p hp => (by cases hp), Nat.zero_le _⟩)
  case hc =>
    intro L ⟨r, hr, _, e⟩
    rw [e]
    unfold rangeD
    rw [List.length_map, List.length_range]
    omega
  case done =>
    intro L x σ2 H2 ⟨r, hr, _, eL⟩ ⟨i1, i2, i3⟩ h2
    have h3 := (h2.freeze Up.tt).reslot (i := 4) rfl
    have lx : x.length ≤ 8 := by
      rw [eL] at i1
      unfold rangeD at i1
      rw [List.length_map, List.length_range] at i1
      omega
    refine s_retL (c := 0) (n := n) (S := fun s => s = .dat (eBook x)) h3 Up.tt (er_fin (c1 := 0) (ed_cb (ea_one (ed_var (i := 4) rfl)) (cl_tuple (.inl rfl))) rfl fun _ e => e) (Nat.le_refl _) fun v s H' e h' => ?_
    have e' := e
    subst e'
    exact q v _ H' _ _ _ σ2 ⟨x, ⟨lx, i2, i3⟩, rfl⟩ h'
  case turn =>
    intro L i d x T' m N σ' H' v ⟨r, hr, _, eL⟩ hd ⟨i1, i2, i3⟩ up _ h2 next
    have hi : i < 9 := by
      have z := (List.getElem?_eq_some_iff.mp hd).1
      rw [eL] at z
      unfold rangeD at z
      rw [List.length_map, List.length_range] at z
      omega
    refine (eg_name (vs := [5]) (i := 5) (by decide)) _ _ _ _ _ _ up h2 _ fun σ2 _ h3 => ?_
    have h3 : Holds ⟨K, some b, C, H⟩ [.adr b, .dat pd, .dat (.int 8), .dat (.int 4), .adr p, .dat d, .emp] [(p, x.map eDeed)] T' (m + 14) σ2 H' := h3
    have l3 : EvD ⟨K, some b, C, H⟩ 0 (tLst (tCons (tC (.str "give")) (tCons (tC (.str "vest")) (tCons (tC (.str "swap")) tNil)))) [.adr b, .dat pd, .dat (.int 8), .dat (.int 4), .adr p, .dat d, .emp] (.dat (.list (kinds3.map .str))) :=
      ed_fin (ed_lst (ds := kinds3.map .str) (ea_cons ed_str (ea_cons ed_str (ea_one ed_str)))) rfl rfl
    apply p_asgN h3 up l3 rfl
    intro σ3 H3 h4
    have h4 : Holds ⟨K, some b, C, H⟩ [.adr b, .dat pd, .dat (.int 8), .dat (.int 4), .adr p, .dat d, .dat (.list (kinds3.map .str))] [(p, x.map eDeed)] T' (m + 14) σ3 H3 := h4
    -- the deed, by its sorts
    have deed : ∀ (so : List Str) (σ4 : L2.St) (H4 : Hp) (D' : Ends), D'.nx = N → 0 < so.length → so.length ≤ 10 → (∀ s ∈ so, s ∈ kinds) → ((wholesM x).length < 4 ∨ ("whole" : Str) ∉ so) → Holds ⟨K, some b, C, H⟩ [.adr b, .dat pd, .dat (.int 8), .dat (.int 4), .adr p, .dat d, .dat (.list (so.map .str))] [(p, x.map eDeed)] T' (m + 14) σ4 H4 →
        tDrop (tBM K "list" rAppend (tVar 4) (tCons (tCall (sp_law_deed K) [] E0 (tCons (tVar 0) (tCons (tVar 1) (tCons (tVar 6) tNil)))) tNil)) D' σ4 H4 := by
      intro so σ4 H4 D' hN s1 s2 s3 s4 h5
      have cal := er_callB (B := ⟨K, some b, C, H⟩) (rho := [.adr b, .dat pd, .dat (.int 8), .dat (.int 4), .adr p, .dat d, .dat (.list (so.map .str))]) (E := E0) (cost := 14) (enc := fun a : DeedIn => [a.pd, .list (a.so.map .str)]) (ok := DeedIn.Ok) (res := fun a d => ∃ dd : Deed, goodDeed dd ∧ dd.kind ∈ a.so ∧ d = eDeed dd) hb ⟨pd, nm, so⟩ (ea_cons (ed_var (i := 0) rfl) (ea_cons (ed_var (i := 1) rfl) (ea_one (ed_var (i := 6) rfl)))) ⟨ha.seq, ha.names, s1, s2, s3⟩
      refine s_app (n := m) (c := 14) (S := fun s => ∃ dd : Deed, goodDeed dd ∧ dd.kind ∈ so ∧ s = .dat (eDeed dd)) h5 up rfl ((er_fin (c1 := 14) cal rfl fun _ e => e).imp fun s ⟨d, ⟨dd, h1, h2, h3⟩, e⟩ => ⟨d, ⟨dd, h1, h2, by rw [e, h3]⟩, e⟩) (by rw [List.length_map]; omega) fun dd σ5 H5 ⟨de, g1, g2, e⟩ h6 => ?_
      have e := Sl.dat.inj e
      subst e
      rw [hN]
      refine next (x ++ [de]) _ _ ⟨by rw [List.length_append]; exact Nat.succ_le_succ i1, fun y hy => ?_, ?_⟩ ?_
      · rcases List.mem_append.mp hy with hy | hy
        · exact i2 y hy
        · rw [List.mem_singleton.mp hy]
          exact g1
      · rw [wholes_app]
        by_cases c : de.kind = "whole"
        · rw [if_pos c]
          rcases s4 with z | z
          · exact z
          · rw [c] at g2
            exact absurd g2 z
        · rw [if_neg c]
          exact i3
      · rw [List.map_append]
        exact h6.less rfl fun i s e => by
          match i with
          | 0 | 1 | 2 | 3 | 4 => exact .inr e
          | 5 | 6 => exact .inl (Option.some.inj e).symm
          | i + 7 => exact .inr e
    have test : EvT ⟨K, some b, C, H⟩ 0 (tTest (tOp (rI0 fun i j => .bl (decide (i < j))) (tCB (rLenOf K) (tCons (tCall (sp_law_wholes K) [] E0 (tCons (tVar 4) tNil)) tNil)) (tVar 3))) [.adr b, .dat pd, .dat (.int 8), .dat (.int 4), .dat (.list (x.map eDeed)), .dat d, .dat (.list (kinds3.map .str))] (decide ((wholesM x).length < 4)) := by
      have cal : EvD ⟨K, some b, C, H⟩ 0 (tCall (sp_law_wholes K) [] E0 (tCons (tVar 4) tNil)) [.adr b, .dat pd, .dat (.int 8), .dat (.int 4), .dat (.list (x.map eDeed)), .dat d, .dat (.list (kinds3.map .str))] (.dat (.list ((wholesM x).map eNat))) := ed_fin (ed_call (B := ⟨K, some b, C, H⟩) (f := fun a : PyData × List Deed => .list ((wholesM a.2).map eNat)) (.list (x.map eDeed), x) (ea_one (ed_var rfl)) ⟨.inr rfl, by show x.length ≤ 1000; omega⟩) rfl rfl
      refine et_fin (et_test (ed_op (er_fin (c1 := 0) (ed_cb (ea_one cal) (cl_len (.inl rfl))) rfl fun _ e => e) (ed_var rfl) os_lt)) rfl ?_
      rw [List.length_map]
      refine decide_eq_decide.mpr ?_
      omega
    refine s_seq ?_
    refine et_peek (i := 4) h4 up rfl test fun H4 h5 => ?_
    by_cases c : (wholesM x).length < 4
    · rw [decide_eq_true c, if_pos rfl]
      refine deed_then (K := K) (i := 6) (so := kindsW) h5 up ?_ fun σ4 H5 h6 => ?_
      rotate_left
      · exact deed kindsW σ4 H5 _ rfl (by decide) (by decide) (by decide +kernel) (.inl c) h6
      exact ed_fin (ed_op (ed_var (i := 6) rfl) (ed_fin (c1 := 0) (ed_lst (ds := (["whole", "whole", "whole"] : List Str).map .str) (ea_cons ed_str (ea_cons ed_str (ea_one ed_str)))) rfl rfl) (os_cat (by decide))) rfl rfl
    · rw [decide_eq_false c, if_neg Bool.false_ne_true]
      exact deed kinds3 σ3 H4 _ rfl (by decide) (by decide) (by decide +kernel) (.inr (by decide +kernel)) h5
end
end K30
set_option Elab.async false
set_option linter.all false
set_option maxRecDepth 100000
set_option maxHeartbeats 1000000
/-! The plain law: what is let in plays on as what was played. -/
namespace K30
open PySem PySem.Spec PyProof.Rows L2
def playFrom (w : List Point) (i : Nat) (st : List Nat × List Str) (h : List Deed) : List Nat × List Str := (h.zipIdx i).foldl (stepM w) st
theorem play_cons (w : List Point) (i : Nat) (st : List Nat × List Str) (d : Deed) (h : List Deed) : playFrom w i st (d :: h) = playFrom w (i + 1) (stepM w st (d, i)) h := by
  unfold playFrom
  rw [List.zipIdx_cons, List.foldl_cons]
theorem step_else {w : List Point} {st : List Nat × List Str} {d : Deed} {i : Nat} (h : d.kind ≠ "whole") : stepM w st (d, i) = (st.1, turned w st.2 d) := if_neg h
theorem step_yes {w : List Point} {st : List Nat × List Str} {d : Deed} {i : Nat} (h : d.kind = "whole") (f : fine w st.2 d = true) : stepM w st (d, i) = (st.1 ++ [i], turned w st.2 d) := (if_pos h).trans (if_pos f)
theorem step_no {w : List Point} {st : List Nat × List Str} {d : Deed} {i : Nat} (h : d.kind = "whole") (f : ¬ fine w st.2 d = true) : stepM w st (d, i) = st := (if_pos h).trans (if_neg f)
/-- what the fine ones are -/
theorem play_fine (w : List Point) : ∀ (h : List Deed) (i : Nat) (st : List Nat × List Str), (∀ j ∈ st.1, j ∈ (playFrom w i st h).1) ∧ ∀ j ∈ (playFrom w i st h).1, j ∈ st.1 ∨ (i ≤ j ∧ j ∈ wholesFrom i h)
  | [], i, st => ⟨fun j hj => hj, fun j hj => .inl hj⟩
  | d :: h, i, st => by
    rw [play_cons]
    obtain ⟨h1, h2⟩ := play_fine w h (i + 1) (stepM w st (d, i))
    have e : wholesFrom i (d :: h) = if d.kind = "whole" then i :: wholesFrom (i + 1) h else wholesFrom (i + 1) h := rfl
    by_cases k : d.kind = "whole"
    · rw [e, if_pos k]
      by_cases f : fine w st.2 d = true
      · rw [step_yes k f] at h1 h2 ⊢
        refine ⟨fun j hj => h1 j (List.mem_append_left _ hj), fun j hj => ?_⟩
        rcases h2 j hj with z | ⟨z1, z2⟩
        · rcases List.mem_append.mp z with z | z
          · exact .inl z
          · rw [List.mem_singleton.mp z]
            exact .inr ⟨Nat.le_refl _, List.mem_cons_self⟩
        · exact .inr ⟨Nat.le_of_succ_le z1, List.mem_cons_of_mem _ z2⟩
      · rw [step_no k f] at h1 h2 ⊢
        refine ⟨h1, fun j hj => ?_⟩
        rcases h2 j hj with z | ⟨z1, z2⟩
        · exact .inl z
        · exact .inr ⟨Nat.le_of_succ_le z1, List.mem_cons_of_mem _ z2⟩
    · rw [e, if_neg k]
      rw [step_else k] at h1 h2 ⊢
      refine ⟨h1, fun j hj => ?_⟩
      rcases h2 j hj with z | ⟨z1, z2⟩
      · exact .inl z
      · exact .inr ⟨Nat.le_of_succ_le z1, z2⟩
theorem gift_kind {d : Deed} (h : d.ok = true) (k : d.kind = "whole") : d.gift.kind ≠ "whole" := by
  obtain ⟨a, b, c, e, _⟩ := whole_four h k
  subst e
  exact (by decide : ("give" : Str) ≠ "whole")
theorem gift_ok {d : Deed} (h : d.ok = true) (k : d.kind = "whole") : d.gift.ok = true := by
  obtain ⟨a, b, c, e, hc⟩ := whole_four h k
  subst e
  show (("give" : Str) != "vest" && cutOk c) = true
  rw [hc]
  rfl
theorem turned_gift {w : List Point} {os : List Str} {d : Deed} (h : d.ok = true) (k : d.kind = "whole") : turned w os d.gift = turned w os d := by
  unfold turned
  refine congrArg (fun f => List.map f (w.zip os)) (funext fun p => ?_)
  rw [done_whole k, done_else (gift_kind h k)]
theorem play_left (w : List Point) (g : List Nat) : ∀ (h : List Deed) (i : Nat) (st : List Nat × List Str) (i' : Nat) (f0 : List Nat), (∀ d ∈ h, d.ok = true) → (∀ j ∈ st.1, j < i) → (∀ j, i ≤ j → (g.contains j = true ↔ j ∈ (playFrom w i st h).1)) →
    playFrom w i' (f0, st.2) (leftFrom g i h) = (f0, (playFrom w i st h).2)
  | [], i, st, i', f0, _, _, _ => rfl
  | d :: h, i, st, i', f0, hok, hlt, hg => by
    have hd := hok d List.mem_cons_self
    have hh : ∀ d ∈ h, d.ok = true := fun x hx => hok x (List.mem_cons_of_mem _ hx)
    have e : leftFrom g i (d :: h) = if d.kind = "whole" then (if g.contains i = true then d.gift :: leftFrom g (i + 1) h else leftFrom g (i + 1) h) else d :: leftFrom g (i + 1) h := rfl
    rw [play_cons] at hg ⊢
    by_cases k : d.kind = "whole"
    · by_cases f : fine w st.2 d = true
      · rw [step_yes k f] at hg ⊢
        have m : i ∈ (playFrom w (i + 1) (st.1 ++ [i], turned w st.2 d) h).1 := (play_fine w h (i + 1) _).1 i (List.mem_append_right _ (List.mem_singleton.mpr rfl))
        rw [e, if_pos k, if_pos ((hg i (Nat.le_refl _)).mpr m), play_cons, step_else (gift_kind hd k), turned_gift hd k]
        refine play_left w g h (i + 1) (st.1 ++ [i], turned w st.2 d) (i' + 1) f0 hh (fun j hj => ?_) fun j hj => hg j (Nat.le_of_succ_le hj)
        rcases List.mem_append.mp hj with z | z
        · exact Nat.lt_succ_of_lt (hlt j z)
        · rw [List.mem_singleton.mp z]
          exact Nat.lt_succ_self _
      · rw [step_no k f] at hg ⊢
        have m : ¬ i ∈ (playFrom w (i + 1) st h).1 := fun z => by
          rcases (play_fine w h (i + 1) st).2 i z with y | y
          · exact absurd (hlt i y) (Nat.lt_irrefl _)
          · exact absurd y.1 (Nat.not_succ_le_self _)
        rw [e, if_pos k, if_neg fun z => m ((hg i (Nat.le_refl _)).mp z)]
        exact play_left w g h (i + 1) st i' f0 hh (fun j hj => Nat.lt_succ_of_lt (hlt j hj)) fun j hj => hg j (Nat.le_of_succ_le hj)
    · rw [step_else k] at hg ⊢
      rw [e, if_neg k, play_cons, step_else k]
      exact play_left w g h (i + 1) (st.1, turned w st.2 d) (i' + 1) f0 hh (fun j hj => Nat.lt_succ_of_lt (hlt j hj)) fun j hj => hg j (Nat.le_of_succ_le hj)
theorem left_play {w : List Point} {h : List Deed} (hok : ∀ d ∈ h, d.ok = true) : playM w (leftM h (playM w h).1) = ([], (playM w h).2) :=
  play_left w (playM w h).1 h 0 ([], w.map Point.own) 0 [] hok (fun j hj => by cases hj) fun j _ => List.contains_iff_mem
theorem fine_wholes {w : List Point} {h : List Deed} : ∀ j ∈ (playM w h).1, j ∈ wholesM h := fun j hj => by
  rcases (play_fine w h 0 ([], w.map Point.own)).2 j hj with z | z
  · cases z
  · exact z.2
theorem left_wholes (g : List Nat) : ∀ (h : List Deed) (i i' : Nat), (∀ d ∈ h, d.ok = true) → wholesFrom i' (leftFrom g i h) = []
  | [], _, _, _ => rfl
  | d :: h, i, i', hok => by
    have hh : ∀ d ∈ h, d.ok = true := fun x hx => hok x (List.mem_cons_of_mem _ hx)
    have e : leftFrom g i (d :: h) = if d.kind = "whole" then (if g.contains i = true then d.gift :: leftFrom g (i + 1) h else leftFrom g (i + 1) h) else d :: leftFrom g (i + 1) h := rfl
    have w : ∀ (x : Deed) (l : List Deed), x.kind ≠ "whole" → wholesFrom i' (x :: l) = wholesFrom (i' + 1) l := fun x l hx => if_neg hx
    rw [e]
    by_cases k : d.kind = "whole"
    · rw [if_pos k]
      by_cases c : g.contains i = true
      · rw [if_pos c, w _ _ (gift_kind (hok d List.mem_cons_self) k)]
        exact left_wholes g h (i + 1) (i' + 1) hh
      · rw [if_neg c]
        exact left_wholes g h (i + 1) i' hh
    · rw [if_neg k, w _ _ k]
      exact left_wholes g h (i + 1) (i' + 1) hh
theorem left_ok (g : List Nat) : ∀ (h : List Deed) (i : Nat), (∀ d ∈ h, d.ok = true) → (∀ d ∈ leftFrom g i h, d.ok = true) ∧ (leftFrom g i h).length ≤ h.length
  | [], _, _ => ⟨fun d hd => (by cases hd), Nat.le_refl _⟩
  | d :: h, i, hok => by
    obtain ⟨h1, h2⟩ := left_ok g h (i + 1) fun x hx => hok x (List.mem_cons_of_mem _ hx)
    have e : leftFrom g i (d :: h) = if d.kind = "whole" then (if g.contains i = true then d.gift :: leftFrom g (i + 1) h else leftFrom g (i + 1) h) else d :: leftFrom g (i + 1) h := rfl
    rw [e]
    by_cases k : d.kind = "whole"
    · rw [if_pos k]
      by_cases c : g.contains i = true
      · rw [if_pos c]
        refine ⟨fun x hx => ?_, Nat.succ_le_succ h2⟩
        rcases List.mem_cons.mp hx with z | z
        · rw [z]
          exact gift_ok (hok d List.mem_cons_self) k
        · exact h1 x z
      · rw [if_neg c]
        exact ⟨h1, Nat.le_succ_of_le h2⟩
    · rw [if_neg k]
      refine ⟨fun x hx => ?_, Nat.succ_le_succ h2⟩
      rcases List.mem_cons.mp hx with z | z
      · rw [z]
        exact hok d List.mem_cons_self
      · exact h1 x z
/-! ### soft and hard -/
mutual
theorem tup_list : ∀ d : PyData, tupD (listD d) = tupD d
  | .none => rfl
  | .bool _ => rfl
  | .int _ => rfl
  | .str _ => rfl
  | .dict _ => rfl
  | .list l => by show PyData.tuple (tupDs (listDs l)) = .tuple (tupDs l); rw [tup_lists l]
  | .tuple l => by show PyData.tuple (tupDs (listDs l)) = .tuple (tupDs l); rw [tup_lists l]
theorem tup_lists : ∀ l : List PyData, tupDs (listDs l) = tupDs l
  | [] => rfl
  | d :: l => by show tupD (listD d) :: tupDs (listDs l) = tupD d :: tupDs l; rw [tup_list d, tup_lists l]
end
theorem okD_list : ∀ (n : Nat) (d : PyData), okD n d = true → okD n (listD d) = true
  | 0, _, h => by cases h
  | n + 1, .none, _ => rfl
  | n + 1, .bool _, _ => rfl
  | n + 1, .int _, _ => rfl
  | n + 1, .str _, _ => rfl
  | n + 1, .dict _, h => by cases h
  | n + 1, .list l, h => by
    have h : (decide (l.length ≤ 1000) && l.all (okD n)) = true := h
    rw [Bool.and_eq_true] at h
    show (decide ((listDs l).length ≤ 1000) && (listDs l).all (okD n)) = true
    rw [listDs_map, List.length_map, h.1, List.all_map, Bool.true_and]
    exact List.all_eq_true.mpr fun x hx => okD_list n x (List.all_eq_true.mp h.2 x hx)
  | n + 1, .tuple l, h => by
    have h : (decide (l.length ≤ 1000) && l.all (okD n)) = true := h
    rw [Bool.and_eq_true] at h
    show (decide ((listDs l).length ≤ 1000) && (listDs l).all (okD n)) = true
    rw [listDs_map, List.length_map, h.1, List.all_map, Bool.true_and]
    exact List.all_eq_true.mpr fun x hx => okD_list n x (List.all_eq_true.mp h.2 x hx)
theorem okD_tup {n : Nat} {l : List PyData} (h1 : l.length ≤ 1000) (h2 : ∀ x ∈ l, okD n x = true) : okD (n + 1) (.tuple l) = true := by
  show (decide (l.length ≤ 1000) && l.all (okD n)) = true
  rw [decide_eq_true h1, List.all_eq_true.mpr h2]
  rfl
theorem okD_lst {n : Nat} {l : List PyData} (h1 : l.length ≤ 1000) (h2 : ∀ x ∈ l, okD n x = true) : okD (n + 1) (.list l) = true := okD_tup h1 h2
theorem okD_map {β : Type} {e : β → PyData} {n : Nat} {l : List β} (h1 : l.length ≤ 1000) (h2 : ∀ x ∈ l, okD n (e x) = true) : okD (n + 1) (.tuple (l.map e)) = true := okD_tup (by rw [List.length_map]; exact h1) fun x hx => by
  obtain ⟨y, hy, ey⟩ := List.mem_map.mp hx
  exact ey ▸ h2 y hy
theorem okD_cut {n : Nat} {c : Cut} (h : cutOk c = true) : okD (n + 4) (eCut c) = true := okD_map (cutOk_len h) fun x hx => okD_map (cutOk_mem h hx) fun p _ => rfl
theorem okD_deed {n : Nat} {d : Deed} (h : d.ok = true) : okD (n + 5) (eDeed d) = true := by
  cases d with
  | four k a b c =>
    have hc := okD_cut (n := n) (Deed.okCut h)
    exact okD_tup (l := [.str k, .str a, .str b, eCut c]) (Nat.le_of_ble_eq_true rfl) fun x hx => by
      simp only [List.mem_cons, List.mem_nil_iff, or_false] at hx
      rcases hx with e | e | e | e
      · rw [e]; rfl
      · rw [e]; rfl
      · rw [e]; rfl
      · rw [e]; exact hc
  | one k a c =>
    have hc := okD_cut (n := n) (Deed.okCut h)
    exact okD_tup (l := [.str k, .str a, eCut c]) (Nat.le_of_ble_eq_true rfl) fun x hx => by
      simp only [List.mem_cons, List.mem_nil_iff, or_false] at hx
      rcases hx with e | e | e
      · rw [e]; rfl
      · rw [e]; rfl
      · rw [e]; exact hc
  | two k c e =>
    have h : (k != "give" && k != "swap" && k != "whole" && k != "vest" && (cutOk c && cutOk e)) = true := h
    simp only [Bool.and_eq_true] at h
    have h1 := okD_cut (n := n) h.2.1
    have h2 := okD_cut (n := n) h.2.2
    exact okD_tup (l := [.str k, eCut c, eCut e]) (Nat.le_of_ble_eq_true rfl) fun x hx => by
      simp only [List.mem_cons, List.mem_nil_iff, or_false] at hx
      rcases hx with e | e | e
      · rw [e]; rfl
      · rw [e]; exact h1
      · rw [e]; exact h2
theorem okD_book {n : Nat} {h : List Deed} (hl : h.length ≤ 1000) (hok : ∀ d ∈ h, d.ok = true) : okD (n + 6) (eBook h) = true := okD_map hl fun d hd => okD_deed (hok d hd)
theorem okD_point {n : Nat} {p : Point} (h : p.spot.length ≤ 1000) : okD (n + 3) (ePoint p) = true := okD_tup (l := [eSpot p.spot, .int p.size, .str p.own]) (Nat.le_of_ble_eq_true rfl) fun x hx => by
  simp only [List.mem_cons, List.mem_nil_iff, or_false] at hx
  rcases hx with e | e | e
  · rw [e]; exact okD_map h fun _ _ => rfl
  · rw [e]; rfl
  · rw [e]; rfl
theorem okD_world {n : Nat} {w : List Point} (hl : w.length ≤ 1000) (h : ∀ p ∈ w, p.spot.length ≤ 1000) : okD (n + 4) (eWorld w) = true := okD_map hl fun p hp => okD_point (h p hp)
theorem okD_nats {n : Nat} {l : List Nat} (hl : l.length ≤ 1000) : okD (n + 2) (eNats l) = true := okD_map hl fun _ _ => rfl
theorem okD_names {n : Nat} {l : List Str} (hl : l.length ≤ 1000) : okD (n + 2) (eNames l) = true := okD_map hl fun _ _ => rfl
/-! hard data stay under tupled -/
theorem hard_map {β : Type} {e : β → PyData} (h : ∀ x, tupD (e x) = e x) (l : List β) : tupD (.tuple (l.map e)) = .tuple (l.map e) := by
  show PyData.tuple (tupDs (l.map e)) = _
  rw [tupDs_map, List.map_map]
  exact congrArg (fun f => PyData.tuple (l.map f)) (funext fun x => h x)
theorem hard_cut (c : Cut) : tupD (eCut c) = eCut c := hard_map (fun x => hard_map (fun _ => rfl) x) c
theorem hard_deed (d : Deed) : tupD (eDeed d) = eDeed d := by
  cases d with
  | four k a b c =>
    show PyData.tuple [.str k, .str a, .str b, tupD (eCut c)] = _
    rw [hard_cut]
    rfl
  | one k a c =>
    show PyData.tuple [.str k, .str a, tupD (eCut c)] = _
    rw [hard_cut]
    rfl
  | two k c e =>
    show PyData.tuple [.str k, tupD (eCut c), tupD (eCut e)] = _
    rw [hard_cut, hard_cut]
    rfl
theorem hard_book (h : List Deed) : tupD (eBook h) = eBook h := hard_map hard_deed h
theorem hard_world (w : List Point) : tupD (eWorld w) = eWorld w := hard_map (fun p => by
  show PyData.tuple [tupD (eSpot p.spot), .int p.size, .str p.own] = _
  rw [show tupD (eSpot p.spot) = eSpot p.spot from hard_map (fun _ => rfl) p.spot]
  rfl) w
end K30
set_option Elab.async false
set_option linter.all false
set_option maxRecDepth 100000
set_option maxHeartbeats 1000000
namespace K30
open PySem PySem.Spec PyProof.Rows L2
/-! ### the promise of played and check_wholes -/
structure PlIn where
  hd : PyData
  gd : PyData
  h : List Deed
  g : List Int
/-- the first place that is no whole's -/
def PlIn.bad (a : PlIn) : Option Int := a.g.find? fun i => !((wholesM a.h).map fun n : Nat => (n : Int)).contains i
structure PlIn.Ok (a : PlIn) : Prop where
  dh : okD dep a.hd = true
  sh : tupD a.hd = eBook a.h
  lh : a.h.length ≤ 999
  ok : ∀ d ∈ a.h, d.ok = true
  sg : SeqD a.gd (a.g.map .int)
  lg : a.g.length ≤ 1000
/-- the exception's class is at Cn; it carries the place -/
def spX (K : PySem.W.Frag) (Cn : Addr) {α : Type} (enc : α → List PyData) (ok : α → Prop) (bad : α → Option Int) (res : α → PyData) : Sp := fun vs H Q E => ∃ C a, Same C H ∧ DtAll K C vs (enc a) ∧ ok a ∧
  (bad a = none → ∀ v C' H', Same H H' → Same C C' → Same C' H' → (∀ a o, H a = some o → C' a = C a) → Dt K C' v (res a) → Q v H') ∧
  ∀ i, bad a = some i → ∀ d H', Same H H' → H d = none → H' d = some (.xd [(("place" : Str), .int i)]) → E (.ref Cn) (some d) H'
abbrev sp_played (K : PySem.W.Frag) (Cn : Addr) : Sp := spX K Cn (fun a : PlIn => [a.hd, a.gd]) PlIn.Ok PlIn.bad (fun a => eBook (leftM a.h (a.g.map Int.toNat)))
section
variable {B : Bx} {rho rho' : List Sl} {mu : List (Addr × List PyData)} {T : Hp → Prop} {n c m : Nat} {σ : L2.St} {H : Hp} {ta tA : TA} {gs : TGs} {vs : List Nat} {ss : List Sl} {D : Ends} {t2 : TS}
theorem ed_callX {α : Type} {Cn : Addr} {enc : α → List PyData} {ok : α → Prop} {bad : α → Option Int} {res : α → PyData} {E : XK} (a : α) (h : EvA B c tA rho (fun l => l = (enc a).map .dat)) (hp : ok a) (hb : bad a = none) : EvD B c (tCall (spX B.K Cn enc ok bad res) [] E tA) rho (.dat (res a)) := fun mu T n σ H u hh Q q =>
  h mu T n σ H u hh _ fun vs H1 ss e h1 => by
    have e' : ss = (enc a).map .dat := e
    subst e'
    obtain ⟨C, x, b, hv⟩ := h1
    exact ⟨C, a, x.sub, by rw [List.append_nil]; exact VlAll.dats hv, hp, fun _ v C' H' z1 z2 z3 z4 hv' => q v H' (.dat (res a)) rfl ⟨C', x.ext z1 z2 z3 z4, u _ _ z2 b, hv'⟩, fun i hi => by rw [hb] at hi; cases hi⟩
/-- a, b = (..), a tuple laid and opened -/
theorem p_asgTupN (hh : Holds B rho mu T n σ H) (u : Up T) (h : EvA B c ta rho (fun l => l = ss)) (hc : c = 0) (hl : ss.length ≤ 1000) (hm : ss.length = m) (g : EvGs B gs vs ss rho rho') (k : ∀ σ' H', Holds B rho' mu T n σ' H' → t2 D σ' H') : tSeq (tAsg (tTup ta) (gTup B.K m gs)) t2 D σ H := by
  subst hc
  refine asg_tup (h mu T n σ H u hh _ fun us H1 ss' e h1 => ?_)
  have e' : ss' = ss := e
  subst e'
  have len : us.length = ss'.length := by
    obtain ⟨C, _, _, hv⟩ := h1
    exact VlAll.len hv
  refine ⟨by rw [len]; exact Nat.le_of_lt (small1000 hl), fun p hp => ?_⟩
  have h2 := h1.cold u.andA hp (.tup us) (P := fun C => SqT B.K C p us) fun C _ _ _ => .inl (.inl upd_same)
  exact ⟨p, us, rfl, .inl (.inl upd_same), by rw [len, hm], g mu T n σ _ us u (h2.imp fun C z => z.1) _ fun σ' _ h3 => k σ' _ h3⟩
end
theorem bad_none {a : PlIn} (h : ∀ i ∈ a.g, ∃ n ∈ wholesM a.h, i = (n : Int)) : a.bad = none := by
  unfold PlIn.bad
  rw [List.find?_eq_none]
  intro i hi
  obtain ⟨n, hn, e⟩ := h i hi
  have z : ((wholesM a.h).map fun n : Nat => (n : Int)).contains i = true := List.contains_iff_mem.mpr (List.mem_map.mpr ⟨n, hn, e.symm⟩)
  rw [z]
  decide
/-! ### _law_case_right -/
structure CaseIn where
  h : List Deed
  w : List Point
structure CaseIn.Ok (a : CaseIn) : Prop where
  lh : a.h.length ≤ 100
  ok : ∀ d ∈ a.h, d.ok = true
  lw : a.w.length ≤ 100
  sp : ∀ p ∈ a.w, p.spot.length ≤ 1000
  wh : (wholesM a.h).length ≤ 6
theorem wholes_len : ∀ (h : List Deed) (i : Nat), (wholesFrom i h).length ≤ h.length
  | [], _ => Nat.le_refl _
  | d :: h, i => by
    show (if d.kind = "whole" then i :: wholesFrom (i + 1) h else wholesFrom (i + 1) h).length ≤ h.length + 1
    have := wholes_len h (i + 1)
    split
    · exact Nat.succ_le_succ this
    · exact Nat.le_succ_of_le this
theorem play_len (w : List Point) : ∀ (h : List Deed) (i : Nat) (st : List Nat × List Str), st.2.length = w.length → (playFrom w i st h).1.length ≤ st.1.length + h.length ∧ (playFrom w i st h).2.length = w.length
  | [], _, st, e => ⟨Nat.le_refl _, e⟩
  | d :: h, i, st, e => by
    rw [play_cons]
    obtain ⟨h1, h2⟩ := play_len w h (i + 1) (stepM w st (d, i)) (step_len e)
    refine ⟨Nat.le_trans h1 ?_, h2⟩
    have := step_fine (w := w) (x := (d, i)) (Nat.le_refl st.1.length)
    rw [List.length_cons]
    omega
abbrev sp_law_case_right (K : PySem.W.Frag) : Sp := spP K (fun a : CaseIn => [eBook a.h, eWorld a.w]) CaseIn.Ok (fun _ d => d = .bool true)
section
variable {P : Program} {w : World} {K : PySem.W.Frag} {mg : Str → Option Value} {base : Heap} {k : Nat}
theorem df_law_case_right {Cn : Addr} (A : At K mg "_law_case_right" 46) (g : G0 K mg) (D1 : Df P w K mg base CX0 k "_law_same" ["_law_got", "_law_due"] (sp_law_same K dep)) (D2 : Df P w K mg base CX0 k "_law_lists" ["_law_matter_so"] (sp_law_lists K dep)) (D3 : Df P w K mg base CX0 k "wholes_of" ["history"] (sp_wholes_of K))
    (D4 : Df P w K mg base CX0 k "let_wholes" ["world", "history"] (sp_let_wholes K)) (D5 : Df P w K mg base CX0 k "owners_in" ["world", "history"] (sp_owners_in K)) (D6 : Df P w K mg base (L2.CX P w) k "played" ["history", "guess"] (sp_played K Cn)) (D7 : Df P w K mg base CX0 k "_law_subs" ["_law_some_so"] (sp_law_subs K))
    (D8 : Df P w K mg base CX0 k "_law_wholes" ["_law_deeds_so"] (sp_law_wholes K)) (D9 : Df P w K mg base CX0 k "_law_left" ["_law_deeds_so", "_law_lot_so"] (sp_law_left K)) (D10 : Df P w K mg base CX0 k "_law_play" ["_law_world_so", "_law_deeds_so"] (sp_law_play K)) :
    Df P w K mg base CX0 (k + 1) "_law_case_right" ["_law_deeds_so", "_law_world_so"] (sp_law_case_right K) := by
  refine df_pure A sc_law_case_right (fun _ => rfl) (by decide) (fun _ _ _ _ _ _ us hl => match us, hl with | [_, _], _ => rfl) fun f cdv A outer s H E C a hr ha => ⟨t_law_case_right K _ _ _ _ _ _ _ _ _ _, ps_law_case_right g D1 D2 D3 D4 D5 D6 D7 D8 D9 D10 hr, fun D σ q hh => ?_⟩
  obtain ⟨h, w⟩ := a
  obtain ⟨lh, ok, lw, hsp, wh⟩ := ha
  have lh : h.length ≤ 100 := lh
  have ok : ∀ d ∈ h, d.ok = true := ok
  have lw : w.length ≤ 100 := lw
  have hsp : ∀ p ∈ w, p.spot.length ≤ 1000 := hsp
  have wh : (wholesM h).length ≤ 6 := wh
  obtain ⟨B, hB⟩ : ∃ B : Bx, B = ⟨K, none, C, H⟩ := ⟨_, rfl⟩
  have eK : K = B.K := by rw [hB]
  rw [← hB] at hh q
  clear hB
  subst eK
  have hh : Holds B [.dat (eBook h), .dat (eWorld w), .emp, .emp, .emp, .emp, .emp, .emp, .emp, .emp] [] (fun _ => True) 0 σ H := hh
  have u : Up fun _ => True := Up.tt
  -- sizes
  have pl := play_len w h 0 ([], w.map Point.own) (by rw [List.length_map])
  have fl : (playM w h).1.length ≤ 100 := by
    have z : (playM w h).1.length ≤ 0 + h.length := pl.1
    omega
  have ol : (playM w h).2.length ≤ 100 := by
    have z : (playM w h).2.length = w.length := pl.2
    omega
  obtain ⟨fi, hfi⟩ : ∃ fi, fi = (playM w h).1 := ⟨_, rfl⟩
  obtain ⟨os, hos⟩ : ∃ os, os = (playM w h).2 := ⟨_, rfl⟩
  obtain ⟨wl, hwl⟩ : ∃ wl, wl = wholesM h := ⟨_, rfl⟩
  obtain ⟨sh, hsh⟩ : ∃ sh, sh = listD (eBook h) := ⟨_, rfl⟩
  obtain ⟨sw, hsw⟩ : ∃ sw, sw = listD (eWorld w) := ⟨_, rfl⟩
  have dB : ∀ n, okD (n + 6) (eBook h) = true := fun n => okD_book (by omega) ok
  have dW : ∀ n, okD (n + 4) (eWorld w) = true := fun n => okD_world (by omega) hsp
  have dS : ∀ n, okD (n + 6) sh = true := fun n => by rw [hsh]; exact okD_list _ _ (dB n)
  have dT : ∀ n, okD (n + 4) sw = true := fun n => by rw [hsw]; exact okD_list _ _ (dW n)
  have tS : tupD sh = eBook h := by rw [hsh, tup_list, hard_book]
  have tT : tupD sw = eWorld w := by rw [hsw, tup_list, hard_world]
  have wbH : WB.Ok ⟨eWorld w, eBook h, w, h⟩ := ⟨dW 8, dB 6, hard_world w, hard_book h, by show w.length ≤ 1000; omega, by show h.length ≤ 999; omega, ok⟩
  have wbS : WB.Ok ⟨sw, sh, w, h⟩ := ⟨dT 8, dS 6, tT, tS, by show w.length ≤ 1000; omega, by show h.length ≤ 999; omega, ok⟩
  have pair : ∀ {rho : List Sl}, rho[0]? = some (.dat (eBook h)) → rho[1]? = some (.dat (eWorld w)) → EvD B 0 (tCall (sp_law_lists B.K dep) [] E0 (tCons (tLst (tCons (tVar 0) (tCons (tVar 1) tNil))) tNil)) rho (.dat (.list [sh, sw])) := fun {rho} h0 h1 => by
    refine ed_fin (ed_call (f := fun d => listD d) (.list [eBook h, eWorld w]) (ea_one (ed_fin (c1 := 0) (ed_lst (ds := [eBook h, eWorld w]) (ea_cons (ed_var h0) (ea_one (ed_var h1)))) rfl rfl)) (okD_lst (n := 11) (Nat.le_of_ble_eq_true rfl) fun x hx => ?_)) rfl ?_
    · simp only [List.mem_cons, List.mem_nil_iff, or_false] at hx
      rcases hx with e | e
      · rw [e]; exact dB 5
      · rw [e]; exact dW 7
    · rw [hsh, hsw]
      rfl
  unfold t_law_case_right
  -- soft, (fine, owners, bad)
  apply p_asgTupN (ss := [.dat (.list [sh, sw]), .row 1 [eNats fi, eNames os]]) hh u
    (h := ea_cons (c1 := 0) (c2 := 0) (pair rfl rfl) (ea_cons (c1 := 0) (c2 := 0) (by
      rw [hfi, hos]
      exact ed_callS (B := B) (E := E0) (enc := fun a : List Point × List Deed => [eWorld a.1, eBook a.2]) (ok := fun a => a.1.length ≤ 999 ∧ a.2.length ≤ 999 ∧ ∀ d ∈ a.2, d.ok = true) (res := fun a => .row 1 [eNats (playM a.1 a.2).1, eNames (playM a.1 a.2).2]) (w, h) (ea_cons (ed_var rfl) (ea_one (ed_var rfl))) ⟨by show w.length ≤ 999; omega, by show h.length ≤ 999; omega, ok⟩) ea_nil))
    (hc := rfl) (hl := Nat.le_of_ble_eq_true rfl) (hm := rfl) (g := egs_cons (vs := [6, 7, 8, 9]) eg_name (egs_cons (eg_row (j := 1) (ds := [eNats fi, eNames os]) (egs_cons eg_name (egs_cons eg_name (egs_cons eg_name egs_nil)))) egs_nil))
  intro σ1 H1 h1
  have h1 : Holds B [.dat (eBook h), .dat (eWorld w), .emp, .emp, .emp, .emp, .dat (.list [sh, sw]), .dat (eNats fi), .dat (eNames os), .emp] [] (fun _ => True) 0 σ1 H1 := h1
  -- got
  apply p_asgN (s := .dat (.list [eNats fi, eNames os, eNats wl])) h1 u
  case h =>
    refine ed_fin (ed_lst (ds := [eNats fi, eNames os, eNats wl]) (ea_cons (c1 := 0) (ed_fin (c1 := 0) (ed_call (f := fun a : WB => eNats (playM a.w a.h).1) ⟨eWorld w, eBook h, w, h⟩ (ea_cons (ed_var rfl) (ea_one (ed_var rfl))) wbH) rfl (by rw [hfi])) (ea_cons (c1 := 0) (ed_fin (c1 := 0) (ed_call (f := fun a : WB => eNames (playM a.w a.h).2) ⟨eWorld w, eBook h, w, h⟩ (ea_cons (ed_var rfl) (ea_one (ed_var rfl))) wbH) rfl (by rw [hos]))
      (ea_one (ed_fin (c1 := 0) (ed_call (f := fun a : PyData × List Deed => eNats (wholesM a.2)) (eBook h, h) (ea_one (ed_var rfl)) ⟨hard_book h, by show h.length ≤ 1000; omega⟩) rfl (by rw [hwl])))))) rfl rfl
  case hc => rfl
  case k =>
  intro σ2 H2 h2
  have h2 : Holds B [.dat (eBook h), .dat (eWorld w), .dat (.list [eNats fi, eNames os, eNats wl]), .emp, .emp, .emp, .dat (.list [sh, sw]), .dat (eNats fi), .dat (eNames os), .emp] [] (fun _ => True) 0 σ2 H2 := h2
  have e60 : ∀ {rho : List Sl}, rho[6]? = some (.dat (.list [sh, sw])) → EvD B 0 (tOp (rIx B.K) (tVar 6) (tC (.int 0))) rho (.dat sh) := fun h6 => ed_fin (ed_op (ed_var h6) ed_int (os_ix (.inl rfl) rfl)) rfl rfl
  have e61 : ∀ {rho : List Sl}, rho[6]? = some (.dat (.list [sh, sw])) → EvD B 0 (tOp (rIx B.K) (tVar 6) (tC (.int 1))) rho (.dat sw) := fun h6 => ed_fin (ed_op (ed_var h6) ed_int (os_ix (.inl rfl) rfl)) rfl rfl
  obtain ⟨six, hsix⟩ : ∃ six : List PyData, six = [eNats fi, eNames os, eNats wl, eNats fi, eNames os, eNats wl] := ⟨_, rfl⟩
  apply p_asgN (s := .dat (.list six)) h2 u
  case h =>
    refine ed_fin (ed_op (ed_var rfl) (ed_lst (ds := [eNats fi, eNames os, eNats wl]) (ea_cons (c1 := 0) (ed_fin (c1 := 0) (ed_call (f := fun a : WB => eNats (playM a.w a.h).1) ⟨sw, sh, w, h⟩ (ea_cons (e61 rfl) (ea_one (e60 rfl))) wbS) rfl (by rw [hfi])) (ea_cons (c1 := 0) (ed_fin (c1 := 0) (ed_call (f := fun a : WB => eNames (playM a.w a.h).2) ⟨sw, sh, w, h⟩ (ea_cons (e61 rfl) (ea_one (e60 rfl))) wbS) rfl (by rw [hos]))
      (ea_one (ed_fin (c1 := 0) (ed_call (f := fun a : PyData × List Deed => eNats (wholesM a.2)) (sh, h) (ea_one (e60 rfl)) ⟨tS, by show h.length ≤ 1000; omega⟩) rfl (by rw [hwl])))))) (os_cat (Nat.le_of_ble_eq_true rfl))) rfl (by rw [hsix]; rfl)
  case hc => rfl
  case k =>
  intro σ3 H3 h3
  have h3 : Holds B [.dat (eBook h), .dat (eWorld w), .dat (.list six), .emp, .emp, .emp, .dat (.list [sh, sw]), .dat (eNats fi), .dat (eNames os), .emp] [] (fun _ => True) 0 σ3 H3 := h3
  have lwh : ∀ {rho : List Sl}, rho[0]? = some (.dat (eBook h)) → EvD B 0 (tCall (sp_law_wholes B.K) [] E0 (tCons (tVar 0) tNil)) rho (.dat (.list (wl.map eNat))) := fun h0 => ed_fin (ed_call (f := fun a : PyData × List Deed => .list ((wholesM a.2).map eNat)) (eBook h, h) (ea_one (ed_var h0)) ⟨.inl rfl, by show h.length ≤ 1000; omega⟩) rfl (by rw [hwl])
  apply p_asgN (s := .dat (.list six)) h3 u
  case h =>
    refine ed_fin (ed_op (ed_lst (ds := [eNats fi, eNames os, eNats wl]) (ea_cons (ed_var rfl) (ea_cons (ed_var rfl) (ea_one (er_fin (c1 := 0) (ed_cb (ea_one (lwh rfl)) (cl_tuple (.inl rfl))) rfl fun _ e => e))))) ed_int (os_rep (k := 2) (Nat.le_of_ble_eq_true rfl) (by decide))) rfl (by rw [hsix]; rfl)
  case hc => rfl
  case k =>
  intro σ4 H4 h4
  have h4 : Holds B [.dat (eBook h), .dat (eWorld w), .dat (.list six), .dat (.list six), .emp, .emp, .dat (.list [sh, sw]), .dat (eNats fi), .dat (eNames os), .emp] [] (fun _ => True) 0 σ4 H4 := h4
  have plOk : ∀ (hd gd : PyData) (g : List Nat), (hd = eBook h ∨ hd = sh) → SeqD gd (g.map eNat) → g.length ≤ 1000 → (PlIn.mk hd gd h (g.map fun n : Nat => (n : Int))).Ok := by
    intro hd gd g h1 h2 h3
    refine ⟨?_, ?_, by show h.length ≤ 999; omega, ok, ?_, by show (g.map _).length ≤ 1000; rw [List.length_map]; exact h3⟩
    · rcases h1 with e | e
      · rw [e]; exact dB 6
      · rw [e]; exact dS 6
    · rcases h1 with e | e
      · rw [e]; exact hard_book h
      · rw [e]; exact tS
    · show SeqD gd ((g.map fun n : Nat => (n : Int)).map .int)
      rw [List.map_map]
      exact h2
  have plGo : ∀ (hd gd : PyData) (g : List Nat), (∀ x ∈ g, x ∈ wholesM h) → (PlIn.mk hd gd h (g.map fun n : Nat => (n : Int))).bad = none := fun hd gd g hg => bad_none fun i hi => by
    obtain ⟨n, hn, e⟩ := List.mem_map.mp hi
    exact ⟨n, hg n hn, e.symm⟩
  have toN : ∀ g : List Nat, (g.map fun n : Nat => (n : Int)).map Int.toNat = g := fun g => by
    rw [List.map_map]
    exact List.map_id'' (fun n => Int.toNat_natCast n) g
  have playedE : ∀ {rho : List Sl} {ta tb : TE} (hd gd : PyData) (g : List Nat), (hd = eBook h ∨ hd = sh) → SeqD gd (g.map eNat) → g.length ≤ 1000 → (∀ x ∈ g, x ∈ wholesM h) → EvD B 0 ta rho (.dat hd) → EvD B 0 tb rho (.dat gd) → EvD B 0 (tCall (sp_played B.K Cn) [] E0 (tCons ta (tCons tb tNil))) rho (.dat (eBook (leftM h g))) := by
    intro rho ta tb hd gd g h1 h2 h3 h4 h5 h6
    refine ed_fin (ed_callX (Cn := Cn) (E := E0) (enc := fun a : PlIn => [a.hd, a.gd]) (ok := PlIn.Ok) (bad := PlIn.bad) (res := fun a => eBook (leftM a.h (a.g.map Int.toNat))) (PlIn.mk hd gd h (g.map fun n : Nat => (n : Int))) (ea_cons h5 (ea_one h6)) (plOk hd gd g h1 h2 h3) (plGo hd gd g h4)) rfl ?_
    show Sl.dat (eBook (leftM h ((g.map fun n : Nat => (n : Int)).map Int.toNat))) = _
    rw [toN]
  have dLeft : ∀ (g : List Nat) (n : Nat), okD (n + 6) (eBook (leftM h g)) = true := fun g n => by
    obtain ⟨z1, z2⟩ := left_ok g h 0 ok
    have z2 : (leftM h g).length ≤ h.length := z2
    exact okD_book (by omega) z1
  -- the lots
  apply s_forN (α := List PyData) (n := 0) (c0 := 0) (cN := 0) (cI := 0) (SL := fun L => ∃ ls : List (List Nat), ls.length ≤ 64 ∧ (∀ x ∈ ls, x.length ≤ 6 ∧ ∀ y ∈ x, y ∈ wl) ∧ L = ls.map eNats) h4 u (by omega)
    (ew_seqR (er_fin (c1 := 0) (er_call (enc := fun l : List Nat => [.list (l.map eNat)]) (ok := fun l => l.length ≤ 6) (res := fun l d => ∃ ls : List (List Nat), ls.length ≤ 64 ∧ (∀ x ∈ ls, x.length ≤ 6 ∧ ∀ y ∈ x, y ∈ l) ∧ d = .list (ls.map eNats)) wl (ea_one (lwh rfl)) (by rw [hwl]; exact wh)) rfl fun s ⟨d, ⟨ls, l1, l2, ed⟩, es⟩ => ⟨d, ls.map eNats, ⟨ls, l1, l2, rfl⟩, .inl ed, es⟩))
    (fun L i x => x.length ≤ 6 + 2 * i ∧ ∀ d ∈ x, okD 11 d = true) (fun x => [.dat (eBook h), .dat (eWorld w), .dat (.list x), .dat (.list x), .emp, .emp, .dat (.list [sh, sw]), .dat (eNats fi), .dat (eNames os), .emp]) (fun _ => []) six rfl rfl
  case h0 =>
    intro L _
    rw [hsix]
    refine ⟨Nat.le_refl _, fun d hd => ?_⟩
    have n1 : okD 11 (eNats fi) = true := okD_nats (n := 9) (by rw [hfi]; omega)
    have n2 : okD 11 (eNames os) = true := okD_names (n := 9) (by rw [hos]; omega)
    have n3 : okD 11 (eNats wl) = true := okD_nats (n := 9) (by rw [hwl]; omega)
    simp only [List.mem_cons, List.mem_nil_iff, or_false] at hd
    rcases hd with e | e | e | e | e | e <;> rw [e] <;> assumption
  case hc =>
    intro L _
    omega
  case turn =>
    intro L i d x T' m N σ' H' v ⟨ls, l1, l2, eL⟩ hd ⟨i1, i2⟩ up _ h5 next
    have hi : i < 64 := by
      have z := (List.getElem?_eq_some_iff.mp hd).1
      rw [eL, List.length_map] at z
      omega
    rw [eL, List.getElem?_map] at hd
    obtain ⟨lot, hlot, elot⟩ := Option.map_eq_some_iff.mp hd
    subst elot
    obtain ⟨k1, k2⟩ := l2 lot (List.mem_of_getElem? hlot)
    have k2 : ∀ y ∈ lot, y ∈ wholesM h := fun y hy => by rw [← hwl]; exact k2 y hy
    refine (eg_name (vs := [4]) (i := 4) (by decide)) _ _ _ _ _ _ up h5 _ fun σ5 _ h6 => ?_
    have h6 : Holds B [.dat (eBook h), .dat (eWorld w), .dat (.list x), .dat (.list x), .dat (eNats lot), .emp, .dat (.list [sh, sw]), .dat (eNats fi), .dat (eNames os), .emp] [] T' m σ5 H' := h6
    apply p_asgN (s := .dat (.list (x ++ [eBook (leftM h lot), eBook (leftM h lot)]))) h6 up
    case h =>
      refine ed_fin (ed_op (ed_var rfl) (ed_lst (ds := [eBook (leftM h lot), eBook (leftM h lot)]) (ea_cons (c1 := 0) (playedE (eBook h) (eNats lot) lot (.inl rfl) (.inr rfl) (by omega) k2 (ed_var rfl) (ed_var rfl)) (ea_one (playedE sh (.list (lot.map eNat)) lot (.inr rfl) (.inl rfl) (by omega) k2 (e60 rfl) (er_fin (c1 := 0) (ed_cb (ea_one (ed_var rfl)) (cl_list (.inr rfl))) rfl fun _ e => e))))) (os_cat ?_)) rfl rfl
      simp only [List.length_cons, List.length_nil]
      omega
    case hc => rfl
    case k =>
    intro σ6 H6 h7
    have h7 : Holds B [.dat (eBook h), .dat (eWorld w), .dat (.list (x ++ [eBook (leftM h lot), eBook (leftM h lot)])), .dat (.list x), .dat (eNats lot), .emp, .dat (.list [sh, sw]), .dat (eNats fi), .dat (eNames os), .emp] [] T' m σ6 H6 := h7
    apply p_asg (s := .dat (.list (x ++ [eBook (leftM h lot), eBook (leftM h lot)]))) h7 up
    case h =>
      refine ed_fin (ed_op (ed_var rfl) (ed_op (ed_lst (ds := [eBook (leftM h lot)]) (ea_one (ed_fin (c1 := 0) (ed_call (f := fun a : List Deed × List Nat => eBook (leftM a.1 a.2)) (h, lot) (ea_cons (ed_var rfl) (ea_one (ed_var rfl))) ⟨by show h.length ≤ 999; omega, ok⟩) rfl rfl))) ed_int (os_rep (k := 2) (Nat.le_of_ble_eq_true rfl) (by decide))) (os_cat ?_)) rfl rfl
      show x.length + 2 ≤ 1000
      omega
    case hc => rfl
    case k =>
    intro σ7 H7 h8
    refine next (x ++ [eBook (leftM h lot), eBook (leftM h lot)]) _ _ ⟨?_, fun y hy => ?_⟩ (h8.less rfl fun i s e => ?_)
    · rw [List.length_append]
      simp only [List.length_cons, List.length_nil]
      omega
    · rcases List.mem_append.mp hy with hy | hy
      · exact i2 y hy
      · simp only [List.mem_cons, List.mem_nil_iff, or_false] at hy
        rcases hy with e | e <;> rw [e] <;> exact dLeft lot 5
    · match i with
      | 0 | 1 | 2 | 3 | 6 | 7 | 8 => exact .inr e
      | 4 | 5 | 9 => exact .inl (Option.some.inj e).symm
      | i + 10 => exact .inr e
  case done =>
    intro L x σ5 H5 ⟨ls, l1, _, eL⟩ ⟨i1, i2⟩ h5
    have lx : x.length ≤ 134 := by
      rw [eL, List.length_map] at i1
      omega
    have sub : ∀ y ∈ fi, y ∈ wholesM h := fun y hy => fine_wholes y (by rw [← hfi]; exact hy)
    have lp := left_play (w := w) ok
    have lw0 : wholesM (leftM h fi) = [] := left_wholes fi h 0 0 ok
    obtain ⟨lok, llen⟩ := left_ok fi h 0 ok
    have llen : (leftM h fi).length ≤ h.length := llen
    rw [← hfi, ← hos] at lp
    apply p_asgN (s := .dat (eBook (leftM h fi))) h5 u
    case h => exact playedE (eBook h) (eNats fi) fi (.inl rfl) (.inr rfl) (by rw [hfi]; omega) sub (ed_var rfl) (ed_var rfl)
    case hc => rfl
    case k =>
    intro σ6 H6 h6
    have h6 : Holds B [.dat (eBook h), .dat (eWorld w), .dat (.list x), .dat (.list x), .emp, .dat (eBook (leftM h fi)), .dat (.list [sh, sw]), .dat (eNats fi), .dat (eNames os), .emp] [] (fun _ => True) 0 σ6 H6 := h6
    have wbL : WB.Ok ⟨eWorld w, eBook (leftM h fi), w, leftM h fi⟩ := ⟨dW 8, dLeft fi 6, hard_world w, hard_book _, by show w.length ≤ 1000; omega, by show (leftM h fi).length ≤ 999; omega, lok⟩
    obtain ⟨fin4, hf4⟩ : ∃ l : List PyData, l = [eNames os, .tuple [], .tuple [], .list [sh, sw]] := ⟨_, rfl⟩
    apply p_asgN (s := .dat (.list (x ++ fin4))) h6 u
    case h =>
      refine ed_fin (ed_op (ed_var rfl) (ed_lst (ds := fin4) (hl := by rw [hf4]; exact Nat.le_of_ble_eq_true rfl) (by
        rw [hf4]
        exact ea_cons (c1 := 0) (c2 := 0) (ed_fin (c1 := 0) (ed_call (f := fun a : WB => eNames (playM a.w a.h).2) ⟨eWorld w, eBook (leftM h fi), w, leftM h fi⟩ (ea_cons (ed_var rfl) (ea_one (ed_var rfl))) wbL) rfl (by show Sl.dat (eNames (playM w (leftM h fi)).2) = _; rw [lp])) (ea_cons (c1 := 0) (c2 := 0) (ed_fin (c1 := 0) (ed_call (f := fun a : WB => eNats (playM a.w a.h).1) ⟨eWorld w, eBook (leftM h fi), w, leftM h fi⟩ (ea_cons (ed_var rfl) (ea_one (ed_var rfl))) wbL) rfl (by show Sl.dat (eNats (playM w (leftM h fi)).1) = _; rw [lp]; rfl))
          (ea_cons (c1 := 0) (c2 := 0) (ed_fin (c1 := 0) (ed_call (f := fun a : PyData × List Deed => eNats (wholesM a.2)) (eBook (leftM h fi), leftM h fi) (ea_one (ed_var rfl)) ⟨hard_book _, by show (leftM h fi).length ≤ 1000; omega⟩) rfl (by show Sl.dat (eNats (wholesM (leftM h fi))) = _; rw [lw0]; rfl)) (ea_one (ed_var rfl)))))) (os_cat (by rw [hf4]; show x.length + 4 ≤ 1000; omega))) rfl rfl
    case hc => rfl
    case k =>
    intro σ7 H7 h7
    have h7 : Holds B [.dat (eBook h), .dat (eWorld w), .dat (.list (x ++ fin4)), .dat (.list x), .emp, .dat (eBook (leftM h fi)), .dat (.list [sh, sw]), .dat (eNats fi), .dat (eNames os), .emp] [] (fun _ => True) 0 σ7 H7 := h7
    apply p_ret (s := .dat (.bool true)) h7 u
    case h =>
      refine ed_fin (ed_call (f := fun _ => .bool true) (.list (x ++ fin4)) (ea_cons (c1 := 0) (c2 := 0) (ed_var rfl) (ea_one (ed_fin (c1 := 0) (ed_op (ed_var rfl) (ed_lst (ds := fin4) (hl := by rw [hf4]; exact Nat.le_of_ble_eq_true rfl) (by
        rw [hf4]
        exact ea_cons (c1 := 0) (c2 := 0) (ed_var rfl) (ea_cons (c1 := 0) (c2 := 0) ed_nilT (ea_cons (c1 := 0) (c2 := 0) ed_nilT (ea_one (pair rfl rfl)))))) (os_cat (by rw [hf4]; show x.length + 4 ≤ 1000; omega))) rfl rfl))) (okD_lst (n := 11) (by rw [List.length_append, hf4]; show x.length + 4 ≤ 1000; omega) fun d hd => ?_)) rfl rfl
      rcases List.mem_append.mp hd with hd | hd
      · exact i2 d hd
      · rw [hf4] at hd
        simp only [List.mem_cons, List.mem_nil_iff, or_false] at hd
        rcases hd with e | e | e | e
        · rw [e]
          exact okD_names (n := 9) (by rw [hos]; omega)
        · rw [e]; rfl
        · rw [e]; rfl
        · rw [e]
          exact okD_lst (n := 10) (Nat.le_of_ble_eq_true rfl) fun y hy => by
            simp only [List.mem_cons, List.mem_nil_iff, or_false] at hy
            rcases hy with e | e
            · rw [e]; exact dS 4
            · rw [e]; exact dT 6
    case hc => rfl
    case k => exact fun v H' h => q v _ H' _ _ _ _ σ7 rfl h
end
end K30
set_option Elab.async false
set_option linter.all false
set_option maxRecDepth 100000
set_option maxHeartbeats 1000000
namespace K30
open PySem PySem.Spec PyProof.Rows L2
section
variable {P : Program} {w : World} {K : PySem.W.Frag} {mg : Str → Option Value} {base : Heap} {k : Nat}
/-! ### _law_right -/
abbrev sp_law_right (K : PySem.W.Frag) : Sp := spB K 447 (fun _ : Unit => []) (fun _ => True) (fun _ d => d = .bool true)
theorem df_law_right (A : At K mg "_law_right" 49) (g : G0 K mg) (D1 : Df P w K mg base CX0 k "_law_case_right" ["_law_deeds_so", "_law_world_so"] (sp_law_case_right K)) (D2 : Df P w K mg base CX0 k "_law_world" ["_law_box_here", "_law_chart_so", "_law_most_so"] (sp_law_world K))
    (D3 : Df P w K mg base CX0 k "_law_book" ["_law_box_here", "_law_areas_so", "_law_most_so", "_law_whole_so"] (sp_law_book K)) (D4 : Df P w K mg base CX0 k "_law_chart" ["_law_box_here", "_law_many_so"] (sp_law_chart K)) : Df P w K mg base CX0 (k + 1) "_law_right" ["_law_box_here"] (sp_law_right K) := by
  refine df_box A sc_law_right (fun _ => rfl) (by decide) (fun _ _ _ _ _ _ us hl => match us, hl with | [_], _ => rfl) fun f cdv A outer s H E C a b nk hr ha => ⟨t_law_right K _ _ _ _, ps_law_right g D1 D2 D3 D4 hr, fun n D σ q hh => ?_⟩
  have hb : IsBox ⟨K, some b, C, H⟩ b := ⟨rfl, nk⟩
  have u : Up fun _ => True := Up.tt
  unfold t_law_right
  have hh : Holds ⟨K, some b, C, H⟩ [.adr b, .emp, .emp] [] (fun _ => True) (n + 447) σ H := hh
  apply s_forN (α := Unit) (n := n) (c0 := 0) (cN := 447) (cI := 149) hh u (by omega) (ew_range (S := fun n => n = 3) ((ea_one (ed_int (i := 3))).imp fun l e => ⟨3, rfl, by decide, by decide, e⟩))
    (fun _ _ _ => True) (fun _ => [.adr b, .emp, .emp]) (fun _ => []) () rfl rfl (fun _ _ => trivial)
  case hc =>
    intro L ⟨r, hr, _, e⟩
    rw [e]
    unfold rangeD
    rw [List.length_map, List.length_range, hr]
    decide
  case done =>
    intro L x σ1 H1 _ _ h1
    refine s_retL (c := 0) (n := n) (S := fun s => s = .dat (.bool true)) h1 u ed_bl (Nat.le_refl _) fun v s H' e h' => ?_
    have e' := e
    subst e'
    exact q v _ H' _ _ _ σ1 rfl h'
  case turn =>
    intro L i d x T' m N σ' H' v _ _ _ up _ h1 next
    refine (eg_name (vs := [1]) (i := 1) (by decide)) _ _ _ _ _ _ up h1 _ fun σ2 _ h2 => ?_
    have h2 : Holds ⟨K, some b, C, H⟩ [.adr b, .dat d, .emp] [] T' (m + 149) σ2 H' := h2
    have ch := er_callB (B := ⟨K, some b, C, H⟩) (rho := [.adr b, .dat d, .emp]) (E := E0) (cost := 17) (enc := fun _ : Unit => [.int 3]) (ok := fun _ => True) (res := fun _ d => ∃ (nm : List Str) (c : Cut), goodNames nm ∧ goodCut c ∧ d = .tuple [eNames nm, eCut c]) hb () (ea_cons (ed_var (i := 0) rfl) (ea_one ed_int)) trivial
    refine s_asgN (n := m + 132) h2 up ch (by omega) fun s σ3 H3 ⟨dc, ⟨nm, cu, hn, hc, ed⟩, es⟩ h3 => ?_
    subst es ed
    have h3 : Holds ⟨K, some b, C, H⟩ [.adr b, .dat d, .dat (.tuple [eNames nm, eCut cu])] [] T' (m + 132) σ3 H3 := h3
    have bk := er_callB (B := ⟨K, some b, C, H⟩) (rho := [.adr b, .dat d, .dat (.tuple [eNames nm, eCut cu])]) (E := E0) (cost := 113) (enc := fun a : BookIn => [a.pd, .int 8, .int 4]) (ok := BookIn.Ok) (res := fun _ d => ∃ h : List Deed, goodBook h ∧ d = eBook h) hb ⟨eNames nm, nm⟩ (ea_cons (ed_var (i := 0) rfl) (ea_cons (ed_op (ed_var (i := 2) rfl) ed_int (os_ix0 (.inr rfl))) (ea_cons ed_int (ea_one ed_int)))) ⟨.inr rfl, hn⟩
    have wd := er_callB (B := ⟨K, some b, C, H⟩) (rho := [.adr b, .dat d, .dat (.tuple [eNames nm, eCut cu])]) (E := E0) (cost := 19) (enc := fun a : List Str × Cut => [.tuple [eNames a.1, eCut a.2], .int 6]) (ok := fun a => goodNames a.1 ∧ goodCut a.2) (res := fun a d => ∃ w : List Point, w.length ≤ 6 ∧ (∀ p ∈ w, p.spot.length ≤ 1000) ∧ d = eWorld w) hb (nm, cu) (ea_cons (ed_var (i := 0) rfl) (ea_cons (ed_var (i := 2) rfl) (ea_one ed_int))) ⟨hn, hc⟩
    have cr : EvD ⟨K, some b, C, H⟩ 132 (tCall (sp_law_case_right K) [] E0 (tCons (tCall (sp_law_book K) [] E0 (tCons (tVar 0) (tCons (tOp (rIx K) (tVar 2) (tC (.int 0))) (tCons (tC (.int 8)) (tCons (tC (.int 4)) tNil))))) (tCons (tCall (sp_law_world K) [] E0 (tCons (tVar 0) (tCons (tVar 2) (tCons (tC (.int 6)) tNil)))) tNil)))
        [.adr b, .dat d, .dat (.tuple [eNames nm, eCut cu])] (.dat (.bool true)) := by
      refine er_fin (er_callR (B := ⟨K, some b, C, H⟩) (E := E0) (enc := fun a : CaseIn => [eBook a.h, eWorld a.w]) (ok := CaseIn.Ok) (res := fun _ d => d = .bool true) (ea_consR bk (ea_oneR wd)) fun ss ⟨s1, ss1, ⟨d1, ⟨h, ⟨g1, g2, g3⟩, e1⟩, e2⟩, ⟨s2, ⟨d2, ⟨w, w1, w2, e3⟩, e4⟩, e5⟩, e⟩ => ?_) rfl fun s ⟨_, d, _, _, e1, e2⟩ => by rw [e2, e1]
      refine ⟨⟨h, w⟩, by rw [e, e5, e2, e1, e4, e3]; rfl, ⟨by show h.length ≤ 100; omega, fun d hd => (g2 d hd).1, by show w.length ≤ 100; omega, w2, by show (wholesM h).length ≤ 6; omega⟩⟩
    refine s_if (n := m) (c := 132) (b := !true) h3 up (et_not (et_val cr)) (fun z => by cases z) fun _ H4 h4 => ?_
    refine next () _ _ trivial (h4.less rfl fun i s e => ?_)
    match i with
    | 0 => exact .inr e
    | 1 | 2 => exact .inl (Option.some.inj e).symm
    | i + 3 => exact .inr e
/-! ### _law_box -/
def spNewBox (K : PySem.W.Frag) : Sp := fun vs H Q _ => ∃ (C : Hp) (ns : List Int) (i : Nat), Same C H ∧ DtAll K C vs [.list (ns.map .int), .int (i : Int)] ∧ i < ns.length ∧ i ≤ 3 ∧ ∀ (b : Addr) (x y : Int), H b = none → Q (.ref b) (upd H b (.lst [.int x, .int y, .int 0]))
theorem one_small (b : Bool) : -(2 ^ 64 : Int) < (if b = true then 1 else 0) ∧ (if b = true then (1 : Int) else 0) < 2 ^ 64 := by cases b <;> decide
theorem iv_ixv {K : PySem.W.Frag} {σ : L2.St} {H : Hp} {n m : Nat} {b : Addr} {xs : List V} {i j : Int} (h0 : σ[n]? = some (some (.ref b))) (h1 : σ[m]? = some (some (.int i))) (hb : SqL K H b xs) (hv : atI xs i = some (.int j)) : Iv (tOp (rIx K) (tVar n) (tVar m)) σ H j := fun Q q => ⟨_, h0, _, h1, .inl ⟨b, xs, i, _, rfl, rfl, hb, hv, q⟩⟩
theorem df_law_box (A : At K mg "_law_box" 24) (g : G0 K mg) : Df P w K mg base CX0 (k + 1) "_law_box" ["_law_script", "_law_k"] (spNewBox K) := by
  obtain ⟨f, fd, af, F⟩ := A
  refine ⟨f, fd, af, ?_, F.kp, F.bindsN (fun _ _ _ _ _ _ us hl => match us, hl with | [_, _], _ => rfl), look_of F⟩
  refine F.ok sc_law_box (fun vs H Q E h => ?_) (fun cdv A outer s H vs Q E hr h => ⟨t_law_box K, PSs.nox (ps_law_box g hr), ?_⟩)
  · obtain ⟨C, ns, i, _, h2, _⟩ := h
    rw [h2.length]
    rfl
  obtain ⟨C, ns, i, h1, h2, hi, hi3, q⟩ := h
  cases h2 with
  | @cons v1 r1 _ _ a1 b1 =>
  cases b1 with
  | @cons v2 r2 _ _ a2 b2 =>
  cases b2
  cases a2
  cases a1 with
  | @lst p xs _ g1 g2 =>
  have ex : xs = ns.map V.int := by
    have z := DtAll.flat (fun d hd => by obtain ⟨y, _, e⟩ := List.mem_map.mp hd; rw [← e]; rfl) g2
    rw [z, List.map_map]
    rfl
  subst ex
  have hp : SqL K H p (ns.map V.int) := SqL.of (h1 _ _ g1)
  obtain ⟨c, hc⟩ : ∃ c, ns[i]? = some c := ⟨_, List.getElem?_eq_getElem hi⟩
  have s0 : L2.start ["_law_script", "_law_k", "_law_cell"] [V.ref p, .int (i : Int)] = [some (.ref p), some (.int (i : Int)), none] := rfl
  unfold t_law_box
  rw [s0]
  have t0 : ∀ Q' : Bool → Hp → Prop, Q' true H → tTest (tOp (rI0 fun i j => .bl (decide (i < j))) (tVar 1) (tCB (rLenOf K) (tCons (tVar 0) tNil))) [some (.ref p), some (.int (i : Int)), none] H Q' := fun Q' q' => by
    refine ⟨.int (i : Int), rfl, .ref p, rfl, p, _, rfl, .inl hp, (i : Int), ((ns.map V.int).length : Int), rfl, rfl, decide ((i : Int) < ((ns.map V.int).length : Int)), rfl, ?_⟩
    rw [List.length_map, decide_eq_true (by omega)]
    exact q'
  have iv1 : Iv (tIf (tTest (tOp (rI0 fun i j => .bl (decide (i < j))) (tVar 1) (tCB (rLenOf K) (tCons (tVar 0) tNil)))) (tOp (rIx K) (tVar 0) (tVar 1)) (tC (.int 0))) [some (.ref p), some (.int (i : Int)), none] H c := fun Q' q' => t0 _ (by
    show (if true = true then _ else _)
    rw [if_pos rfl]
    exact iv_ixv (n := 0) (m := 1) rfl rfl hp (atI_nat (by rw [List.getElem?_map, hc]; rfl)) Q' q')
  refine iv_asg iv1 ?_
  show tRet _ _ [some (.ref p), some (.int (i : Int)), some (.int c)] H
  have ab : Iv (tCB rAbsOf (tCons (tVar 2) tNil)) [some (.ref p), some (.int (i : Int)), some (.int c)] H (if c < 0 then -c else c) := fun Q' q' => ⟨_, rfl, c, rfl, q'⟩
  have pw : Iv (tOp (rI CPow fun i j => .int (i ^ j.toNat)) (tC (.int 10)) (tC (.int 18))) [some (.ref p), some (.int (i : Int)), some (.int c)] H (10 ^ (18 : Int).toNat) := iv_opC (f := fun i j => i ^ j.toNat) iv_c iv_c ⟨by decide, by decide, by decide⟩
  have big : Iv (tCB rIntOf (tCons (tOp (rI0 fun i j => .bl (decide (j ≤ i))) (tCB rAbsOf (tCons (tVar 2) tNil)) (tOp (rI CPow fun i j => .int (i ^ j.toNat)) (tC (.int 10)) (tC (.int 18)))) tNil)) [some (.ref p), some (.int (i : Int)), some (.int c)] H (if decide (10 ^ (18 : Int).toNat ≤ (if c < 0 then -c else c)) = true then 1 else 0) := fun Q' q' => ab _ (pw _ ⟨_, _, rfl, rfl, .inr ⟨_, rfl, q'⟩⟩)
  have m1 := iv_opC (C := CMul) (f := fun i j => i * j) ab big (.inr (one_small _))
  have m2 : Iv (tOp (rI0 fun i j => .int (i + j)) (tOp (rI0 fun i j => .int (i + j)) (tOp (rI (fun _ j => 0 < j) fun i j => .int (i % j)) (tCB rIntOf (tCons (tVar 2) tNil)) (tC (.int 2305843009213693951))) (tOp (rI CMul fun i j => .int (i * j)) (tC (.int 39373)) (tVar 1))) (tC (.int 1071030))) [some (.ref p), some (.int (i : Int)), some (.int c)] H (c % 2305843009213693951 + 39373 * (i : Int) + 1071030) :=
    iv_op0 (f := fun i j => i + j) (iv_op0 (f := fun i j => i + j) (iv_opC (f := fun i j => i % j) (iv_int (iv_var (i := c) rfl)) iv_c (by decide)) (iv_opC (f := fun i j => i * j) iv_c (iv_var (i := (i : Int)) rfl) (.inl ⟨by decide, by decide⟩))) iv_c
  exact m1 _ (m2 _ ⟨by show 3 ≤ sizeLine; decide, fun b hb => q b _ _ hb⟩)
end
end K30
set_option Elab.async false
set_option linter.all false
set_option maxRecDepth 100000
set_option maxHeartbeats 1000000
namespace K30
open PySem PySem.Spec PyProof.Rows L2
section
variable {B : Bx} {rho rho' : List Sl} {mu : List (Addr × List PyData)} {T : Hp → Prop} {n c m : Nat} {σ : L2.St} {H : Hp}
/-- a new list that may change, with items -/
theorem Holds.hotList {vs : List V} {ds : List PyData} (h : Holds B rho mu (fun C => T C ∧ DtAll B.K C vs ds) n σ H) {p : Addr} (hp : H p = none) : Holds B rho ((p, ds) :: mu) T n σ (upd H p (.lst vs)) := by
  obtain ⟨C, a, b, hd⟩ := h
  have ne : ∀ q u, H q = some u → q ≠ p := fun q u e => ne_of_none e hp
  refine ⟨C, ⟨fun q u e => ?_, a.len, a.env, fun q hq => ?_, ?_, fun c e => ?_, a.old, fun q o e => ?_⟩, b⟩
  · rw [upd_ne (ne _ _ (a.sub q u e))]
    exact a.sub q u e
  · rcases List.mem_cons.mp hq with e | hq
    · subst e
      refine ⟨a.free hp, ⟨fun e => ?_, a.h0 hp⟩, vs, upd_same, hd⟩
      obtain ⟨_, o1, h3, _⟩ := a.box p e
      rw [hp] at h3
      cases h3
    · obtain ⟨h1, h2, us, h3, h4⟩ := a.hot q hq
      exact ⟨h1, h2, us, by rw [upd_ne (ne _ _ h3)]; exact h3, h4⟩
  · rw [List.map_cons]
    refine List.nodup_cons.mpr ⟨fun hm => ?_, a.nd⟩
    obtain ⟨q, hq, e⟩ := List.mem_map.mp hm
    obtain ⟨_, _, us, h3, _⟩ := a.hot q hq
    rw [show q.1 = p from e, hp] at h3
    cases h3
  · obtain ⟨h1, o1, h3, h4⟩ := a.box c e
    exact ⟨h1, o1, by rw [upd_ne (ne _ _ h3)]; exact h3, h4⟩
  · have x : q ≠ p := fun z => by rw [z, a.h0 hp] at e; cases e
    rw [upd_ne x]
    exact a.keep q o e
/-- an item of such a list is set -/
theorem Holds.put {l : Addr} {ds ds' : List PyData} {us : List V} (h : Holds B rho ((l, ds) :: mu) (fun C => T C ∧ DtAll B.K C us ds') n σ H) : Holds B rho ((l, ds') :: mu) T n σ (upd H l (.lst us)) := by
  obtain ⟨C, a, b, hu⟩ := h
  obtain ⟨g1, g2, vs, g3, g4⟩ := a.hot (l, ds) List.mem_cons_self
  have nd := List.nodup_cons.mp (show ((l :: mu.map Prod.fst)).Nodup from a.nd)
  refine ⟨C, ⟨fun q u e => ?_, a.len, a.env, fun q hq => ?_, a.nd, fun c e => ?_, a.old, fun q o e => ?_⟩, b⟩
  · have x : q ≠ l := fun z => by rw [z, g1] at e; cases e
    rw [upd_ne x]
    exact a.sub q u e
  · rcases List.mem_cons.mp hq with e | hq
    · subst e
      exact ⟨g1, g2, us, upd_same, hu⟩
    · obtain ⟨h1, h2, ws, h3, h4⟩ := a.hot q (List.mem_cons_of_mem _ hq)
      have x : q.1 ≠ l := fun z => nd.1 (List.mem_map.mpr ⟨q, hq, z⟩)
      exact ⟨h1, h2, ws, by rw [upd_ne x]; exact h3, h4⟩
  · obtain ⟨h1, o1, h3, h4⟩ := a.box c e
    have q : c ≠ l := fun z => g2.1 (by rw [e, z])
    exact ⟨h1, o1, by rw [upd_ne q]; exact h3, h4⟩
  · have x : q ≠ l := fun z => by rw [z, show B.H0 l = none from g2.2] at e; cases e
    rw [upd_ne x]
    exact a.keep q o e
theorem dt_ints {K : PySem.W.Frag} {C : Hp} {vs : List V} {xs : List Int} (h : DtAll K C vs (xs.map .int)) : vs = xs.map V.int := by
  have z := DtAll.flat (fun d hd => by obtain ⟨y, _, e⟩ := List.mem_map.mp hd; rw [← e]; rfl) h
  rw [z, List.map_map]
  rfl
theorem ints_dt {K : PySem.W.Frag} {C : Hp} : ∀ {xs : List Int}, DtAll K C (xs.map V.int) (xs.map .int)
  | [] => .nil
  | _ :: _ => .cons (.int _) ints_dt
end
section
variable {P : Program} {w : World} {K : PySem.W.Frag} {mg : Str → Option Value} {base : Heap} {k : Nat}
/-! ### defs that read the script, which stands frozen -/
def spSl (K : PySem.W.Frag) {α : Type} (enc : α → List Sl) (ok : α → Prop) (res : α → PyData → Prop) : Sp := fun vs H Q _ => ∃ C a, Same C H ∧ VlAll K C vs (enc a) ∧ ok a ∧
  ∀ v C' H' d, Same H H' → Same C C' → Same C' H' → (∀ a o, H a = some o → C' a = C a) → res a d → Dt K C' v d → Q v H'
theorem vlAll_get {K : PySem.W.Frag} {C : Hp} : ∀ {vs : List V} {ss : List Sl} {i : Nat} {s : Sl}, VlAll K C vs ss → ss[i]? = some s → ∃ v, vs[i]? = some v ∧ Vl K C v s
  | _, _, _, _, .nil, h => by cases h
  | v :: _, _, 0, _, .cons a _, h => by
    obtain rfl := Option.some.inj h
    exact ⟨v, rfl, a⟩
  | _, _, i + 1, _, .cons _ b, h => vlAll_get (i := i) b h
theorem start_slots {K : PySem.W.Frag} {C H : Hp} {N : List Str} {vs : List V} {ss : List Sl} {k n : Nat} (hs : Same C H) (hv : VlAll K C vs ss) (hk : ss.length + k = N.length) : Holds ⟨K, none, C, H⟩ (ss ++ List.replicate k .emp) [] (fun _ => True) n (L2.start N vs) H := by
  have hl : vs.length = ss.length := VlAll.len (B := ⟨K, none, C, H⟩) hv
  refine ⟨C, ⟨hs, ?_, fun i s e q => ?_, fun m hm => (by cases hm), List.nodup_nil, fun b e => (by cases e), Same.refl C, fun a o e => ⟨rfl, fun _ => e⟩⟩, trivial⟩
  · rw [start_len (by omega), List.length_append, List.length_replicate]
    omega
  · by_cases hi : i < ss.length
    · rw [List.getElem?_append_left hi] at e
      obtain ⟨v, h3, h4⟩ := vlAll_get hv e
      exact ⟨v, start_get h3, h4⟩
    · rw [List.getElem?_append_right (Nat.le_of_not_lt hi)] at e
      obtain ⟨_, h2⟩ := List.getElem?_eq_some_iff.mp e
      rw [List.getElem_replicate] at h2
      exact absurd h2.symm q
theorem df_pureSl {x : Str} {ps : List Str} {i : Nat} {N : List Str} {α : Type} {enc : α → List Sl} {ok : α → Prop} {res : α → PyData → Prop} (A : At K mg x i) (S : FnScope N ps (defScope (top i))) (hj : ∀ a, (enc a).length = ps.length) (hN : ps.length ≤ N.length)
    (hb : ∀ (kV doc pm : Value) (an : Option Addr) (cdv ct : Value) (us : List Value), us.length = ps.length → bindArgs (PySem.W.fnOf x x (defArgs (top i)) (defBody (top i)) (defScope (top i)) .none kV doc pm an cdv ct) ⟨us, []⟩ = pure (ps.zip us))
    (body : ∀ (f : Addr) (cdv : Value) (A : Around) (outer : List Env) (s : Shared) (H : Hp) (E : XK) (C : Hp) (a : α), Room k (A.deeper (envOfC x (defScope (top i)) s.heap.objs.size f cdv)) → ok a →
      ∃ t, PSs (cxOf CX0 P w K mg base N x (defScope (top i)) f cdv A outer s H E).nox (defBody (top i)) t ∧
        ∀ (D : Ends) (σ : L2.St), (∀ v d H' rho mu T n σ', res a d → Holds ⟨K, none, C, H⟩ rho mu (AndV K T v (.dat d)) n σ' H' → D.rt v H') → Holds ⟨K, none, C, H⟩ (enc a ++ List.replicate (N.length - ps.length) .emp) [] (fun _ => True) 0 σ H → t D σ H) :
    Df P w K mg base CX0 (k + 1) x ps (spSl K enc ok res) := by
  obtain ⟨f, fd, a, F⟩ := A
  refine ⟨f, fd, a, ?_, F.kp, F.bindsN hb, look_of F⟩
  refine F.ok S (fun vs H Q E h => ?_) (fun cdv A outer s H vs Q E hr h => ?_)
  · obtain ⟨C, a, _, h2, _⟩ := h
    rw [VlAll.len (B := ⟨K, none, C, H⟩) h2, hj]
  · obtain ⟨C, a, h1, h2, h4, q⟩ := h
    obtain ⟨t, b1, b2⟩ := body f cdv A outer s H E C a hr h4
    exact ⟨t, PSs.nox b1, b2 _ _ (fun v d H' rho mu T n σ' hp hh => fin_pure hh hp q) (start_slots h1 h2 (by have := hj a; omega))⟩
theorem er_callSl {B : Bx} {rho : List Sl} {c : Nat} {tA : TA} {α : Type} {enc : α → List Sl} {ok : α → Prop} {res : α → PyData → Prop} {E : XK} (a : α) (h : EvA B c tA rho (fun l => l = enc a)) (hp : ok a) : EvR B c (tCall (spSl B.K enc ok res) [] E tA) rho (fun s => ∃ d, res a d ∧ s = .dat d) := fun mu T n σ H u hh Q q =>
  h mu T n σ H u hh _ fun vs H1 ss e h1 => by
    obtain ⟨C, x, b, hv⟩ := h1
    have e' : ss = enc a := e
    subst e'
    exact ⟨C, a, x.sub, by rw [List.append_nil]; exact hv, hp, fun v C' H' d s1 s2 s3 s4 hd hv' => q v H' (.dat d) ⟨d, hd, rfl⟩ ⟨C', x.ext s1 s2 s3 s4, u _ _ s2 b, hv'⟩⟩
theorem ed_slS {B : Bx} {rho : List Sl} {c : Nat} {te : TE} {tl th : TO} {lo hi : Option Int} {ns : List Int} (h : EvD B c te rho (.scr ns)) (h1 : EvO B tl rho lo) (h2 : EvO B th rho hi) : EvD B c (tSl (rSlL B.K) te tl th) rho (.dat (.list (cutD (ns.map .int) lo hi))) := fun mu T n σ H u hh Q q =>
  h mu T n σ H u hh _ fun v H1 s e k1 => h1 mu _ n σ H1 u.andV k1 _ fun H2 k2 => h2 mu _ n σ H2 u.andV k2 _ fun H3 k3 => by
    obtain ⟨C, a, b, hv⟩ := k3
    have e' : s = .scr ns := e
    subst e'
    obtain ⟨p, ev, sq⟩ := hv
    subst ev
    refine ⟨p, _, rfl, sqL_up a.sub sq, fun o ho => q _ _ _ rfl ?_⟩
    exact Holds.cold ⟨C, a, b⟩ u ho (.lst (cutV (ns.map V.int) lo hi)) (P := fun C => Vl B.K C (.ref o) (.dat (.list (cutD (ns.map .int) lo hi)))) fun C t t2 sc => .lst upd_same (dt_cut (B := B) ints_dt lo hi)
/-! ### _law_cells -/
theorem or_list {te tb : TE} {σ : L2.St} {H : Hp} {D : Ends} {i : Nat} (h : te σ H fun v H1 => rListOf K [v] H1 fun x H2 => ∃ k, TruV K x H2 k ∧ if k = true then D.nx (σ.set i (some x)) H2 else tb σ H2 fun y H3 => D.nx (σ.set i (some y)) H3) : tAsg (tOrT K (tCB (rListOf K) (tCons te tNil)) tb) (gName i) D σ H := h
def eInt (i : Int) : PyData := .int i
abbrev sp_law_cells (K : PySem.W.Frag) : Sp := spSl K (fun ns : List Int => [.scr ns, .dat (.int 3)]) (fun ns => ns.length ≤ 63) (fun _ d => ∃ ms : List Int, 0 < ms.length ∧ ms.length ≤ 3 ∧ d = .list (ms.map .int))
theorem cut_lo (ds : List PyData) (hl : ds.length ≤ 63) : cutD ds none (some 3) = ds.take 3 := by
  unfold cutD
  rw [show HT.sIx ds.length 0 none = 0 from rfl, show HT.sIx ds.length ds.length (some 3) = min 3 ds.length from HT.sIx_nat _ _ 3, List.drop_zero, Nat.sub_zero]
  by_cases h : 3 ≤ ds.length
  · rw [Nat.min_eq_left h]
  · rw [Nat.min_eq_right (by omega), List.take_length, List.take_of_length_le (by omega)]
theorem cut_hi (ds : List PyData) (hl : ds.length ≤ 63) : cutD ds (some 3) (some 63) = ds.drop 3 := by
  unfold cutD
  rw [show HT.sIx ds.length 0 (some 3) = min 3 ds.length from HT.sIx_nat _ _ 3, show HT.sIx ds.length ds.length (some 63) = min 63 ds.length from HT.sIx_nat _ _ 63, Nat.min_eq_right hl]
  by_cases h : 3 ≤ ds.length
  · rw [Nat.min_eq_left h]
    exact List.take_of_length_le (by rw [List.length_drop]; exact Nat.le_refl _)
  · rw [Nat.min_eq_right (by omega), Nat.sub_self, List.take_zero, List.drop_of_length_le (by omega)]
theorem df_law_cells (A : At K mg "_law_cells" 26) (g : G0 K mg) : Df P w K mg base CX0 (k + 1) "_law_cells" ["_law_script", "_law_top_so"] (sp_law_cells K) := by
  refine df_pureSl A sc_law_cells (fun _ => rfl) (by decide) (fun _ _ _ _ _ _ us hl => match us, hl with | [_, _], _ => rfl) fun f cdv A outer s H E C ns hr ha => ⟨t_law_cells K, ps_law_cells g hr, fun D σ q hh => ?_⟩
  have ha : ns.length ≤ 63 := ha
  obtain ⟨B, hB⟩ : ∃ B : Bx, B = ⟨K, none, C, H⟩ := ⟨_, rfl⟩
  have eK : K = B.K := by rw [hB]
  rw [← hB] at hh q
  clear hB
  subst eK
  have hh : Holds B [.scr ns, .dat (.int 3), .emp, .emp, .emp, .emp] [] (fun _ => True) 0 σ H := hh
  have u : Up fun _ => True := Up.tt
  unfold t_law_cells
  -- behind the first line
  have rest : ∀ (p : Addr) (cs : List Int) (σ1 : L2.St) (H1 : Hp) (D' : Ends), D'.rt = D.rt → 0 < cs.length → cs.length ≤ 3 → (3 < ns.length → cs.length = 3) → Holds B [.scr ns, .dat (.int 3), .adr p, .emp, .emp, .emp] [(p, cs.map .int)] (fun _ => True) 0 σ1 H1 →
      tSeq (tFor (iEnumS B.K (tCons (tSl (rSlL B.K) (tVar 0) (tPart (tVar 1)) (tPart (tC (.int 63)))) tNil)) (gTup B.K 2 (gCons (gName 3) (gCons (gName 4) gNil))) (tSeq (tAsg (tOp (rI (fun _ j => 0 < j) fun i j => .int (i % j)) (tCB rIntOf (tCons (tVar 3) tNil)) (tVar 1)) (gName 5)) (tAsg (tOp (rI0 fun i j => .int (i + j)) (tOp (rIx B.K) (tVar 2) (tVar 5)) (tOp (rI CMul fun i j => .int (i * j)) (tVar 4) (tOp (rI0 fun i j => .int (i + j)) (tVar 3) (tC (.int 2))))) (gSub (tVar 2) (tVar 5) rSetL)))) (tRet (tVar 2)) D' σ1 H1 := by
    intro p cs σ1 H1 D' hD c1 c2 c3 h1
    have wlk : EvD B 0 (tSl (rSlL B.K) (tVar 0) (tPart (tVar 1)) (tPart (tC (.int 63)))) [.scr ns, .dat (.int 3), .adr p, .emp, .emp, .emp] (.dat (.list ((ns.drop 3).map eInt))) :=
      (ed_slS (ed_var rfl) (eo_some (i := 3) (ed_var rfl)) (eo_some ed_int)).to (by rw [cut_hi _ (by rw [List.length_map]; exact ha), ← List.map_drop]; rfl)
    apply p_forN (x0 := cs) (ns.drop 3).zipIdx (fun x => .tuple [.int (x.2 : Int), .int x.1]) (fun cs x => cs.set (x.2 % 3) ((cs.getD (x.2 % 3) 0) + x.1 * ((x.2 : Int) + 2))) (fun i cs => 0 < cs.length ∧ cs.length ≤ 3 ∧ (3 < ns.length → cs.length = 3)) (fun _ => [.scr ns, .dat (.int 3), .adr p, .emp, .emp, .emp]) (fun cs => [(p, cs.map .int)]) h1 u
      (by have z := enumD_map eInt (ns.drop 3); exact (show (fun L : List PyData => L = (ns.drop 3).zipIdx.map fun x => .tuple [.int (x.2 : Int), eInt x.1]) = _ from by rw [← z]) ▸ ew_enum wlk (.inl rfl)) rfl rfl rfl ⟨c1, c2, c3⟩
    case turn =>
      intro i x cs T' m N σ' H' v hx ⟨i1, i2, i3⟩ up h2 next
      obtain ⟨c, j⟩ := x
      have l3 : cs.length = 3 := i3 (by
        have z := (List.getElem?_eq_some_iff.mp hx).1
        rw [List.length_zipIdx, List.length_drop] at z
        omega)
      refine (eg_tup (vs := [3, 4]) (ds := [.int (j : Int), .int c]) (egs_cons eg_name (egs_cons eg_name egs_nil))) _ _ _ _ _ _ up h2 _ fun σ2 _ h3 => ?_
      have h3 : Holds B [.scr ns, .dat (.int 3), .adr p, .dat (.int (j : Int)), .dat (.int c), .emp] [(p, cs.map .int)] T' m σ2 H' := h3
      apply p_asgN (s := .dat (.int ((j % 3 : Nat) : Int))) h3 up
      case h => exact ed_fin (ed_op (er_fin (c1 := 0) (ed_cb (ea_one (ed_var rfl)) cl_int) rfl fun _ e => e) (ed_var rfl) (os_mod (by decide))) rfl (by rw [Int.natCast_emod]; rfl)
      case hc => rfl
      case k =>
      intro σ3 H3 h4
      have h4 : Holds B [.scr ns, .dat (.int 3), .adr p, .dat (.int (j : Int)), .dat (.int c), .dat (.int ((j % 3 : Nat) : Int))] [(p, cs.map .int)] T' m σ3 H3 := h4
      have h5 := h4
      obtain ⟨C1, a, b⟩ := h4
      obtain ⟨v2, e2, z2⟩ := a.env 2 _ rfl (by intro z; cases z)
      obtain ⟨v3, e3, z3⟩ := a.env 3 _ rfl (by intro z; cases z)
      obtain ⟨v4, e4, z4⟩ := a.env 4 _ rfl (by intro z; cases z)
      obtain ⟨v5, e5, z5⟩ := a.env 5 _ rfl (by intro z; cases z)
      have z2 : v2 = .ref p := z2
      subst z2
      cases z3
      cases z4
      cases z5
      obtain ⟨g1, g2, vs, g3, g4⟩ := a.hot _ List.mem_cons_self
      have ev := dt_ints g4
      subst ev
      have hj : j % 3 < cs.length := by rw [l3]; exact Nat.mod_lt _ (by decide)
      have get : cs[j % 3]? = some (cs.getD (j % 3) 0) := by
        rw [List.getD_eq_getElem?_getD, List.getElem?_eq_getElem hj]
        rfl
      have iv : Iv (tOp (rI0 fun i j => .int (i + j)) (tOp (rIx B.K) (tVar 2) (tVar 5)) (tOp (rI CMul fun i j => .int (i * j)) (tVar 4) (tOp (rI0 fun i j => .int (i + j)) (tVar 3) (tC (.int 2))))) σ3 H3 (cs.getD (j % 3) 0 + c * ((j : Int) + 2)) :=
        iv_op0 (f := fun i j => i + j) (iv_ixv e2 e5 (SqL.of g3) (atI_nat (by rw [List.getElem?_map, get]; rfl))) (iv_opC (f := fun i j => i * j) (iv_var e4) (iv_op0 (f := fun i j => i + j) (iv_var e3) iv_c) (.inr ⟨by omega, ?_⟩))
      · refine iv _ ⟨_, e2, _, e5, p, _, _, j % 3, rfl, rfl, g3, ?_, ?_⟩
        · have z := hj
          unfold ixN
          rw [List.length_map]
          rw [if_pos (by omega)]
          simp
          omega
        · have h6 : Holds B [.scr ns, .dat (.int 3), .adr p, .dat (.int (j : Int)), .dat (.int c), .dat (.int ((j % 3 : Nat) : Int))] [(p, (cs.set (j % 3) (cs.getD (j % 3) 0 + c * ((j : Int) + 2))).map .int)] T' m σ3 (upd H3 p (.lst ((cs.map V.int).set (j % 3) (.int (cs.getD (j % 3) 0 + c * ((j : Int) + 2)))))) := by
            refine Holds.put (h5.imp fun C z => ⟨z, ?_⟩)
            rw [← List.map_set]
            exact ints_dt
          refine next _ _ ⟨by rw [List.length_set]; exact i1, by rw [List.length_set]; exact i2, fun z => by rw [List.length_set]; exact i3 z⟩ (h6.less rfl fun i s e => ?_)
          match i with
          | 0 | 1 | 2 => exact .inr e
          | 3 | 4 | 5 => exact .inl (Option.some.inj e).symm
          | i + 6 => exact .inr e
      · have z := (List.getElem?_eq_some_iff.mp hx).1
        rw [List.getElem?_zipIdx] at hx
        obtain ⟨y, hy, e⟩ := Option.map_eq_some_iff.mp hx
        have ej : 0 + i = j := (Prod.mk.inj e).2
        rw [List.length_zipIdx, List.length_drop] at z
        have : (2 : Int) ^ 64 = 18446744073709551616 := by decide
        omega
    case done =>
      intro σ2 H2 ⟨i1, i2, _⟩ h2
      have h3 := (h2.freeze u).reslot (i := 2) rfl
      apply p_ret (s := .dat (.list (((ns.drop 3).zipIdx.foldl (fun cs x => cs.set (x.2 % 3) ((cs.getD (x.2 % 3) 0) + x.1 * ((x.2 : Int) + 2))) cs).map .int))) h3 u (ed_var rfl) rfl
      intro v H' h'
      rw [hD]
      exact q v _ H' _ _ _ _ σ2 ⟨_, i1, i2, rfl⟩ h'
  -- list(script[:top]) or [0]
  have sl : EvD B 0 (tSl (rSlL B.K) (tVar 0) tNoPart (tPart (tVar 1))) [.scr ns, .dat (.int 3), .emp, .emp, .emp, .emp] (.dat (.list ((ns.take 3).map .int))) :=
    (ed_slS (ed_var rfl) eo_none (eo_some (i := 3) (ed_var rfl))).to (by rw [cut_lo _ (by rw [List.length_map]; exact ha), ← List.map_take])
  refine s_seq ?_
  refine or_list ?_
  refine sl [] (fun _ => True) 0 σ H u hh _ fun v H1 s es h1 => ?_
  have es' : s = .dat (.list ((ns.take 3).map .int)) := es
  subst es'
  obtain ⟨C1, a, b, hv⟩ := h1
  cases hv with
  | @lst p xs _ g3 g4 =>
    have ev := dt_ints g4
    subst ev
    refine ⟨p, _, rfl, .inl (SqL.of (a.sub _ _ g3)), fun l hl => ?_⟩
    have h2 : Holds B [.scr ns, .dat (.int 3), .emp, .emp, .emp, .emp] [(l, (ns.take 3).map .int)] (fun _ => True) 0 σ (upd H1 l (.lst ((ns.take 3).map V.int))) := Holds.hotList (T := fun _ => True) ⟨C1, a, trivial, ints_dt⟩ hl
    have sq : SqL B.K (upd H1 l (.lst ((ns.take 3).map V.int))) l ((ns.take 3).map V.int) := SqL.of upd_same
    by_cases hn : ns = []
    · subst hn
      refine ⟨false, .inl ⟨_, sq, rfl⟩, ?_⟩
      rw [if_neg Bool.false_ne_true]
      refine ⟨by show 1 ≤ sizeLine; decide, fun l2 hl2 => ?_⟩
      have h3 : Holds B [.scr [], .dat (.int 3), .emp, .emp, .emp, .emp] [(l2, ([0] : List Int).map .int), (l, [])] (fun _ => True) 0 σ (upd (upd H1 l (.lst [])) l2 (.lst [.int 0])) := Holds.hotList (T := fun _ => True) (vs := [.int 0]) (h2.imp fun C z => ⟨z, .cons (.int 0) .nil⟩) hl2
      have h4 : Holds B [.scr [], .dat (.int 3), .emp, .emp, .emp, .emp] [(l2, ([0] : List Int).map .int)] (fun _ => True) 0 σ (upd (upd H1 l (.lst [])) l2 (.lst [.int 0])) := by
        obtain ⟨C2, a2, b2⟩ := h3
        exact ⟨C2, ⟨a2.sub, a2.len, a2.env, fun m hm => a2.hot m (by rw [List.mem_singleton.mp hm]; exact List.mem_cons_self), by simp, a2.box, a2.old, a2.keep⟩, b2⟩
      refine rest l2 [0] _ _ _ rfl (by decide) (by decide) (fun z => absurd z (by decide)) ?_
      exact Holds.set (i := 2) (s := .adr l2) (v := .ref l2) (h4.imp fun C z => ⟨z, rfl⟩)
    · have pos : 0 < ns.length := List.length_pos_iff.mpr hn
      have ne : (!((ns.take 3).map V.int).isEmpty) = true := by
        cases ns with
        | nil => exact absurd rfl hn
        | cons y ys => rfl
      refine ⟨true, .inl ⟨_, sq, ne.symm⟩, ?_⟩
      rw [if_pos rfl]
      refine rest l (ns.take 3) _ _ _ rfl (by rw [List.length_take]; omega) (by rw [List.length_take]; omega) (fun z => by rw [List.length_take]; omega) ?_
      exact Holds.set (i := 2) (s := .adr l) (v := .ref l) (h2.imp fun C z => ⟨z, rfl⟩)
end
end K30
set_option Elab.async false
set_option linter.all false
set_option maxRecDepth 100000
set_option maxHeartbeats 1000000
namespace K30
open PySem PySem.Spec PyProof.Rows L2
section
variable {P : Program} {w : World} {K : PySem.W.Frag} {mg : Str → Option Value} {base : Heap} {k : Nat}
abbrev sp_law_by_hand_right (K : PySem.W.Frag) : Sp := spP K (fun _ : Unit => []) (fun _ => True) (fun _ d => d = .bool true)
abbrev sp_law (K : PySem.W.Frag) : Sp := spSl K (fun ns : List Int => [.scr ns]) (fun ns => ns.length ≤ 63) (fun _ d => d = .bool true)
theorem call_call {sp sp2 : Sp} {t : TA} {σ : L2.St} {H : Hp} {Q : VK} (h : t σ H fun vs H1 => sp2 (vs ++ []) H1 (fun v H2 => sp ([v] ++ []) H2 Q E0) E0) : tCall sp [] E0 (tCons (tCall sp2 [] E0 t) tNil) σ H Q := h
/-- a box made and handed on -/
theorem ed_boxed {B : Bx} {rho : List Sl} {ns : List Int} {j i1 i2 : Nat} (hB : B.beta = none) (h1 : rho[i1]? = some (.dat (.list (ns.map .int)))) (h2 : rho[i2]? = some (.dat (.int (j : Int)))) (hj : j < ns.length) (hj3 : j ≤ 3) :
    EvD B 0 (tCall (sp_law_right B.K) [] E0 (tCons (tCall (spNewBox B.K) [] E0 (tCons (tVar i1) (tCons (tVar i2) tNil))) tNil)) rho (.dat (.bool true)) := fun mu T n σ H u hh Q q => by
  have ev : EvA B 0 (tCons (tVar i1) (tCons (tVar i2) tNil)) rho (fun l => l = [.dat (.list (ns.map .int)), .dat (.int (j : Int))]) := ea_cons (c1 := 0) (c2 := 0) (ed_var h1) (ea_one (ed_var h2))
  refine call_call ?_
  refine ev mu T n σ H u hh _ fun vs H1 ss e k1 => ?_
  have e' : ss = [.dat (.list (ns.map .int)), .dat (.int (j : Int))] := e
  subst e'
  obtain ⟨C, x, t, hv⟩ := k1
  refine ⟨C, ns, j, x.sub, by rw [List.append_nil]; exact VlAll.dats (ds := [.list (ns.map .int), .int (j : Int)]) hv, hj, hj3, fun b y z hb => ?_⟩
  have cb : C b = none := x.free hb
  have sub : Same C (upd H1 b (.lst [.int y, .int z, .int 0])) := fun a o e => by
    rw [upd_ne (fun w => by rw [w, cb] at e; cases e)]
    exact x.sub a o e
  refine ⟨C, (), b, [], 1000, rfl, sub, cb, ⟨y, z, 0, upd_same, Int.le_refl _, by decide⟩, .nil, trivial, fun v C' H' d s1 hx s2 s3 s4 hd hv' => ?_⟩
  have ed : d = .bool true := hd
  subst ed
  refine q v H' (.dat (.bool true)) rfl ⟨C', x.ext (fun a o e => ?_) s2 s3 (fun a o e => ?_), u _ _ s2 t, hv'⟩
  · have ne : a ≠ b := fun w => by rw [w, hb] at e; cases e
    exact s1 a o ne (by rw [upd_ne ne]; exact e)
  · have ne : a ≠ b := fun w => by rw [w, hb] at e; cases e
    exact s4 a o (by rw [upd_ne ne]; exact e)
theorem df_law (A : At K mg "law" 50) (g : G0 K mg) (D1 : Df P w K mg base CX0 k "_law_right" ["_law_box_here"] (sp_law_right K)) (D2 : Df P w K mg base CX0 k "_law_box" ["_law_script", "_law_k"] (spNewBox K)) (D3 : Df P w K mg base CX0 k "_law_cells" ["_law_script", "_law_top_so"] (sp_law_cells K))
    (D4 : Df P w K mg base CX0 k "_law_by_hand_right" [] (sp_law_by_hand_right K)) : Df P w K mg base CX0 (k + 1) "law" ["_law_script"] (sp_law K) := by
  refine df_pureSl A sc_law (fun _ => rfl) (by decide) (fun _ _ _ _ _ _ us hl => match us, hl with | [_], _ => rfl) fun f cdv A outer s H E C ns hr ha => ⟨t_law K _ _ _ _, ps_law g D1 D2 D3 D4 hr, fun D σ q hh => ?_⟩
  have u : Up fun _ => True := Up.tt
  have hh : Holds ⟨K, none, C, H⟩ [.scr ns, .emp, .emp] [] (fun _ => True) 0 σ H := hh
  unfold t_law
  apply p_ifN (b := !true) hh u
  case h => exact et_not (et_val (er_fin (c1 := 0) (er_call (B := ⟨K, none, C, H⟩) (E := E0) (enc := fun _ : Unit => []) (ok := fun _ => True) (res := fun _ d => d = .bool true) () ea_nil trivial) rfl fun s ⟨d, e1, e2⟩ => by rw [e2, e1]))
  case hc => rfl
  case k1 => intro z; cases z
  case k2 =>
  intro _ H1 h1
  refine s_asgN (n := 0) (c := 0) h1 u (er_callSl (B := ⟨K, none, C, H⟩) (E := E0) (enc := fun ns : List Int => [.scr ns, .dat (.int 3)]) (ok := fun ns => ns.length ≤ 63) (res := fun _ d => ∃ ms : List Int, 0 < ms.length ∧ ms.length ≤ 3 ∧ d = .list (ms.map .int)) ns (ea_cons (c1 := 0) (c2 := 0) (ed_var (i := 0) rfl) (ea_one ed_int)) ha) (by omega) fun s σ2 H2 ⟨d, ⟨ms, m1, m2, ed⟩, es⟩ h2 => ?_
  subst es ed
  have h2 : Holds ⟨K, none, C, H⟩ [.scr ns, .dat (.list (ms.map .int)), .emp] [] (fun _ => True) 0 σ2 H2 := h2
  have len : EvD ⟨K, none, C, H⟩ 0 (tCB (rLenOf K) (tCons (tVar 1) tNil)) [.scr ns, .dat (.list (ms.map .int)), .emp] (.dat (.int (ms.length : Int))) := er_fin (c1 := 0) (ed_cb (B := ⟨K, none, C, H⟩) (ea_one (ed_var rfl)) (cl_len (.inl rfl))) rfl fun s e => by rw [e, List.length_map]
  have wlk : EvW ⟨K, none, C, H⟩ 0 (iRng1 (tCons (tCB (rLenOf K) (tCons (tVar 1) tNil)) tNil)) [.scr ns, .dat (.list (ms.map .int)), .emp] (fun L => L = (List.range ms.length).map eNat) := by
    intro mu T m σ H0 uu h R r
    refine ew_range (S := fun n => n = ms.length) ((ea_one len).imp fun l e => ⟨(ms.length : Int), Int.toNat_natCast _, by omega, by omega, e⟩) mu T m σ H0 uu h R fun J H1 W L ⟨n, hn, _, eL⟩ => r J H1 W L ?_
    rw [eL, hn]
    rfl
  apply p_ret (s := .dat (.bool true)) h2 u
  case h =>
    refine er_fin (c1 := 0) (ed_cb (B := ⟨K, none, C, H⟩) (ea_one (ed_lc1 (List.range ms.length) eNat (fun j => [.scr ns, .dat (.list (ms.map .int)), .dat (eNat j)]) (fun _ => .bool true) wlk (fun _ _ => eg_name) (fun _ _ => et_yes) (fun j hj => ed_boxed (B := ⟨K, none, C, H⟩) (ns := ms) (j := j) rfl rfl rfl (List.mem_range.mp hj) (by have := List.mem_range.mp hj; omega)) (by rw [List.length_range]; omega))) cl_allM) rfl fun s e => ?_
    rw [e, List.all_eq_true.mpr (by intro y hy; obtain ⟨_, _, e⟩ := List.mem_map.mp hy; rw [← e]; rfl)]
  case hc => rfl
  case k => exact fun v H' h => q v _ H' _ _ _ _ σ2 rfl h
/-! ### _law_field -/
def cutW : Cut := [[("w", true)]]
def cutB : Cut := [[("e", true), ("w", true)]]
def bookF : List Deed := [.one "vest" "ann" cutW, .four "give" "ann" "cid" cutB, .four "whole" "ann" "bob" cutW]
def chartF : PyData := .tuple [eNames ["e", "w"], eCut []]
def apartF : PyData := .tuple [eNames ["e", "w"], eCut cutB]
abbrev sp_law_field (K : PySem.W.Frag) : Sp := spP K (fun _ : Unit => []) (fun _ => True) (fun _ d => d = .tuple [chartF, apartF, eBook bookF])
theorem df_law_field (A : At K mg "_law_field" 43) (g : G0 K mg) : Df P w K mg base CX0 (k + 1) "_law_field" [] (sp_law_field K) := by
  refine df_pure A sc_law_field (fun _ => rfl) (by decide) (fun _ _ _ _ _ _ us hl => match us, hl with | [], _ => rfl) fun f cdv A outer s H E C ns hr ha => ⟨t_law_field K, ps_law_field g hr, fun D σ q hh => ?_⟩
  have u : Up fun _ => True := Up.tt
  have hh : Holds ⟨K, none, C, H⟩ [.emp, .emp, .emp] [] (fun _ => True) 0 σ H := hh
  unfold t_law_field
  apply p_asgTupN (ss := [.dat (eCut cutW), .dat (eCut cutB)]) hh u
    (h := ea_cons (c1 := 0) (c2 := 0) (ed_fin (ed_tup (ds := [eCond [("w", true)]]) (ea_one (ed_tup (ds := [ePair ("w", true)]) (ea_one (ed_tup (ds := [.str "w", .bool true]) (ea_cons ed_str (ea_one ed_bl))))))) rfl rfl)
      (ea_cons (c1 := 0) (c2 := 0) (ed_fin (ed_tup (ds := [eCond [("e", true), ("w", true)]]) (ea_one (ed_tup (ds := [ePair ("e", true), ePair ("w", true)]) (ea_cons (ed_tup (ds := [.str "e", .bool true]) (ea_cons ed_str (ea_one ed_bl))) (ea_one (ed_tup (ds := [.str "w", .bool true]) (ea_cons ed_str (ea_one ed_bl)))))))) rfl rfl) ea_nil))
    (hc := rfl) (hl := Nat.le_of_ble_eq_true rfl) (hm := rfl) (g := egs_cons (vs := [1, 2]) eg_name (egs_cons eg_name egs_nil))
  intro σ1 H1 h1
  have h1 : Holds ⟨K, none, C, H⟩ [.emp, .dat (eCut cutW), .dat (eCut cutB)] [] (fun _ => True) 0 σ1 H1 := h1
  apply p_asgN (s := .dat (eBook bookF)) h1 u
  case h =>
    exact ed_fin (ed_tup (ds := [eDeed (.one "vest" "ann" cutW), eDeed (.four "give" "ann" "cid" cutB), eDeed (.four "whole" "ann" "bob" cutW)]) (ea_cons (ed_tup (ds := [.str "vest", .str "ann", eCut cutW]) (ea_cons ed_str (ea_cons ed_str (ea_one (ed_var rfl))))) (ea_cons (ed_tup (ds := [.str "give", .str "ann", .str "cid", eCut cutB]) (ea_cons ed_str (ea_cons ed_str (ea_cons ed_str (ea_one (ed_var rfl))))))
      (ea_one (ed_tup (ds := [.str "whole", .str "ann", .str "bob", eCut cutW]) (ea_cons ed_str (ea_cons ed_str (ea_cons ed_str (ea_one (ed_var rfl)))))))))) rfl rfl
  case hc => rfl
  case k =>
  intro σ2 H2 h2
  have h2 : Holds ⟨K, none, C, H⟩ [.dat (eBook bookF), .dat (eCut cutW), .dat (eCut cutB)] [] (fun _ => True) 0 σ2 H2 := h2
  apply p_ret (s := .dat (.tuple [chartF, apartF, eBook bookF])) h2 u
  case h =>
    have nm : ∀ rho : List Sl, EvD ⟨K, none, C, H⟩ 0 (tTup (tCons (tC (.str "e")) (tCons (tC (.str "w")) tNil))) rho (.dat (eNames ["e", "w"])) := fun rho => ed_fin (ed_tup (ds := [.str "e", .str "w"]) (ea_cons ed_str (ea_one ed_str))) rfl rfl
    exact ed_fin (ed_tup (ds := [chartF, apartF, eBook bookF]) (ea_cons (ed_tup (ds := [eNames ["e", "w"], eCut []]) (ea_cons (nm _) (ea_one ed_nilT))) (ea_cons (ed_tup (ds := [eNames ["e", "w"], eCut cutB]) (ea_cons (nm _) (ea_one (ed_var rfl)))) (ea_one (ed_var rfl))))) rfl rfl
  case hc => rfl
  case k => exact fun v H' h => q v _ H' _ _ _ _ σ2 rfl h
end
end K30
set_option Elab.async false
set_option linter.all false
set_option maxRecDepth 100000
set_option maxHeartbeats 1000000
namespace K30
open PySem PySem.Spec PyProof.Rows L2
/-! ### the cases by hand -/
def aloneW : List Point := [⟨["w"], 1, "eve"⟩]
def bothW : List Point := [⟨["w"], 1, "eve"⟩, ⟨["e", "w"], 5, "eve"⟩]
def cutAll : Cut := [[]]
def cutE : Cut := [[("e", true)]]
def moreB : List Deed := [.four "whole" "ann" "bob" cutAll, .four "whole" "ann" "cy" cutE, .four "whole" "cy" "ann" cutE, .four "whole" "ann" "bob" [], .one "charge" "ann" cutAll, .two "way" cutAll cutAll]
def world1 : List Point := [⟨["e"], 3, "ann"⟩, ⟨[], 1, "bob"⟩]
def world2 : List Point := [⟨["e"], 3, "ann"⟩, ⟨["e"], 3, "ann"⟩]
def world3 : List Point := [⟨["e"], 1, "bob"⟩]
structure WH where
  w : List Point
  h : List Deed
structure WH.Ok (a : WH) : Prop where
  lw : a.w.length ≤ 100
  sp : ∀ p ∈ a.w, p.spot.length ≤ 1000
  lh : a.h.length ≤ 100
  ok : ∀ d ∈ a.h, d.ok = true
theorem WH.Ok.wb {a : WH} (h : a.Ok) : WB.Ok ⟨eWorld a.w, eBook a.h, a.w, a.h⟩ :=
  ⟨okD_world (n := 8) (by have := h.lw; omega) h.sp, okD_book (n := 6) (by have := h.lh; omega) h.ok, hard_world _, hard_book _, by have := h.lw; show a.w.length ≤ 1000; omega, by have := h.lh; show a.h.length ≤ 999; omega, h.ok⟩
section
variable {B : Bx} {rho : List Sl} {ta tb : TE}
theorem letE {w : List Point} {h : List Deed} {r : List Nat} (ok : (WH.mk w h).Ok) (e : (playM w h).1 = r) (h1 : EvD B 0 ta rho (.dat (eWorld w))) (h2 : EvD B 0 tb rho (.dat (eBook h))) : EvD B 0 (tCall (sp_let_wholes B.K) [] E0 (tCons ta (tCons tb tNil))) rho (.dat (eNats r)) :=
  ed_fin (ed_call (f := fun a : WB => eNats (playM a.w a.h).1) ⟨eWorld w, eBook h, w, h⟩ (ea_cons h1 (ea_one h2)) ok.wb) rfl (by rw [← e])
theorem ownE {w : List Point} {h : List Deed} {r : List Str} (ok : (WH.mk w h).Ok) (e : (playM w h).2 = r) (h1 : EvD B 0 ta rho (.dat (eWorld w))) (h2 : EvD B 0 tb rho (.dat (eBook h))) : EvD B 0 (tCall (sp_owners_in B.K) [] E0 (tCons ta (tCons tb tNil))) rho (.dat (eNames r)) :=
  ed_fin (ed_call (f := fun a : WB => eNames (playM a.w a.h).2) ⟨eWorld w, eBook h, w, h⟩ (ea_cons h1 (ea_one h2)) ok.wb) rfl (by rw [← e])
theorem whoE {h : List Deed} {r : List Nat} (lh : h.length ≤ 1000) (e : wholesM h = r) (h2 : EvD B 0 tb rho (.dat (eBook h))) : EvD B 0 (tCall (sp_wholes_of B.K) [] E0 (tCons tb tNil)) rho (.dat (eNats r)) :=
  ed_fin (ed_call (f := fun a : PyData × List Deed => eNats (wholesM a.2)) (eBook h, h) (ea_one h2) ⟨hard_book h, lh⟩) rfl (by rw [← e])
theorem plaE {Cn : Addr} {h r : List Deed} {g : List Nat} (ok : (WH.mk [] h).Ok) (lg : g.length ≤ 1000) (sub : ∀ x ∈ g, x ∈ wholesM h) (e : leftM h g = r) (h1 : EvD B 0 ta rho (.dat (eBook h))) (h2 : EvD B 0 tb rho (.dat (eNats g))) : EvD B 0 (tCall (sp_played B.K Cn) [] E0 (tCons ta (tCons tb tNil))) rho (.dat (eBook r)) := by
  have wb := ok.wb
  refine ed_fin (ed_callX (Cn := Cn) (E := E0) (enc := fun a : PlIn => [a.hd, a.gd]) (ok := PlIn.Ok) (bad := PlIn.bad) (res := fun a => eBook (leftM a.h (a.g.map Int.toNat))) (PlIn.mk (eBook h) (eNats g) h (g.map fun n : Nat => (n : Int))) (ea_cons h1 (ea_one h2)) ⟨wb.dh, wb.sh, wb.lh, wb.ok, .inr ?_, by show (g.map _).length ≤ 1000; rw [List.length_map]; exact lg⟩ (bad_none fun i hi => ?_)) rfl ?_
  · show eNats g = .tuple ((g.map fun n : Nat => (n : Int)).map .int)
    rw [List.map_map]
    rfl
  · obtain ⟨n, hn, en⟩ := List.mem_map.mp hi
    exact ⟨n, sub n hn, en.symm⟩
  · show Sl.dat (eBook (leftM h ((g.map fun n : Nat => (n : Int)).map Int.toNat))) = _
    rw [List.map_map, show (Int.toNat ∘ fun n : Nat => (n : Int)) = id from funext fun n => Int.toNat_natCast n, List.map_id, e]
end
theorem seq_go {t2 : TS} {D : Ends} {σ : L2.St} {H : Hp} (h : t2 D σ H) : ({ D with nx := t2 D } : Ends).nx σ H := h
theorem okBook : (WH.mk [] bookF).Ok := ⟨by decide, fun p hp => (by cases hp), by decide, by decide +kernel⟩
theorem okEmpty : (WH.mk [] []).Ok := ⟨by decide, fun p hp => (by cases hp), by decide, fun d hd => (by cases hd)⟩
theorem WH.Ok.of {w : List Point} {h : List Deed} (a : (WH.mk [] h).Ok) (lw : w.length ≤ 100) (sp : ∀ p ∈ w, p.spot.length ≤ 1000) : (WH.mk w h).Ok := ⟨lw, sp, a.lh, a.ok⟩
theorem okMore : (WH.mk [] moreB).Ok := ⟨by decide, fun p hp => (by cases hp), by decide, by decide +kernel⟩
abbrev sp_law_more_right (K : PySem.W.Frag) : Sp := spP K (fun _ : Unit => [eBook bookF, eBook moreB, .list [eWorld world1, eWorld world2, eWorld world3]]) (fun _ => True) (fun _ d => d = .bool true)
section
variable {P : Program} {w : World} {K : PySem.W.Frag} {mg : Str → Option Value} {base : Heap} {k : Nat}
theorem df_law_by_hand_right {Cn : Addr} (A : At K mg "_law_by_hand_right" 47) (g : G0 K mg) (D1 : Df P w K mg base CX0 k "_law_same" ["_law_got", "_law_due"] (sp_law_same K dep)) (D2 : Df P w K mg base CX0 k "_law_more_right" ["_law_book_so", "_law_more_so", "_law_worlds_so"] (sp_law_more_right K)) (D3 : Df P w K mg base CX0 k "owners_in" ["world", "history"] (sp_owners_in K))
    (D4 : Df P w K mg base CX0 k "let_wholes" ["world", "history"] (sp_let_wholes K)) (D5 : Df P w K mg base (L2.CX P w) k "played" ["history", "guess"] (sp_played K Cn)) (D6 : Df P w K mg base CX0 k "wholes_of" ["history"] (sp_wholes_of K)) (D7 : Df P w K mg base CX0 k "_law_field" [] (sp_law_field K)) :
    Df P w K mg base CX0 (k + 1) "_law_by_hand_right" [] (sp_law_by_hand_right K) := by
  refine df_pure A sc_law_by_hand_right (fun _ => rfl) (by decide) (fun _ _ _ _ _ _ us hl => match us, hl with | [], _ => rfl) fun f cdv A outer s H E C ns hr ha => ⟨t_law_by_hand_right K _ _ _ _ _ _ _, ps_law_by_hand_right g D1 D2 D3 D4 D5 D6 D7 hr, fun D σ q hh => ?_⟩
  obtain ⟨B, hB⟩ : ∃ B : Bx, B = ⟨K, none, C, H⟩ := ⟨_, rfl⟩
  have eK : K = B.K := by rw [hB]
  rw [← hB] at hh q
  clear hB
  subst eK
  have u : Up fun _ => True := Up.tt
  have hh : Holds B [.emp, .emp, .emp, .emp, .emp, .emp, .emp, .emp, .emp, .emp, .emp, .emp] [] (fun _ => True) 0 σ H := hh
  unfold t_law_by_hand_right
  -- the field
  refine s_seq (s_asgG (c := 0) (vs := [4, 5, 6]) (S := fun s => s = .dat (.tuple [chartF, apartF, eBook bookF])) hh u (er_fin (c1 := 0) (er_call (E := E0) (enc := fun _ : Unit => []) (ok := fun _ => True) (res := fun _ d => d = .tuple [chartF, apartF, eBook bookF]) () ea_nil trivial) rfl fun s ⟨d, e1, e2⟩ => by rw [e2, e1]) fun s es => ?_)
  have es' : s = .dat (.tuple [chartF, apartF, eBook bookF]) := es
  subst es'
  refine ⟨_, eg_tup (vs := [4, 5, 6]) (egs_cons eg_name (egs_cons eg_name (egs_cons eg_name egs_nil))), fun σ1 H1 h1 => ?_⟩
  have h1 : Holds B [.emp, .emp, .emp, .emp, .dat chartF, .dat apartF, .dat (eBook bookF), .emp, .emp, .emp, .emp, .emp] [] (fun _ => True) 0 σ1 H1 := h1
  refine seq_go ?_
  apply p_asgTupN (ss := [.dat (eWorld aloneW), .dat (eWorld bothW)]) h1 u
    (h := ea_cons (c1 := 0) (c2 := 0) (ed_fin (ed_tup (ds := [(.tuple [(.tuple [.str "w"]), .int 1, .str "eve"])]) (ea_cons (ed_tup (ds := [(.tuple [.str "w"]), .int 1, .str "eve"]) (ea_cons (ed_tup (ds := [.str "w"]) (ea_cons ed_str ea_nil)) (ea_cons ed_int (ea_cons ed_str ea_nil)))) ea_nil)) rfl rfl) (ea_cons (c1 := 0) (c2 := 0) (ed_fin (ed_tup (ds := [(.tuple [(.tuple [.str "w"]), .int 1, .str "eve"]), (.tuple [(.tuple [.str "e", .str "w"]), .int 5, .str "eve"])]) (ea_cons (ed_tup (ds := [(.tuple [.str "w"]), .int 1, .str "eve"]) (ea_cons (ed_tup (ds := [.str "w"]) (ea_cons ed_str ea_nil)) (ea_cons ed_int (ea_cons ed_str ea_nil)))) (ea_cons (ed_tup (ds := [(.tuple [.str "e", .str "w"]), .int 5, .str "eve"]) (ea_cons (ed_tup (ds := [.str "e", .str "w"]) (ea_cons ed_str (ea_cons ed_str ea_nil))) (ea_cons ed_int (ea_cons ed_str ea_nil)))) ea_nil))) rfl rfl) ea_nil))
    (hc := rfl) (hl := Nat.le_of_ble_eq_true rfl) (hm := rfl) (g := egs_cons (vs := [7, 8]) eg_name (egs_cons eg_name egs_nil))
  intro σ2 H2 h2
  have h2 : Holds B [.emp, .emp, .emp, .emp, .dat chartF, .dat apartF, .dat (eBook bookF), .dat (eWorld aloneW), .dat (eWorld bothW), .emp, .emp, .emp] [] (fun _ => True) 0 σ2 H2 := h2
  have okA : (WH.mk aloneW bookF).Ok := okBook.of (by decide) (by decide +kernel)
  have okB : (WH.mk bothW bookF).Ok := okBook.of (by decide) (by decide +kernel)
  have em : ∀ rho : List Sl, EvD B 0 (tTup tNil) rho (.dat (eBook [])) := fun rho => ed_nilT
  have em2 : ∀ rho : List Sl, EvD B 0 (tTup tNil) rho (.dat (eWorld [])) := fun rho => ed_nilT
  have em3 : ∀ rho : List Sl, EvD B 0 (tTup tNil) rho (.dat (eNats [])) := fun rho => ed_nilT
  apply p_asgN (s := .dat (.list [eNats [2], eNats [], eNats [2], eNames ["bob"]])) h2 u
  case h =>
    exact ed_fin (ed_lst (ds := [eNats [2], eNats [], eNats [2], eNames ["bob"]]) (ea_cons (c1 := 0) (c2 := 0) (whoE (h := bookF) (by decide) (by decide +kernel) (ed_var rfl)) (ea_cons (c1 := 0) (c2 := 0) (whoE (h := []) (by decide) rfl (em _)) (ea_cons (c1 := 0) (c2 := 0) (letE okA (by decide +kernel) (ed_var rfl) (ed_var rfl)) (ea_one (ownE okA (by decide +kernel) (ed_var rfl) (ed_var rfl))))))) rfl rfl
  case hc => rfl
  case k =>
  intro σ3 H3 h3
  have h3 : Holds B [.dat (.list [eNats [2], eNats [], eNats [2], eNames ["bob"]]), .emp, .emp, .emp, .dat chartF, .dat apartF, .dat (eBook bookF), .dat (eWorld aloneW), .dat (eWorld bothW), .emp, .emp, .emp] [] (fun _ => True) 0 σ3 H3 := h3
  obtain ⟨g1, hg1⟩ : ∃ g1 : List PyData, g1 = [eNats [2], eNats [], eNats [2], eNames ["bob"], eNats [], eNames ["ann", "cid"], eNats [2], eNames []] := ⟨_, rfl⟩
  apply p_asgN (s := .dat (.list g1)) h3 u
  case h =>
    exact ed_fin (ed_op (ed_var rfl) (ed_lst (ds := [eNats [], eNames ["ann", "cid"], eNats [2], eNames []]) (ea_cons (c1 := 0) (c2 := 0) (letE okB (by decide +kernel) (ed_var rfl) (ed_var rfl)) (ea_cons (c1 := 0) (c2 := 0) (ownE okB (by decide +kernel) (ed_var rfl) (ed_var rfl)) (ea_cons (c1 := 0) (c2 := 0) (letE okBook (by decide +kernel) (em2 _) (ed_var rfl)) (ea_one (ownE okBook (by decide +kernel) (em2 _) (ed_var rfl)))))))
      (os_cat (Nat.le_of_ble_eq_true rfl))) rfl (by rw [hg1]; rfl)
  case hc => rfl
  case k =>
  intro σ4 H4 h4
  have h4 : Holds B [.dat (.list g1), .emp, .emp, .emp, .dat chartF, .dat apartF, .dat (eBook bookF), .dat (eWorld aloneW), .dat (eWorld bothW), .emp, .emp, .emp] [] (fun _ => True) 0 σ4 H4 := h4
  apply p_asgN (s := .dat (.list g1)) h4 u
  case h =>
    refine ((ed_fin (ed_lst (ds := [(.tuple [.int 2]), (.tuple []), (.tuple [.int 2]), (.tuple [.str "bob"]), (.tuple []), (.tuple [.str "ann", .str "cid"]), (.tuple [.int 2]), (.tuple [])]) (ea_cons (ed_tup (ds := [.int 2]) (ea_cons ed_int ea_nil)) (ea_cons (ed_tup (ds := []) ea_nil) (ea_cons (ed_tup (ds := [.int 2]) (ea_cons ed_int ea_nil)) (ea_cons (ed_tup (ds := [.str "bob"]) (ea_cons ed_str ea_nil)) (ea_cons (ed_tup (ds := []) ea_nil) (ea_cons (ed_tup (ds := [.str "ann", .str "cid"]) (ea_cons ed_str (ea_cons ed_str ea_nil))) (ea_cons (ed_tup (ds := [.int 2]) (ea_cons ed_int ea_nil)) (ea_cons (ed_tup (ds := []) ea_nil) ea_nil))))))))) rfl rfl) : EvD B 0 _ _ (.dat (.list [eNats [2], eNats [], eNats [2], eNames ["bob"], eNats [], eNames ["ann", "cid"], eNats [2], eNames []]))).to ?_
    rw [hg1]
  case hc => rfl
  case k =>
  intro σ5 H5 h5
  have h5 : Holds B [.dat (.list g1), .dat (.list g1), .emp, .emp, .dat chartF, .dat apartF, .dat (eBook bookF), .dat (eWorld aloneW), .dat (eWorld bothW), .emp, .emp, .emp] [] (fun _ => True) 0 σ5 H5 := h5
  have l1 : g1.length = 8 := by rw [hg1]; rfl
  -- played
  obtain ⟨b1, hb1⟩ : ∃ b1 : List Deed, b1 = [.one "vest" "ann" cutW, .four "give" "ann" "cid" cutB, .four "give" "ann" "bob" cutW] := ⟨_, rfl⟩
  obtain ⟨b2, hb2⟩ : ∃ b2 : List Deed, b2 = [.one "vest" "ann" cutW, .four "give" "ann" "cid" cutB] := ⟨_, rfl⟩
  have e1 : leftM bookF [2] = b1 := by rw [hb1]; kernel_rfl
  have e2 : leftM bookF [] = b2 := by rw [hb2]; kernel_rfl
  apply p_asgN (s := .dat (.list (g1 ++ [eBook b1, eBook b2, eBook []]))) h5 u
  case h =>
    refine ed_fin (ed_op (ed_var rfl) (ed_lst (ds := [eBook b1, eBook b2, eBook []]) (ea_cons (c1 := 0) (c2 := 0) (plaE (g := [2]) okBook (by decide) (by decide +kernel) e1 (ed_var rfl) (ed_fin (ed_tup (ds := [.int 2]) (ea_cons ed_int ea_nil)) rfl rfl)) (ea_cons (c1 := 0) (c2 := 0) (plaE (g := []) okBook (by decide) (fun x hx => (by cases hx)) e2 (ed_var rfl) (em3 _)) (ea_one (plaE (g := []) (h := []) okEmpty (by decide) (fun x hx => (by cases hx)) rfl (em _) (em3 _)))))) (os_cat ?_)) rfl rfl
    rw [l1]
    exact Nat.le_of_ble_eq_true rfl
  case hc => rfl
  case k =>
  intro σ6 H6 h6
  obtain ⟨g2, hg2⟩ : ∃ g2, g2 = g1 ++ [eBook b1, eBook b2, eBook []] := ⟨_, rfl⟩
  rw [← hg2] at h6
  have h6 : Holds B [.dat (.list g2), .dat (.list g1), .emp, .emp, .dat chartF, .dat apartF, .dat (eBook bookF), .dat (eWorld aloneW), .dat (eWorld bothW), .emp, .emp, .emp] [] (fun _ => True) 0 σ6 H6 := h6
  have sl2 : EvD B 0 (tSl (rSlA B.K) (tVar 6) tNoPart (tPart (tC (.int 2)))) [.dat (.list g2), .dat (.list g1), .emp, .emp, .dat chartF, .dat apartF, .dat (eBook bookF), .dat (eWorld aloneW), .dat (eWorld bothW), .emp, .emp, .emp] (.dat (eBook b2)) :=
    (ed_slT (ds := bookF.map eDeed) (ed_var rfl) eo_none (eo_some ed_int)).to (by rw [hb2]; rfl)
  have gv : EvD B 0 (tOp (rCatA B.K) (tTup (tCons (tC (.str "give")) tNil)) (tSl (rSlA B.K) (tOp (rIx B.K) (tVar 6) (tC (.int 2))) (tPart (tC (.int 1))) tNoPart)) [.dat (.list g2), .dat (.list g1), .emp, .emp, .dat chartF, .dat apartF, .dat (eBook bookF), .dat (eWorld aloneW), .dat (eWorld bothW), .emp, .emp, .emp] (.dat (eDeed (.four "give" "ann" "bob" cutW))) := by
    have s1 : EvD B 0 (tSl (rSlA B.K) (tOp (rIx B.K) (tVar 6) (tC (.int 2))) (tPart (tC (.int 1))) tNoPart) [.dat (.list g2), .dat (.list g1), .emp, .emp, .dat chartF, .dat apartF, .dat (eBook bookF), .dat (eWorld aloneW), .dat (eWorld bothW), .emp, .emp, .emp] (.dat (.tuple [.str "ann", .str "bob", eCut cutW])) :=
      (ed_slT (ds := [.str "whole", .str "ann", .str "bob", eCut cutW]) (ed_fin (c1 := 0) (ed_op (ed_var rfl) ed_int (os_ix (.inr rfl) rfl)) rfl rfl) (eo_some ed_int) eo_none).to rfl
    exact ed_fin (ed_op (ed_tup (ds := [.str "give"]) (ea_one ed_str)) s1 (os_catT (Nat.le_of_ble_eq_true rfl))) rfl rfl
  apply p_asgN (s := .dat (.list g2)) h6 u
  case h =>
    refine ed_fin (ed_op (ed_var rfl) (ed_lst (ds := [eBook b1, eBook b2, eBook []]) (ea_cons (c1 := 0) (c2 := 0) (ed_fin (c1 := 0) (ed_op sl2 (ed_tup (ds := [eDeed (.four "give" "ann" "bob" cutW)]) (ea_one gv)) (os_catT (by rw [hb2]; exact Nat.le_of_ble_eq_true rfl))) rfl (by rw [hb2, hb1]; rfl)) (ea_cons (c1 := 0) (c2 := 0) sl2 (ea_one (em _))))) (os_cat ?_)) rfl (by rw [hg2])
    rw [l1]
    exact Nat.le_of_ble_eq_true rfl
  case hc => rfl
  case k =>
  intro σ7 H7 h7
  have h7 : Holds B [.dat (.list g2), .dat (.list g2), .emp, .emp, .dat chartF, .dat apartF, .dat (eBook bookF), .dat (eWorld aloneW), .dat (eWorld bothW), .emp, .emp, .emp] [] (fun _ => True) 0 σ7 H7 := h7
  apply p_asgTupN (ss := [.dat (eCut cutAll), .dat (eCut cutE)]) h7 u
    (h := ea_cons (c1 := 0) (c2 := 0) (ed_fin (ed_tup (ds := [(.tuple [])]) (ea_cons (ed_tup (ds := []) ea_nil) ea_nil)) rfl rfl) (ea_cons (c1 := 0) (c2 := 0) (ed_fin (ed_tup (ds := [(.tuple [(.tuple [.str "e", .bool true])])]) (ea_cons (ed_tup (ds := [(.tuple [.str "e", .bool true])]) (ea_cons (ed_tup (ds := [.str "e", .bool true]) (ea_cons ed_str (ea_cons ed_bl ea_nil))) ea_nil)) ea_nil)) rfl rfl) ea_nil))
    (hc := rfl) (hl := Nat.le_of_ble_eq_true rfl) (hm := rfl) (g := egs_cons (vs := [9, 10]) eg_name (egs_cons eg_name egs_nil))
  intro σ8 H8 h8
  have h8 : Holds B [.dat (.list g2), .dat (.list g2), .emp, .emp, .dat chartF, .dat apartF, .dat (eBook bookF), .dat (eWorld aloneW), .dat (eWorld bothW), .dat (eCut cutAll), .dat (eCut cutE), .emp] [] (fun _ => True) 0 σ8 H8 := h8
  apply p_asgN (s := .dat (eBook [.four "whole" "ann" "bob" cutAll, .four "whole" "ann" "cy" cutE, .four "whole" "cy" "ann" cutE])) h8 u
  case h => exact (ed_fin (ed_tup (ds := [(.tuple [.str "whole", .str "ann", .str "bob", eCut cutAll]), (.tuple [.str "whole", .str "ann", .str "cy", eCut cutE]), (.tuple [.str "whole", .str "cy", .str "ann", eCut cutE])]) (ea_cons (ed_tup (ds := [.str "whole", .str "ann", .str "bob", eCut cutAll]) (ea_cons ed_str (ea_cons ed_str (ea_cons ed_str (ea_cons (ed_var (i := 9) rfl) ea_nil))))) (ea_cons (ed_tup (ds := [.str "whole", .str "ann", .str "cy", eCut cutE]) (ea_cons ed_str (ea_cons ed_str (ea_cons ed_str (ea_cons (ed_var (i := 10) rfl) ea_nil))))) (ea_cons (ed_tup (ds := [.str "whole", .str "cy", .str "ann", eCut cutE]) (ea_cons ed_str (ea_cons ed_str (ea_cons ed_str (ea_cons (ed_var (i := 10) rfl) ea_nil))))) ea_nil)))) rfl rfl)
  case hc => rfl
  case k =>
  intro σ9 H9 h9
  have h9 : Holds B [.dat (.list g2), .dat (.list g2), .dat (eBook [.four "whole" "ann" "bob" cutAll, .four "whole" "ann" "cy" cutE, .four "whole" "cy" "ann" cutE]), .emp, .dat chartF, .dat apartF, .dat (eBook bookF), .dat (eWorld aloneW), .dat (eWorld bothW), .dat (eCut cutAll), .dat (eCut cutE), .emp] [] (fun _ => True) 0 σ9 H9 := h9
  apply p_asgN (s := .dat (eBook moreB)) h9 u
  case h =>
    have t3 : EvD B 0 (tTup (tCons (tTup (tCons (tC (.str "whole")) (tCons (tC (.str "ann")) (tCons (tC (.str "bob")) (tCons (tTup tNil) tNil))))) (tCons (tTup (tCons (tC (.str "charge")) (tCons (tC (.str "ann")) (tCons (tVar 9) tNil)))) (tCons (tTup (tCons (tC (.str "way")) (tCons (tVar 9) (tCons (tVar 9) tNil)))) tNil)))) [.dat (.list g2), .dat (.list g2), .dat (eBook [.four "whole" "ann" "bob" cutAll, .four "whole" "ann" "cy" cutE, .four "whole" "cy" "ann" cutE]), .emp, .dat chartF, .dat apartF, .dat (eBook bookF), .dat (eWorld aloneW), .dat (eWorld bothW), .dat (eCut cutAll), .dat (eCut cutE), .emp]
      (.dat (.tuple ([.four "whole" "ann" "bob" [], .one "charge" "ann" cutAll, .two "way" cutAll cutAll].map eDeed))) := (ed_fin (ed_tup (ds := [(.tuple [.str "whole", .str "ann", .str "bob", (.tuple [])]), (.tuple [.str "charge", .str "ann", eCut cutAll]), (.tuple [.str "way", eCut cutAll, eCut cutAll])]) (ea_cons (ed_tup (ds := [.str "whole", .str "ann", .str "bob", (.tuple [])]) (ea_cons ed_str (ea_cons ed_str (ea_cons ed_str (ea_cons (ed_tup (ds := []) ea_nil) ea_nil))))) (ea_cons (ed_tup (ds := [.str "charge", .str "ann", eCut cutAll]) (ea_cons ed_str (ea_cons ed_str (ea_cons (ed_var (i := 9) rfl) ea_nil)))) (ea_cons (ed_tup (ds := [.str "way", eCut cutAll, eCut cutAll]) (ea_cons ed_str (ea_cons (ed_var (i := 9) rfl) (ea_cons (ed_var (i := 9) rfl) ea_nil)))) ea_nil)))) rfl rfl)
    exact ed_fin (ed_op (ed_var rfl) t3 (os_catT (Nat.le_of_ble_eq_true rfl))) rfl rfl
  case hc => rfl
  case k =>
  intro σ10 H10 h10
  have h10 : Holds B [.dat (.list g2), .dat (.list g2), .dat (eBook moreB), .emp, .dat chartF, .dat apartF, .dat (eBook bookF), .dat (eWorld aloneW), .dat (eWorld bothW), .dat (eCut cutAll), .dat (eCut cutE), .emp] [] (fun _ => True) 0 σ10 H10 := h10
  apply p_asgN (s := .dat (.list ([world1, world2, world3].map eWorld))) h10 u
  case h => exact (ed_fin (ed_lst (ds := [(.tuple [(.tuple [(.tuple [.str "e"]), .int 3, .str "ann"]), (.tuple [(.tuple []), .int 1, .str "bob"])]), (.tuple [(.tuple [(.tuple [.str "e"]), .int 3, .str "ann"]), (.tuple [(.tuple [.str "e"]), .int 3, .str "ann"])]), (.tuple [(.tuple [(.tuple [.str "e"]), .int 1, .str "bob"])])]) (ea_cons (ed_tup (ds := [(.tuple [(.tuple [.str "e"]), .int 3, .str "ann"]), (.tuple [(.tuple []), .int 1, .str "bob"])]) (ea_cons (ed_tup (ds := [(.tuple [.str "e"]), .int 3, .str "ann"]) (ea_cons (ed_tup (ds := [.str "e"]) (ea_cons ed_str ea_nil)) (ea_cons ed_int (ea_cons ed_str ea_nil)))) (ea_cons (ed_tup (ds := [(.tuple []), .int 1, .str "bob"]) (ea_cons (ed_tup (ds := []) ea_nil) (ea_cons ed_int (ea_cons ed_str ea_nil)))) ea_nil))) (ea_cons (ed_tup (ds := [(.tuple [(.tuple [.str "e"]), .int 3, .str "ann"]), (.tuple [(.tuple [.str "e"]), .int 3, .str "ann"])]) (ea_cons (ed_tup (ds := [(.tuple [.str "e"]), .int 3, .str "ann"]) (ea_cons (ed_tup (ds := [.str "e"]) (ea_cons ed_str ea_nil)) (ea_cons ed_int (ea_cons ed_str ea_nil)))) (ea_cons (ed_tup (ds := [(.tuple [.str "e"]), .int 3, .str "ann"]) (ea_cons (ed_tup (ds := [.str "e"]) (ea_cons ed_str ea_nil)) (ea_cons ed_int (ea_cons ed_str ea_nil)))) ea_nil))) (ea_cons (ed_tup (ds := [(.tuple [(.tuple [.str "e"]), .int 1, .str "bob"])]) (ea_cons (ed_tup (ds := [(.tuple [.str "e"]), .int 1, .str "bob"]) (ea_cons (ed_tup (ds := [.str "e"]) (ea_cons ed_str ea_nil)) (ea_cons ed_int (ea_cons ed_str ea_nil)))) ea_nil)) ea_nil)))) rfl rfl)
  case hc => rfl
  case k =>
  intro σ11 H11 h11
  have h11 : Holds B [.dat (.list g2), .dat (.list g2), .dat (eBook moreB), .dat (.list ([world1, world2, world3].map eWorld)), .dat chartF, .dat apartF, .dat (eBook bookF), .dat (eWorld aloneW), .dat (eWorld bothW), .dat (eCut cutAll), .dat (eCut cutE), .emp] [] (fun _ => True) 0 σ11 H11 := h11
  have okW : ∀ x ∈ [world1, world2, world3], (WH.mk x moreB).Ok := fun x hx => by
    refine okMore.of ?_ ?_
    · revert x
      decide +kernel
    · revert x
      decide +kernel
  have l2 : g2.length = 11 := by rw [hg2, List.length_append, l1]; rfl
  have wf : [world1, world2, world3].map (fun x => (playM x moreB).1) = [[1, 2, 3], [0, 3], [3]] := by decide +kernel
  have wo : [world1, world2, world3].map (fun x => (playM x moreB).2) = ([["ann", "bob"], ["bob", "bob"], ["bob"]] : List (List Str)) := by decide +kernel
  obtain ⟨x1, hx1⟩ : ∃ x1 : PyData, x1 = .list ([[1, 2, 3], [0, 3], [3]].map eNats) := ⟨_, rfl⟩
  obtain ⟨x2, hx2⟩ : ∃ x2 : PyData, x2 = .list (([["ann", "bob"], ["bob", "bob"], ["bob"]] : List (List Str)).map eNames) := ⟨_, rfl⟩
  apply p_asgN (s := .dat (.list (g2 ++ [x1, x2]))) h11 u
  case h =>
    have c1 : EvD B 0 (tLc (iSeq B.K (tVar 3)) (gName 11) tYes (tCall (sp_let_wholes B.K) [] E0 (tCons (tVar 11) (tCons (tVar 2) tNil))) [11]) [.dat (.list g2), .dat (.list g2), .dat (eBook moreB), .dat (.list ([world1, world2, world3].map eWorld)), .dat chartF, .dat apartF, .dat (eBook bookF), .dat (eWorld aloneW), .dat (eWorld bothW), .dat (eCut cutAll), .dat (eCut cutE), .emp] (.dat x1) :=
      ed_fin (ed_lc1 [world1, world2, world3] eWorld (fun x => [.dat (.list g2), .dat (.list g2), .dat (eBook moreB), .dat (.list ([world1, world2, world3].map eWorld)), .dat chartF, .dat apartF, .dat (eBook bookF), .dat (eWorld aloneW), .dat (eWorld bothW), .dat (eCut cutAll), .dat (eCut cutE), .dat (eWorld x)]) (fun x => eNats (playM x moreB).1) (ew_seq (ed_var rfl) (.inl rfl)) (fun _ _ => eg_name) (fun _ _ => et_yes)
        (fun x hx => letE (okW x hx) rfl (ed_var rfl) (ed_var rfl)) (by decide)) rfl (by rw [hx1, ← wf, List.map_map]; rfl)
    have c2 : EvD B 0 (tLc (iSeq B.K (tVar 3)) (gName 11) tYes (tCall (sp_owners_in B.K) [] E0 (tCons (tVar 11) (tCons (tVar 2) tNil))) [11]) [.dat (.list g2), .dat (.list g2), .dat (eBook moreB), .dat (.list ([world1, world2, world3].map eWorld)), .dat chartF, .dat apartF, .dat (eBook bookF), .dat (eWorld aloneW), .dat (eWorld bothW), .dat (eCut cutAll), .dat (eCut cutE), .emp] (.dat x2) :=
      ed_fin (ed_lc1 [world1, world2, world3] eWorld (fun x => [.dat (.list g2), .dat (.list g2), .dat (eBook moreB), .dat (.list ([world1, world2, world3].map eWorld)), .dat chartF, .dat apartF, .dat (eBook bookF), .dat (eWorld aloneW), .dat (eWorld bothW), .dat (eCut cutAll), .dat (eCut cutE), .dat (eWorld x)]) (fun x => eNames (playM x moreB).2) (ew_seq (ed_var rfl) (.inl rfl)) (fun _ _ => eg_name) (fun _ _ => et_yes)
        (fun x hx => ownE (okW x hx) rfl (ed_var rfl) (ed_var rfl)) (by decide)) rfl (by rw [hx2, ← wo, List.map_map]; rfl)
    refine ed_fin (ed_op (ed_var rfl) (ed_lst (ds := [x1, x2]) (ea_cons (c1 := 0) (c2 := 0) c1 (ea_one c2))) (os_cat ?_)) rfl rfl
    rw [l2]
    exact Nat.le_of_ble_eq_true rfl
  case hc => rfl
  case k =>
  intro σ12 H12 h12
  obtain ⟨g3, hg3⟩ : ∃ g3, g3 = g2 ++ [x1, x2] := ⟨_, rfl⟩
  rw [← hg3] at h12
  have h12 : Holds B [.dat (.list g3), .dat (.list g2), .dat (eBook moreB), .dat (.list ([world1, world2, world3].map eWorld)), .dat chartF, .dat apartF, .dat (eBook bookF), .dat (eWorld aloneW), .dat (eWorld bothW), .dat (eCut cutAll), .dat (eCut cutE), .emp] [] (fun _ => True) 0 σ12 H12 := h12
  apply p_asgN (s := .dat (.list g3)) h12 u
  case h =>
    have lit2 : EvD B 0 (tLst (tCons (tLst (tCons (tTup (tCons (tC (.int 1)) (tCons (tC (.int 2)) (tCons (tC (.int 3)) tNil)))) (tCons (tTup (tCons (tC (.int 0)) (tCons (tC (.int 3)) tNil))) (tCons (tTup (tCons (tC (.int 3)) tNil)) tNil)))) (tCons (tLst (tCons (tTup (tCons (tC (.str "ann")) (tCons (tC (.str "bob")) tNil))) (tCons (tTup (tCons (tC (.str "bob")) (tCons (tC (.str "bob")) tNil))) (tCons (tTup (tCons (tC (.str "bob")) tNil)) tNil)))) tNil))) [.dat (.list g3), .dat (.list g2), .dat (eBook moreB), .dat (.list ([world1, world2, world3].map eWorld)), .dat chartF, .dat apartF, .dat (eBook bookF), .dat (eWorld aloneW), .dat (eWorld bothW), .dat (eCut cutAll), .dat (eCut cutE), .emp] (.dat (.list [x1, x2])) :=
      ((ed_fin (ed_lst (ds := [(.list [(.tuple [.int 1, .int 2, .int 3]), (.tuple [.int 0, .int 3]), (.tuple [.int 3])]), (.list [(.tuple [.str "ann", .str "bob"]), (.tuple [.str "bob", .str "bob"]), (.tuple [.str "bob"])])]) (ea_cons (ed_lst (ds := [(.tuple [.int 1, .int 2, .int 3]), (.tuple [.int 0, .int 3]), (.tuple [.int 3])]) (ea_cons (ed_tup (ds := [.int 1, .int 2, .int 3]) (ea_cons ed_int (ea_cons ed_int (ea_cons ed_int ea_nil)))) (ea_cons (ed_tup (ds := [.int 0, .int 3]) (ea_cons ed_int (ea_cons ed_int ea_nil))) (ea_cons (ed_tup (ds := [.int 3]) (ea_cons ed_int ea_nil)) ea_nil)))) (ea_cons (ed_lst (ds := [(.tuple [.str "ann", .str "bob"]), (.tuple [.str "bob", .str "bob"]), (.tuple [.str "bob"])]) (ea_cons (ed_tup (ds := [.str "ann", .str "bob"]) (ea_cons ed_str (ea_cons ed_str ea_nil))) (ea_cons (ed_tup (ds := [.str "bob", .str "bob"]) (ea_cons ed_str (ea_cons ed_str ea_nil))) (ea_cons (ed_tup (ds := [.str "bob"]) (ea_cons ed_str ea_nil)) ea_nil)))) ea_nil))) rfl rfl) : EvD B 0 _ _ (.dat (.list [.list ([[1, 2, 3], [0, 3], [3]].map eNats), .list (([["ann", "bob"], ["bob", "bob"], ["bob"]] : List (List Str)).map eNames)]))).to (by rw [hx1, hx2])
    refine ed_fin (ed_op (ed_var rfl) lit2 (os_cat ?_)) rfl (by rw [hg3])
    rw [l2]
    exact Nat.le_of_ble_eq_true rfl
  case hc => rfl
  case k =>
  intro σ13 H13 h13
  have h13 : Holds B [.dat (.list g3), .dat (.list g3), .dat (eBook moreB), .dat (.list ([world1, world2, world3].map eWorld)), .dat chartF, .dat apartF, .dat (eBook bookF), .dat (eWorld aloneW), .dat (eWorld bothW), .dat (eCut cutAll), .dat (eCut cutE), .emp] [] (fun _ => True) 0 σ13 H13 := h13
  have okG : okD dep (.list g3) = true := by
    rw [hg3, hg2, hg1, hx1, hx2, hb1, hb2]
    kernel_rfl
  apply p_ret (s := .dat (.bool (true && true))) h13 u
  case h =>
    exact ed_andV (c1 := 0) (c2 := 0) (ed_fin (ed_call (f := fun _ => .bool true) (.list g3) (ea_cons (c1 := 0) (c2 := 0) (ed_var rfl) (ea_one (ed_var rfl))) okG) rfl rfl) fun _ => er_fin (c1 := 0) (er_call (E := E0) (enc := fun _ : Unit => [eBook bookF, eBook moreB, .list [eWorld world1, eWorld world2, eWorld world3]]) (ok := fun _ => True) (res := fun _ d => d = .bool true) () (ea_cons (c1 := 0) (c2 := 0) (ed_var rfl) (ea_cons (c1 := 0) (c2 := 0) (ed_var rfl) (ea_one (ed_var rfl)))) trivial) rfl fun s ⟨d, e1, e2⟩ => by rw [e2, e1]
  case hc => rfl
  case k => exact fun v H' h => q v _ H' _ _ _ _ σ13 rfl h
end
end K30
set_option Elab.async false
set_option linter.all false
set_option maxRecDepth 100000
set_option maxHeartbeats 2000000
/-! NoDeed(place): super().__init__(place), then the field. -/
namespace K30
open PySem PySem.Spec PyProof.Rows L2 PySem.W PySem.Calls PySem.HandSPX PySem.Builtin PySem.Builtin.ObjectAttr
/-- NoDeed's __init__, where the text holds it -/
def ndI : Stmt := match top 1 with
  | .ClassDef _ _ _ (f :: _) _ _ _ _ _ _ _ => f
  | f => f
def ndA : Arguments := defArgs ndI
def ndB : List Stmt := defBody ndI
def ndS : Scope := defScope ndI
abbrev leTail : List Value := [.type "LookupError", .type "Exception", .type "BaseException", .type "object"]
/-- what the written part says of the class, at C, and of its __init__, at fI -/
structure NDTxt (prog : Program) (K : Frag) (mg : Str → Option Value) (C fI : Addr) : Prop where
  gC : mg "NoDeed" = some (.ref C)
  noS : mg "super" = none
  cls : ∃ nm q N bs sn sub ab col dd k0 k1 k2 k3 k5, K.lookup C = some (excClassObj nm q C N bs leTail true sn sub ab col dd k0 k1 k2 k3 k5 "LookupError.__new__")
  sa : findIn K (.ref C) "__setattr__" = some (some (.builtin "object.__setattr__"))
  ga : findIn K (.ref C) "__getattribute__" = some (some (.builtin "BaseException.__getattribute__"))
  gg : findIn K (.ref C) "__getattr__" = some none
  noN : findIn K (.ref C) "place" = some none
  iC : findIn K (.ref C) "__init__" = some (some (.ref fI))
  tC : typeIn K (.ref fI) = some (.type "function")
  kC : keepIn K (.ref C) = true
  exC : subIn K (.ref C) (.type "BaseException") = some true
  leC : subIn K (.ref C) (.type "LookupError") = some true
  tyC : typeIn K (.ref C) = some (.type "type")
  hdC : hasDictIn K C = true
  te : exmOne K (.ref C) (.ref C) = some true
  op : nsIn K cStatics "thirdparty.any" = some none
  al : alongIn K "__init__" leTail = some (some (.builtin "LookupError.__init__"))
  top : (prog.main.scope.names.lookup ("super" : Str)).isSome = false
  fn : ∃ (oc : Value) (od : Option Addr) (doc pm : Value) (an : Option Addr) (cda cc : Addr) (ct : Value) (osl : Array (Option Value)) (ccl : Value) (cdd : Option Addr) (vs : Array Value) (ccs : Array (Option Value)) (file : Str) (tf : Tok) (cl : Value) (cld : Option Addr) (csl : Array (Option Value)),
    K.lookup fI = some ⟨oc, od, .func (ksFn "__init__" "NoDeed.__init__" ndA ndB ndS .none .none doc pm an (.ref cda) ct cc), osl⟩ ∧ codeIn K (.ref cda) "NoDeed.__init__" = true ∧
    K.lookup cda = some ⟨ccl, cdd, .fields vs, ccs⟩ ∧ vs[2]? = some (.str file tf) ∧ ((prog.main.file : Str) == file) = true ∧ K.lookup cc = some ⟨cl, cld, .cell (some (.ref C)), csl⟩
structure NdEnd (h h' : Heap) (x C dx : Addr) (v : Value) : Prop where
  keep : ∀ b o, b ≠ x → h.get? b = some o → h'.get? b = some o
  obj : ∃ t1, h'.get? x = some { cls := .ref C, dict := some dx, data := .fields #[.ref t1, .none, .none, .none, .bool false, .none] }
  big : h.objs.size ≤ dx
  ne : dx ≠ x
  ns : h'.Ns1 dx (fun y => if y = "place" then some v else none)
section
variable {prog : Program} {w : World} {A : Around} {E : Value → Shared → Prop} {hp : Heap} {g : Array GenState} {d : Drawn} {t : Nat} {os : OsState}
/-- self.name = v on a LookupError without a dict -/
theorem setL {R : Result → Shared → Prop} {K : Frag} {name : Str} {tk : Tok} {v : Value} {x C : Addr} {fv : Array Value} {cd : ClassData} (X : K.In hp) (hx : hp.get? x = some { cls := .ref C, data := .fields fv }) (hcd : clsIn K C = some cd) (hm : cd.mro = .ref C :: leTail) (hh : cd.hasDict = true) (ha : findIn K (.ref C) name = some none)
    (hq : ∀ h' tk' dx, (∀ b o, b ≠ x → hp.get? b = some o → h'.get? b = some o) → hp.objs.size ≤ dx → dx ≠ x → h'.get? x = some { cls := .ref C, dict := some dx, data := .fields fv } → h'.Ns1 dx (fun y => if y = name then some v else none) → R (.ok (.ret .none)) ⟨h', g, d, tk', os⟩) :
    codeAny (model prog w) A (.call (.builtin "object.__setattr__") ⟨[.ref x, .str name tk, v], []⟩) R ⟨hp, g, d, t, os⟩ := by
  have I : InstAt hp x { cls := .ref C, data := .fields fv } C none := ⟨hx, rfl, rfl, trivial⟩
  have SF := PySem.F.store_object
  have hob : (Value.ref C :: leTail).contains (.type "object") = true := by rw [List.contains_cons, show leTail.contains (Value.type "object") = true by decide +kernel, Bool.or_true]
  have hmr : mroIn K C (.type "object") = some true := by
    unfold mroIn
    rw [hcd, Option.bind_some, hm, if_neg (show ¬ (List.isEmpty (Value.ref C :: leTail) = true) from Bool.false_ne_true), hob]
  have sub : Looks (model prog w) hp (isInstance (.ref x) (.type "object")) true := I.type.andThen (looks_mroIn X hmr)
  refine codeAny_call_builtin SF.slot.plain SF.entry (@check_slot (model prog w) _ _ ⟨hp, g, d, t, os⟩ "object.__setattr__" "object" "__setattr__" (.ref x) [.str name tk, v] [] _ SF.kind SF.split sub (SF.args (.ref x) (.str name tk) v) ?_)
  have lm : Looks (model prog w) hp (mroOf (.ref C)) cd.mro := (looks_clsIn X hcd).andThen .now
  have lt : Looks (model prog w) hp (storeTaker? none) none := .now
  have pass : refuseLoop (.ref x) "__setattr__" cd.mro = pure () := by
    rw [hm, refuseLoop_ref]
    exact PySem.F.store_LookupError.passes _
  rw [osa_eq, refuse_eq]
  refine wpAny_bind (wpAny_bind (I.type.at (wpAny_bind (lm.at ?_))))
  rw [pass]
  refine wpAny_pure (wpAny_bind (I.type.at (wpAny_bind ((looks_findIn X ha).at (wpAny_bind (lt.at ?_))))))
  have hxs : x ≠ hp.objs.size := Nat.ne_of_lt (Heap.lt_size hx)
  have hcls : Looks (model prog w) hp (classData C) cd := looks_clsIn X hcd
  obtain ⟨nm, bs, mro, ns, qn, hd, sn, sb, ab, col, del⟩ := cd
  dsimp only at hh
  subst hh
  unfold Builtin.ObjectAttr.storeInOwnDict Builtin.ObjectAttr.ownDictForStores
  repeat (first | with_reducible refine HandSPX.store_in_new ?_ ?_ | with_reducible refine wpAny_loadPart_at hx ?_ | with_reducible refine hcls.at ?_ | wp_step)
  · exact ⟨_, #[], _, (Heap.get?_update_ne _ _ _ _ hxs.symm).trans (Heap.get?_push_at rfl rfl), rfl, fun e he => absurd he (by simp), fun _ => rfl⟩
  · intro h' tk' hn' hs
    have hx2 : (hp.push { cls := .type "dict", data := .dict #[] }).get? x = some { cls := .ref C, data := .fields fv } := Heap.get?_push_of_some _ hx
    refine hq h' tk' hp.objs.size (fun b o hb ho => ?_) (Nat.le_refl _) hxs.symm ?_ hn'
    · exact (hs.2 b (Nat.ne_of_lt (Heap.lt_size ho))).trans ((Heap.get?_update_ne _ _ _ _ hb).trans (Heap.get?_push_of_some _ ho))
    · exact (hs.2 x hxs).trans (Heap.get?_update_self _ hx2 rfl)
/-- the bound LookupError.__init__ called -/
theorem callL {nm q : Str} {C N : Addr} {bs bm : List Value} {hdct : Bool} {sn : List Str} {sub : List Value} {ab : Bool} {col : Option Bool} {dd : Option Addr} {k0 k1 k2 k3 k5 : Option Value} {u e t0 : Addr} {rest : List Value} {Q : Value → Shared → Prop}
    (hC : hp.get? C = some (excClassObj nm q C N bs bm hdct sn sub ab col dd k0 k1 k2 k3 k5 "LookupError.__new__")) (he : hp.get? e = some (excO C t0)) (hu : hp.get? u = some (kxs_mw "LookupError.__init__" e)) (hrest : rest.length ≤ sizeLine)
    (hq : ∀ h' t1, (∀ b o, b ≠ e → hp.get? b = some o → h'.get? b = some o) → h'.get? e = some (excO C t1) → Q .none ⟨h', g, d, t, os⟩) : wpAny (model prog w) A (call (.ref u) rest) Q E ⟨hp, g, d, t, os⟩ := by
  refine wpAny_call (codeAny_of_tree ?_)
  show wpAny _ A.in1 (callAny (.ref u) ⟨rest, []⟩) _ _ _
  simp only [callAny]
  refine wpAny_bind (wpAny_load hu ?_)
  simp only [kxs_mw, show (Value.type "method-wrapper" == Value.type "method" || Value.type "method-wrapper" == Value.type "builtin_function_or_method" || Value.type "method-wrapper" == Value.type "method-wrapper") = true by decide, if_true]
  refine KFB.if_so (by decide) (wpAny_bind (check_bound_init PySem.F.excBase_LookupError.toExcCallFacts hC he rfl (wpAny_bind (wpAny_pure (wpAny_pure ?_)))))
  refine ⟨Code.quiet_builtin _ (by decide +kernel), codeAny_builtin PySem.F.excBase_LookupError.initEntry ?_⟩
  rw [Around.under_plainId PySem.F.excBase_LookupError.init.plain _]
  wp_walk
  refine hq _ hp.objs.size (fun b o hb ho => ?_) ?_
  · rw [Heap.get?_update_other _ _ (Ne.symm hb)]
    exact Heap.get?_push_of_some _ ho
  · rw [Heap.get?_update_self _ (Heap.get?_push_of_some _ he) rfl]
    rfl
end
end K30
set_option Elab.async false
set_option linter.all false
set_option maxRecDepth 100000
set_option maxHeartbeats 200000
namespace K30
open PySem PySem.Spec PyProof.Rows L2 PySem.W PySem.Calls PySem.HandSPX PySem.Builtin PySem.Builtin.ObjectAttr
section
variable {prog : Program} {w : World} {A : Around} {E : Value → Shared → Prop} {R : Result → Shared → Prop} {s : Shared} {K : Frag} {mg mb : Str → Option Value} {C fI : Addr}
theorem nd_init (T : NDTxt prog K mg C fI) {x t0 : Addr} {v : Value} (X : K.In s.heap) (G : s.heap.Ns mainGlobals mg) (Gb : s.heap.Ns builtinsNs mb) (hb : mb "super" = some (.type "super")) (hlim : s.heap.NoLimit) (hx : s.heap.get? x = some (excO C t0)) (hxn : K.lookup x = none) (hroom : A.depth < recursionLimit)
    (hq : ∀ h' tk dx, NdEnd s.heap h' x C dx v → R (.ok (.ret .none)) { s with heap := h', toks := tk }) : codeAny (model prog w) A (.call (.ref fI) ⟨[.ref x, v], []⟩) R s := by
  obtain ⟨oc, od, doc, pm, an, cda, cc, ct, osl, ccl, cdd, vs, ccs, file, tf, cl, cld, csl, ho, hcd, hco, hvs, hfile, hcell⟩ := T.fn
  obtain ⟨nm, q, N, bs, sn, sub, ab, col, dd, k0, k1, k2, k3, k5, hC⟩ := T.cls
  have hcl : clsIn K C = some { name := nm, bases := bs, mro := .ref C :: leTail, ns := N, qualname := q, hasDict := true, slotNames := sn, subclasses := sub, abstract := ab, collection := col, hasDel := false } := by
    unfold clsIn
    rw [hC] <;> rfl
  refine ks_codeAny_call_defAt (fd := ksFn "__init__" "NoDeed.__init__" ndA ndB ndS .none .none doc pm an (.ref cda) ct cc) (body := ndB) (binds := [("self", .ref x), ("place", v)]) hroom (X _ _ ho) rfl hlim (codeRec_of X hcd) rfl (BindsTo.of_eq (by first | rfl | with_unfolding_all rfl)) (show ∀ x ∈ ndS.names, x.2 ≠ .cell from by decide) (locs rfl) (fun h1 hn keep => ?_)
  have X1 : K.In h1 := X.keeps keep
  have hx1 := keep _ _ hx
  have xL : x ≠ s.heap.objs.size := Nat.ne_of_lt (Heap.lt_size hx)
  have lt1 : s.heap.objs.size < h1.objs.size := hn.lt
  have envE : callEnv (ksFn "__init__" "NoDeed.__init__" ndA ndB ndS .none .none doc pm an (.ref cda) ct cc) s.heap.objs.size fI = ksEnv "NoDeed.__init__" ndS s.heap.objs.size fI (.ref cda) cc := rfl
  rw [envE]
  clear envE
  unfold ndB
  refine ks_wpAt_execs_cons ?_
  refine ks_wpAt_Expr_any ?_
  refine ks_wpAt_MethodCall ?_
  have self : ∀ h : Heap, h.Ns s.heap.objs.size (fun y => ([("self", Value.ref x), ("place", v)] : List (Str × Value)).reverse.lookup y) → True := fun _ _ => trivial
  refine ks_wpAt_super_base (env := ksEnv "NoDeed.__init__" ndS s.heap.objs.size fI (.ref cda) cc) rfl rfl rfl rfl (X1 _ _ ho) rfl rfl rfl (X1 _ _ hco) rfl hvs hfile T.top ?_
  refine ks_loadName_global rfl rfl (loadGlobal_builtin (env := ksEnv "NoDeed.__init__" ndS s.heap.objs.size fI (.ref cda) cc) (G.keeps keep) T.noS (Gb.keeps keep) hb ⟨rfl, ?_⟩)
  refine wpAny_loadName_free rfl rfl rfl ⟨_, X1 _ _ hcell, rfl⟩ ?_
  refine wpAny_loadName_local rfl rfl hn (show ([("self", Value.ref x), ("place", v)] : List (Str × Value)).reverse.lookup ("self" : Str) = some (Value.ref x) from rfl) ?_
  obtain ⟨oD, hD1, hD2⟩ : ∃ oD, h1.get? C = some oD ∧ oD.data = .cls { name := nm, bases := bs, mro := .ref C :: leTail, ns := N, qualname := q, hasDict := true, slotNames := sn, subclasses := sub, abstract := ab, collection := col, hasDel := false } := ⟨_, X1 _ _ hC, rfl⟩
  refine ks_wpAny_isType_cls hD1 hD2 ⟨rfl, ?_⟩
  have self_sub : mroIn K C (.ref C) = some true := by
    unfold mroIn
    rw [hcl, Option.bind_some, if_neg (show ¬ (List.isEmpty (Value.ref C :: leTail) = true) from Bool.false_ne_true), List.contains_cons, beq_self_eq_true, Bool.true_or]
  refine ks_wpAny_call_super hD1 hD2 hx1 rfl (fun c e => by cases e) (looks_mroIn X1 self_sub) (fun h2 hso k2 => ?_)
  have X2 : K.In h2 := X1.keeps k2
  have hx2 := k2 _ _ hx1
  have I2 : InstAt h2 x (excO C t0) C none := ⟨hx2, rfl, rfl, trivial⟩
  refine kxs_getMethod kxs_LookupError hso (looks_opaque X2 T.op) (l₀ := .ref C :: leTail) (fun A Q E s k q => wpAny_bind ((looks_clsIn X2 hcl) A _ E s k (wpAny_pure q))) (l := leTail) (by simp [List.dropWhile_cons]) X2 T.al (I2.type.andThen (looks_subIn X2 T.leC)) (ks_ne X2 I2 hcl) rfl ?_
  have hu : (h2.push (kxs_mw "LookupError.__init__" x)).get? h2.objs.size = some (kxs_mw "LookupError.__init__" x) := Heap.get?_push_size _ rfl
  have k3 : ∀ b o, h2.get? b = some o → (h2.push (kxs_mw "LookupError.__init__" x)).get? b = some o := fun b o e => Heap.get?_push_of_some _ e
  have n3 : (h2.push (kxs_mw "LookupError.__init__" x)).Ns s.heap.objs.size (fun y => ([("self", Value.ref x), ("place", v)] : List (Str × Value)).reverse.lookup y) := (hn.keeps k2).keeps k3
  refine kxs_callWith (i := "LookupError.__init__") (x := x) rfl (evalArgs_plain ?_)
  refine PyProof.Rows.args_cons (ESX.ldL n3 (v := v) rfl (PyProof.Rows.args_nil ⟨hu, ?_⟩)) rfl
  refine callL (k3 _ _ (X2 _ _ hC)) (k3 _ _ hx2) hu (by rw [sizeLine_eq]; exact (by decide : 1 ≤ 16777216)) fun h4 t1 k4 hx4 => ?_
  have n4 : h4.Ns s.heap.objs.size (fun y => ([("self", Value.ref x), ("place", v)] : List (Str × Value)).reverse.lookup y) := by
    obtain ⟨oL, es, ep, hL, r⟩ := n3
    exact ⟨oL, es, ep, k4 _ _ (Ne.symm xL) hL, r⟩
  have hnx : K.lookup x = none := hxn
  have X4 : K.In h4 := fun a o e => k4 a o (fun z => by rw [z, hnx] at e; cases e) (X2.keeps k3 _ _ e)
  refine ks_wpAt_execs_cons ?_
  refine ks_wpAt_Assign_Attr ?_
  refine wpAt_of_wpAny (ESX.ldL (env := ksEnv "NoDeed.__init__" ndS s.heap.objs.size fI (.ref cda) cc) n4 (v := v) rfl (ESX.ldL (env := ksEnv "NoDeed.__init__" ndS s.heap.objs.size fI (.ref cda) cc) n4 (v := .ref x) rfl ?_))
  refine set_plain X4 (ox := excO C t1) (od := none) ⟨hx4, rfl, rfl, trivial⟩ T.sa ?_
  refine setL X4 hx4 hcl rfl rfl T.noN fun h5 tk5 dx k5 big ne hx5 hn5 => ?_
  refine wpAt_of_wpAny (wpAny_execs_nil (hq h5 _ dx ⟨fun b o hb e => k5 b o hb (k4 b o hb (k3 _ _ (k2 _ _ (keep _ _ e)))), ⟨t1, hx5⟩, ?_, ne, hn5⟩))
  have z1 : s.heap.objs.size ≤ h1.objs.size := Nat.le_of_lt lt1
  have z2 : s.heap.objs.size < h4.objs.size := n4.lt
  exact Nat.le_of_lt (Nat.lt_of_lt_of_le z2 big)
end
end K30
set_option Elab.async false
set_option linter.all false
set_option maxRecDepth 100000
set_option maxHeartbeats 1000000
namespace K30
open PySem PySem.Spec PyProof.Rows L2 PySem.W PySem.Calls PySem.HandSPX
/-- a NoDeed that was made -/
structure NdMade (h h' : Heap) (e C d : Addr) (v : Value) : Prop where
  keep : ∀ b o, h.get? b = some o → h'.get? b = some o
  new : h.objs.size ≤ e
  obj : ∃ oe vs, h'.get? e = some oe ∧ oe.cls = .ref C ∧ oe.dict = some d ∧ oe.data = .fields vs ∧ vs[1]? = some .none
  dbig : h.objs.size ≤ d
  dne : d ≠ e
  ns : h'.Ns1 d (fun y => if y = "place" then some v else none)
section
variable {prog : Program} {w : World} {A : Around} {E : Value → Shared → Prop} {R : Result → Shared → Prop} {s : Shared} {K : Frag} {mg mb : Str → Option Value} {C fI : Addr}
theorem nd_made (T : NDTxt prog K mg C fI) {v : Value} (X : K.In s.heap) (G : s.heap.Ns mainGlobals mg) (Gb : s.heap.Ns builtinsNs mb) (hb : mb "super" = some (.type "super")) (hlim : s.heap.NoLimit) (hroom : A.depth + 1 < recursionLimit)
    (hq : ∀ h' tk e d, NdMade s.heap h' e C d v → R (.ok (.ret (.ref e))) { s with heap := h', toks := tk }) : codeAny (model prog w) A (.call (.ref C) ⟨[v], []⟩) R s := by
  obtain ⟨nm, q, N, bs, sn, sub, ab, col, dd, k0, k1, k2, k3, k5, hC⟩ := T.cls
  obtain ⟨hp, g, dr, tk, os⟩ := s
  have k : ∀ b o, hp.get? b = some o → ((hp.push (kdv_tup [v])).push (excO C hp.objs.size)).get? b = some o := fun b o e => Heap.get?_push_of_some _ (Heap.get?_push_of_some _ e)
  have hget : ((hp.push (kdv_tup [v])).push (excO C hp.objs.size)).get? (hp.objs.size + 1) = some (excO C hp.objs.size) := by heap_get
  have hnx : K.lookup (hp.objs.size + 1) = none := by
    cases e : K.lookup (hp.objs.size + 1) with
    | none => rfl
    | some o =>
      have z : hp.get? (hp.objs.size + 1) = some o := X _ _ e
      exact absurd (Nat.lt_of_succ_lt (Heap.lt_size z)) (Nat.lt_irrefl _)
  refine call_own F.excBase_LookupError (fun _ => rfl) (X _ _ hC) (looks_findIn X T.iC) (fun self => bind_fn X self T.tC) (by rw [sizeLine_eq]; exact (by decide : 1 ≤ 16777216)) ?_
  refine nd_init (s := ⟨(hp.push (kdv_tup [v])).push (excO C hp.objs.size), g, dr, tk, os⟩) T (X.keeps k) (G.keeps k) (Gb.keeps k) hb (hlim.keeps k) hget hnx ?_ fun h' tk' dx M => ?_
  · show A.depth + 1 < recursionLimit
    exact hroom
  · obtain ⟨t1, hx⟩ := M.obj
    have old : ∀ b o, hp.get? b = some o → h'.get? b = some o := fun b o e => M.keep b o (Nat.ne_of_lt (Nat.lt_succ_of_lt (Heap.lt_size e))) (k b o e)
    have z : hp.objs.size + 1 + 1 ≤ dx := by
      have dn := M.big
      first
        | (simpa only [Heap.size_push] using dn)
        | exact dn
        | (have q := dn; rw [Heap.size_push, Heap.size_push] at q; exact q)
    exact ⟨rfl, hq h' tk' (hp.objs.size + 1) dx ⟨old, Nat.le_succ _, ⟨_, _, hx, rfl, rfl, rfl, rfl⟩, Nat.le_trans (Nat.le_trans (Nat.le_succ _) (Nat.le_succ _)) z, M.ne, M.ns⟩⟩
end
theorem relO_place {v : V} {v' : Value} (r : RelV v v') (f : Str) : RelO (List.lookup f [(("place" : Str), v)]) (if f = "place" then some v' else none) := by
  by_cases hw : f = "place"
  · subst hw
    rw [if_pos rfl]
    have q : List.lookup ("place" : Str) [(("place" : Str), v)] = some v := by simp [List.lookup]
    rw [q]
    exact r
  · rw [if_neg hw]
    have qw : (f == ("place" : Str)) = false := by simpa using hw
    have q2 : List.lookup f [(("place" : Str), v)] = none := by simp [List.lookup, qw]
    rw [q2]
    trivial
section
variable {X : Cx} {C fI : Addr}
/-- NoDeed(e) -/
def tMkND (C : Addr) (ta : TA) : L2.St → Hp → XK → Prop := fun σ H Q => ta σ H fun vs H1 => ∃ v, vs = [v] ∧ ∀ d, H1 d = none → Q (.ref C) (some d) (upd H1 d (.xd [(("place" : Str), v)]))
theorem pmk_nd {a : Expr} {ta : TA} {p pos : Pos} {k : Nat} (T : NDTxt X.prog X.K X.mg C fI) (hr : Room k X.A) (ha : PA X [a] ta) (hg : Gl X "NoDeed" := by rfl)
    (he : starEach (a :: []) X.env = (false, eval a X.env) :: starEach [] X.env := by rfl) (hpl : (backTo pos (starEach [] X.env)).any (·.1) = false := by rfl) :
    PMk X (.Call (.Name "NoDeed" p) [a] [] pos) (tMkND C ta) := by
  intro pins s σ H Q I h
  refine wpAny_Call_Name_kw (ld_glob I hg T.gC ?_)
  refine PySem.W.callWith_K (h₀ := X.base) I.ok.mod.kin T.kC (thn (ha.run pos pins s σ H _ I h) fun us s1 hh => ?_) he hpl
  obtain ⟨vs, H1, I1, r1, v, ev, q1⟩ := hh
  subst ev
  refine ⟨I1.kIn, ?_⟩
  cases r1 with
  | cons rv rn =>
    rename_i v' us'
    cases rn
    show wpAny _ _ (call (.ref C) [v']) _ _ _
    have hlim := I1.nolimit
    obtain ⟨mb, b1, b2⟩ := I1.mod.blt
    have Gb := b1.keeps I1.bk
    have G := I1.mod.glob.keeps I1.bk
    have XK := I1.kIn
    obtain ⟨hp, g, dr, tk, os⟩ := s1
    refine wpAny_call (nd_made T XK G Gb ((b2 _ (by decide)).trans (by decide +kernel)) hlim (by have := hr.dp; omega) fun h' tk' e d M => ?_)
    show MkP X pins σ Q (.ref e) ⟨h', g, dr, tk', os⟩
    obtain ⟨oe, fv, hoe, hc, hd, hdat, h1⟩ := M.obj
    have hns := M.ns
    obtain ⟨G', g1, g2⟩ := restrict h' fun b => decide (b ≠ e)
    have gk : ∀ b, b ≠ e → G'.get? b = h'.get? b := fun b hb => g1 b (decide_eq_true hb)
    have ge : G'.get? e = none := g2 e (by simp)
    have old : ∀ b o, hp.get? b = some o → G'.get? b = some o := fun b o q => (gk b (Nat.ne_of_lt (Nat.lt_of_lt_of_le (Heap.lt_size q) M.new))).trans (M.keep b o q)
    have ob : ObjOk X.prog X.w (upd H1 d (.xd [(("place" : Str), v)])) G' d (.xd [(("place" : Str), v)]) :=
      ⟨_, hns.at (fun o q => (gk d M.dne).trans q), fun f => relO_place rv f⟩
    have J : Inv X pins σ (upd H1 d (.xd [(("place" : Str), v)])) ⟨G', g, dr, tk', os⟩ := I1.laid (t' := tk') old M.dbig ob
    refine ⟨e, oe, fv, ⟨G', g, dr, tk', os⟩, _, .ref C, some d, rfl, J, fun b o q => ?_, ge, hoe, ⟨hc, hd⟩, hdat, h1, ?_, rfl, I1.bare, raises_own T.exC T.tyC, q1 d (I1.hok.fresh M.dbig)⟩
    · by_cases hb : b = e
      · have q' : G'.get? b = some o := q
        rw [hb, ge] at q'; cases q'
      · exact (gk b hb).symm.trans q
    · rw [upd_ne (Ne.symm M.dne)]
      exact I1.hok.fresh M.new
/-- raise NoDeed(e) -/
def tRaiseND (C : Addr) (W : WX) (ta : TA) : TS := fun _ σ H => tMkND C ta σ H fun cls d H' => W cls d σ H'
theorem ps_raiseND {a : Expr} {ta : TA} {W : WX} {p pos pos2 : Pos} {k : Nat} (hc : X.calm = true) (T : NDTxt X.prog X.K X.mg C fI) (hr : Room k X.A) (tk : Takes X W) (ha : PA X [a] ta) (hg : Gl X "NoDeed" := by rfl)
    (he : starEach (a :: []) X.env = (false, eval a X.env) :: starEach [] X.env := by rfl) (hpl : (backTo pos (starEach [] X.env)).any (·.1) = false := by rfl) :
    PS X (.Raise (some (.Call (.Name "NoDeed" p) [a] [] pos)) none pos2) (tRaiseND C W ta) := ps_raise hc tk (pmk_nd T hr ha hg he hpl)
/-- e.place, e the exception that the suite holds (at a; its class cls, its dict d) -/
def tPlace (C : Addr) (a : Addr) (cls : Value) (d : Option Addr) (te : TE) : TE := fun σ H Q => te σ H fun x H1 => x = .ref a ∧ cls = .ref C ∧ ∃ (dd : Addr) (v : V), d = some dd ∧ H1 dd = some (.xd [(("place" : Str), v)]) ∧ Q v H1
theorem pe_place {a : Addr} {oe : Obj} {cls : Value} {d : Option Addr} {pn : List (Addr × Obj)} {e : Expr} {te : TE} {pos : Pos} (T : NDTxt X.prog X.K X.mg C fI) (hz : Zc cls d oe) (hf : ∃ vs, oe.data = .fields vs) (he : PE (X.suite a ((a, oe) :: pn)) e te)
    (hb : attributeBase e "place" X.env (eval e X.env) = eval e X.env := by rfl) :
    PE (X.suite a ((a, oe) :: pn)) (.Attribute e "place" pos) (tPlace C a cls d te) := by
  refine ⟨fun pins s σ H Q I h => ?_⟩
  refine attr_of hb (thn (he.run pins s σ H _ I h) fun u s1 hh => ?_)
  obtain ⟨x, H1, I1, rx, ex, ec, dd, v, ed, ea, q⟩ := hh
  subst ex
  obtain rfl : u = Value.ref a := rx
  subst ec
  subst ed
  obtain ⟨ha, _⟩ := I1.pin (a, oe) (List.mem_append_left _ List.mem_cons_self)
  obtain ⟨vs, hd⟩ := hf
  have hx : ObjOk X.prog X.w H1 s1.heap dd (.xd [(("place" : Str), v)]) := I1.hok dd _ ea
  obtain ⟨mA, hns, hr⟩ := hx
  obtain ⟨od, ho, hl⟩ := lookIn_ns hns
  have l : List.lookup ("place" : Str) [(("place" : Str), v)] = some v := by simp [List.lookup]
  obtain ⟨u, hu, ru⟩ := RelO.some_of (v := v) (o := mA "place") (by rw [← l]; exact hr "place")
  have J : PySem.W.InstAt s1.heap a oe C (some od) := ⟨ha, hz.1, by unfold PySem.W.notCls; rw [hd] <;> rfl, by rw [hz.2]; exact ho⟩
  exact HandSPX.exc_get I1.kIn J T.ga T.gg T.exC (PySem.W.findObj_own T.hdC T.noN rfl (by rw [hl, hu])) (handed_of ru) ⟨v, H1, I1.tok _, ru, q⟩
end
end K30
set_option Elab.async false
set_option linter.all false
set_option maxRecDepth 100000
set_option maxHeartbeats 1000000
namespace K30
open PySem PySem.Spec PyProof.Rows L2
theorem sc_check_wholes : FnScope ["history", "places", "known", "place"] ["history", "places"] (defScope (top 16)) := ⟨rfl, rfl, rfl, by decide +kernel, rfl, by decide +kernel, by decide +kernel⟩
def t_check_wholes (K : PySem.W.Frag) (Cn : Addr) (E : XK) (sp_wholes_of : Sp) : TS := (tSeq (tAsg (tCall sp_wholes_of [] E0 (tCons (tVar 0) tNil)) (gName 2)) (tFor (iSeq K (tVar 1)) (gName 3) (tIfS (tTest (tOp (rIn K true) (tVar 3) (tVar 2))) (tRaiseND Cn (fun cls d _ H => E cls d H) (tCons (tVar 3) tNil)) tNext)))
theorem ps_check_wholes {P : Program} {w : World} {K : PySem.W.Frag} {mg : Str → Option Value} {base : Heap} {k : Nat} {sp_wholes_of : Sp} {Cn fI : Addr} (T : NDTxt P K mg Cn fI) (g : G0 K mg) (D_wholes_of : Df P w K mg base CX0 k "wholes_of" ["history"] sp_wholes_of) {f : Addr} {cdv : Value} {A : Around} {outer : List Env} {s : Shared} {H : Hp} {E : XK} (hr : Room k (A.deeper (envOfC "check_wholes" (defScope (top 16)) s.heap.objs.size f cdv))) : PSs (cxOf (L2.CX P w) P w K mg base ["history", "places", "known", "place"] "check_wholes" (defScope (top 16)) f cdv A outer s H E) (defBody (top 16)) (t_check_wholes K Cn E sp_wholes_of) := by
  unfold t_check_wholes
  exact (by exact pss_cons (by exact ps_set (i := 2) sc_check_wholes.nd rfl (Or.inl rfl) (by exact pe_df D_wholes_of hr pass0 (by exact pa_cons (by exact pv 0) pa_nil))) (by exact pss_one (by exact ps_for (passes_of rfl) rfl (by exact pi_seq (by exact pv 1)) (by exact pg_name (i := 3) sc_check_wholes.nd rfl (Or.inl rfl)) (by exact pss_one (by exact ps_if (by exact pt_cmpR op_notIn_seq (by exact pv 3) (by exact pv 2) (by rfl)) (by exact pss_one (by exact ps_raiseND rfl T hr (takes_of rfl rfl rfl rfl) (by exact pa_cons (by exact pv 3) pa_nil))) pss_nil)))))
theorem sc_played : FnScope ["history", "guess", "found", "place", "deed"] ["history", "guess"] (defScope (top 17)) := ⟨rfl, rfl, rfl, by decide +kernel, rfl, by decide +kernel, by decide +kernel⟩
def t_played (K : PySem.W.Frag) (Cn : Addr) (E : XK) (sp_tupled : Sp) (sp_check_wholes : Sp) : TS := (tSeq (tDrop (tCall sp_check_wholes [] E (tCons (tVar 0) (tCons (tVar 1) tNil)))) (tSeq (tAsg (tLst tNil) (gName 2)) (tSeq (tFor (iEnumS K (tCons (tCall sp_tupled [] E0 (tCons (tVar 0) tNil)) tNil)) (gTup K 2 (gCons (gName 3) (gCons (gName 4) gNil))) (tIfS (tTest (tOp rNe (tOp (rIx K) (tVar 4) (tC (.int 0))) (tC (.str "whole")))) (tDrop (tBM K "list" rAppend (tVar 2) (tCons (tVar 4) tNil))) (tIfS (tTest (tOp (rIn K false) (tVar 3) (tVar 1))) (tDrop (tBM K "list" rAppend (tVar 2) (tCons (tTup (tCons (tC (.str "give")) (StX.tStar K (tSl (rSlA K) (tVar 4) (tPart (tC (.int 1))) tNoPart) tNil))) tNil))) tNext))) (tRet (tCB (rTupleOf K) (tCons (tVar 2) tNil))))))
theorem ps_played {P : Program} {w : World} {K : PySem.W.Frag} {mg : Str → Option Value} {base : Heap} {k : Nat} {sp_tupled : Sp} {sp_check_wholes : Sp} {Cn fI : Addr} (T : NDTxt P K mg Cn fI) (g : G0 K mg) (D_tupled : Df P w K mg base CX0 k "tupled" ["thing"] sp_tupled) (D_check_wholes : Df P w K mg base (L2.CX P w) k "check_wholes" ["history", "places"] sp_check_wholes) {f : Addr} {cdv : Value} {A : Around} {outer : List Env} {s : Shared} {H : Hp} {E : XK} (hr : Room k (A.deeper (envOfC "played" (defScope (top 17)) s.heap.objs.size f cdv))) : PSs (cxOf (L2.CX P w) P w K mg base ["history", "guess", "found", "place", "deed"] "played" (defScope (top 17)) f cdv A outer s H E) (defBody (top 17)) (t_played K Cn E sp_tupled sp_check_wholes) := by
  unfold t_played
  exact (by exact pss_cons (by exact ps_expr (by exact pe_df D_check_wholes hr (passes_call (W := fun cls d _ H => E cls d H) (takes_of rfl rfl rfl rfl) (fun _ _ _ _ h => h)) (by exact pa_cons (by exact pv 0) (by exact pa_cons (by exact pv 1) pa_nil)))) (by exact pss_cons (by exact ps_set (i := 2) sc_played.nd rfl (Or.inl rfl) (by exact pe_lst pa_nil)) (by exact pss_cons (by exact ps_for (passes_of rfl) rfl (by exact pi_enumS g.enumerate (by exact pa_cons (by exact pe_df D_tupled hr pass0 (by exact pa_cons (by exact pv 0) pa_nil)) pa_nil)) (by exact pg_tup rfl (by exact pgs_cons (by exact pg_name (i := 3) sc_played.nd rfl (Or.inl rfl)) (by exact pgs_cons (by exact pg_name (i := 4) sc_played.nd rfl (Or.inl rfl)) pgs_nil))) (by exact pss_one (by exact ps_if (by exact pt_cmpR op_ne (by exact pe_ix ix_seq (by exact pv 4) pe_int (fun _ _ => rfl)) (by exact pe_glob (by rfl) g.whole.choose_spec ⟨_, rfl⟩) (nomark _)) (by exact pss_one (by exact ps_expr (by exact pe_bm PySem.F.plainAttrs_list PySem.F.slot_list_append PySem.F.type_list_append mt_append (by exact pv 2) (by exact pa_cons (by exact pv 4) pa_nil)))) (by exact pss_one (by exact ps_if (by exact pt_cmpR op_in_seq (by exact pv 3) (by exact pv 1) (by rfl)) (by exact pss_one (by exact ps_expr (by exact pe_bm PySem.F.plainAttrs_list PySem.F.slot_list_append PySem.F.type_list_append mt_append (by exact pv 2) (by exact pa_cons (by exact pe_tup (by exact pa_cons (by exact pe_glob (by rfl) g.give.choose_spec ⟨_, rfl⟩) (by exact StX.pa_star (by exact pe_slice sl_tupA (by exact pv 4) (by exact po_some pe_int) po_none) pa_nil))) pa_nil)))) pss_nil))))) (by exact pss_one (by exact ps_ret (by exact pe_callTy cr_tupleOf (by rfl) g.tuple (by decide +kernel) (by exact pa_cons (by exact pv 2) pa_nil)))))))
end K30
set_option Elab.async false
set_option linter.all false
set_option maxRecDepth 100000
set_option maxHeartbeats 1000000
namespace K30
open PySem PySem.Spec PyProof.Rows L2
/-! ### defs that raise -/
theorem Holds.sameH0 {B : Bx} {rho : List Sl} {mu : List (Addr × List PyData)} {T : Hp → Prop} {n : Nat} {σ : L2.St} {H : Hp} (hh : Holds B rho mu T n σ H) (hb : B.beta = none) : Same B.H0 H := fun x o e => by
  obtain ⟨C, a, _⟩ := hh
  exact (a.keep x o e).2 (by rw [hb]; intro z; cases z)
theorem none_of {H0 H : Hp} (s : Same H0 H) {d : Addr} (h : H d = none) : H0 d = none := by
  cases e : H0 d with
  | none => rfl
  | some o => rw [s d o e] at h; cases h
/-- the exception that carries i is out -/
def Out (H0 : Hp) (Cn : Addr) (i : Int) (E : XK) : Prop := ∀ d H', Same H0 H' → H0 d = none → H' d = some (.xd [("place", .int i)]) → E (.ref Cn) (some d) H'
section
variable {B : Bx} {rho rho' : List Sl} {mu : List (Addr × List PyData)} {T : Hp → Prop} {n c : Nat} {σ : L2.St} {H : Hp} {te : TE} {tA : TA} {D : Ends}
theorem p_raiseND {Cn : Addr} {i : Int} {W : WX} (hb : B.beta = none) (hh : Holds B rho mu T n σ H) (u : Up T) (h : EvD B c te rho (.dat (.int i))) (hc : c = 0) (k : Out B.H0 Cn i (fun cls d H => W cls d σ H)) : tRaiseND Cn W (tCons te tNil) D σ H := by
  subst hc
  unfold tRaiseND tMkND
  refine (ea_one h) mu T n σ H u hh _ fun vs H1 ss e h1 => ?_
  have e' : ss = [.dat (.int i)] := e
  subst e'
  obtain ⟨C, a, b, hv⟩ := h1
  obtain ⟨v, ev, h2⟩ := one_dat hv
  cases h2
  have s0 : Same B.H0 H1 := Holds.sameH0 ⟨C, a, b⟩ hb
  refine ⟨_, ev, fun d hd => k d _ (fun x o ex => ?_) (none_of s0 hd) upd_same⟩
  rw [upd_ne (fun z => by rw [← z, s0 _ _ ex] at hd; cases hd)]
  exact s0 _ _ ex
theorem s_callX {α : Type} {Cn : Addr} {enc : α → List PyData} {ok : α → Prop} {bad : α → Option Int} {res : α → PyData} {E : XK} (a : α) (hb : B.beta = none) (hh : Holds B rho mu T n σ H) (u : Up T) (h : EvA B 0 tA rho (fun l => l = (enc a).map .dat)) (hp : ok a)
    (k1 : bad a = none → ∀ H', Holds B rho mu T n σ H' → D.nx σ H') (k2 : ∀ i, bad a = some i → Out B.H0 Cn i E) : tDrop (tCall (spX B.K Cn enc ok bad res) [] E tA) D σ H :=
  h mu T n σ H u hh _ fun vs H1 ss e h1 => by
    have e' : ss = (enc a).map .dat := e
    subst e'
    obtain ⟨C, x, b, hv⟩ := h1
    have s0 : Same B.H0 H1 := Holds.sameH0 ⟨C, x, b⟩ hb
    exact ⟨C, a, x.sub, by rw [List.append_nil]; exact VlAll.dats hv, hp, fun hn v C' H' z1 z2 z3 z4 hv' => k1 hn H' ⟨C', x.ext z1 z2 z3 z4, u _ _ z2 b⟩, fun i hi d H' z1 z2 z3 => k2 i hi d H' (s0.trans z1) (none_of s0 z2) z3⟩
end
section
variable {P : Program} {w : World} {K : PySem.W.Frag} {mg : Str → Option Value} {base : Heap} {k : Nat} {x : Str} {ps : List Str}
theorem df_exc {i : Nat} {N : List Str} {α : Type} {Cn : Addr} {enc : α → List PyData} {ok : α → Prop} {bad : α → Option Int} {res : α → PyData} (A : At K mg x i) (S : FnScope N ps (defScope (top i))) (hj : ∀ a, (enc a).length = ps.length) (hN : ps.length ≤ N.length)
    (hb : ∀ (kV doc pm : Value) (an : Option Addr) (cdv ct : Value) (us : List Value), us.length = ps.length → bindArgs (PySem.W.fnOf x x (defArgs (top i)) (defBody (top i)) (defScope (top i)) .none kV doc pm an cdv ct) ⟨us, []⟩ = pure (ps.zip us))
    (body : ∀ (f : Addr) (cdv : Value) (A : Around) (outer : List Env) (s : Shared) (H : Hp) (E : XK) (C : Hp) (a : α), Room k (A.deeper (envOfC x (defScope (top i)) s.heap.objs.size f cdv)) → ok a →
      ∃ t, PSs (cxOf (L2.CX P w) P w K mg base N x (defScope (top i)) f cdv A outer s H E) (defBody (top i)) t ∧
        ∀ (D : Ends) (σ : L2.St), (∀ σ' H', D.nx σ' H' = D.rt .non H') → (bad a = none → ∀ v H' rho mu T n σ', Holds ⟨K, none, C, H⟩ rho mu (AndV K T v (.dat (res a))) n σ' H' → D.rt v H') → (∀ i, bad a = some i → Out H Cn i E) → Holds ⟨K, none, C, H⟩ (sl0 (enc a) (N.length - ps.length)) [] (fun _ => True) 0 σ H → t D σ H) :
    Df P w K mg base (L2.CX P w) (k + 1) x ps (spX K Cn enc ok bad res) := by
  obtain ⟨f, fd, a, F⟩ := A
  refine ⟨f, fd, a, ?_, F.kp, F.bindsN hb, look_of F⟩
  refine F.ok S (fun vs H Q E h => ?_) (fun cdv A outer s H vs Q E hr h => ?_)
  · obtain ⟨C, a, _, h2, _⟩ := h
    rw [h2.length, hj]
  · obtain ⟨C, a, h1, h2, h4, q1, q2⟩ := h
    obtain ⟨t, b1, b2⟩ := body f cdv A outer s H E C a hr h4
    refine ⟨t, b1, b2 _ _ (fun _ _ => rfl) (fun hn v H' rho mu T n σ' hh => ?_) (fun i hi d H' z1 z2 z3 => q2 i hi d H' z1 z2 z3) (start_pure h1 h2 (by have := hj a; omega))⟩
    obtain ⟨C', x, y, hv⟩ := hh
    exact q1 hn v C' H' (fun z o e => (x.keep z o e).2 (by intro w; cases w)) x.old x.sub (fun z o e => (x.keep z o e).1) hv
theorem inD_int (x : Int) (s : List Int) : inD (.int x) (s.map .int) = s.contains x := by
  unfold inD inV
  rw [List.map_map]
  induction s with
  | nil => rfl
  | cons y s ih =>
    rw [List.map_cons, List.any_cons, ih, List.contains_cons]
    refine congrArg (· || s.contains x) ?_
    show (y == x) = (x == y)
    by_cases h : x = y
    · subst h; rfl
    · rw [beq_eq_false_iff_ne.mpr h]
      exact beq_eq_false_iff_ne.mpr fun z => h z.symm
theorem int_flat {ss : List Int} : ∀ y ∈ ss.map PyData.int, flatD y = true := fun y hy => by
  obtain ⟨z, _, e⟩ := List.mem_map.mp hy
  rw [← e]
  rfl
abbrev sp_check_wholes (K : PySem.W.Frag) (Cn : Addr) : Sp := spX K Cn (fun a : PlIn => [a.hd, a.gd]) PlIn.Ok PlIn.bad (fun _ => .none)
theorem find_at {α : Type} {p : α → Bool} : ∀ {l : List α} {i : Nat} {a : α}, l[i]? = some a → (l.take i).find? p = none → p a = true → l.find? p = some a
  | [], _, _, h, _, _ => by cases h
  | b :: l, 0, a, h, _, hp => by
    obtain rfl : b = a := Option.some.inj h
    rw [List.find?_cons, hp]
  | b :: l, i + 1, a, h, ht, hp => by
    rw [List.take_succ_cons, List.find?_cons] at ht
    rw [List.find?_cons]
    cases e : p b with
    | true => rw [e] at ht; cases ht
    | false => rw [e] at ht; exact find_at h ht hp
theorem find_more {α : Type} {p : α → Bool} {l : List α} {i : Nat} {a : α} (h : l[i]? = some a) (ht : (l.take i).find? p = none) (hp : p a = false) : (l.take (i + 1)).find? p = none := by
  rw [List.take_add_one, List.find?_append, ht, h, Option.toList, List.find?_cons, hp]
  rfl
theorem df_check_wholes {Cn fI : Addr} (A : At K mg "check_wholes" 16) (Tn : NDTxt P K mg Cn fI) (g : G0 K mg) (D1 : Df P w K mg base CX0 k "wholes_of" ["history"] (sp_wholes_of K)) : Df P w K mg base (L2.CX P w) (k + 1) "check_wholes" ["history", "places"] (sp_check_wholes K Cn) := by
  refine df_exc A sc_check_wholes (fun _ => rfl) (by decide) (fun _ _ _ _ _ _ us hl => match us, hl with | [_, _], _ => rfl) fun f cdv A outer s H E C a hr ha => ⟨t_check_wholes K Cn E (sp_wholes_of K), ps_check_wholes Tn g D1 hr, fun D σ dn q qx hh => ?_⟩
  obtain ⟨hd, gd, h, gl⟩ := a
  obtain ⟨dh, sh, lh, ok, sg, lg⟩ := ha
  have sh : tupD hd = eBook h := sh
  have lh : h.length ≤ 999 := lh
  have sg : SeqD gd (gl.map .int) := sg
  obtain ⟨wl, hwl⟩ : ∃ wl : List Int, wl = (wholesM h).map fun n : Nat => (n : Int) := ⟨_, rfl⟩
  have hbad : (PlIn.mk hd gd h gl).bad = gl.find? fun i => !wl.contains i := by rw [hwl]; rfl
  obtain ⟨B, hB⟩ : ∃ B : Bx, B = ⟨K, none, C, H⟩ := ⟨_, rfl⟩
  have eK : K = B.K := by rw [hB]
  have eH : H = B.H0 := by rw [hB]
  have eB : B.beta = none := by rw [hB]
  rw [← hB] at hh q
  clear hB
  subst eK
  have hh : Holds B [.dat hd, .dat gd, .emp, .emp] [] (fun _ => True) 0 σ H := hh
  have u : Up fun _ => True := Up.tt
  unfold t_check_wholes
  apply p_asgN (s := .dat (.tuple (wl.map .int))) hh u
  case h => exact ed_fin (ed_call (f := fun a : PyData × List Deed => eNats (wholesM a.2)) (hd, h) (ea_one (ed_var rfl)) ⟨sh, by show h.length ≤ 1000; omega⟩) rfl (by rw [hwl, List.map_map]; rfl)
  case hc => rfl
  case k =>
  intro σ1 H1 h1
  have h1 : Holds B [.dat hd, .dat gd, .dat (.tuple (wl.map .int)), .emp] [] (fun _ => True) 0 σ1 H1 := h1
  show tSeq (tFor _ _ _) tNext D σ1 H1
  apply p_forN (x0 := ()) gl PyData.int (fun _ _ => ()) (fun i _ => (gl.take i).find? (fun i => !wl.contains i) = none) (fun _ => [.dat hd, .dat gd, .dat (.tuple (wl.map .int)), .emp]) (fun _ => []) h1 u
    (ew_seq (ed_var rfl) sg) rfl rfl rfl rfl
  case turn =>
    intro i a x T' m N σ' H' v hx inv up h2 next
    refine (eg_name (vs := [3]) (i := 3) (by decide)) _ _ _ _ _ _ up h2 _ fun σ2 _ h3 => ?_
    have h3 : Holds B [.dat hd, .dat gd, .dat (.tuple (wl.map .int)), .dat (.int a)] [] T' m σ2 H' := h3
    have ev : EvT B 0 (tTest (tOp (rIn B.K true) (tVar 3) (tVar 2))) [.dat hd, .dat gd, .dat (.tuple (wl.map .int)), .dat (.int a)] (!wl.contains a) := by
      refine et_test (ed_fin (c1 := 0) (ed_op (ed_var rfl) (ed_var rfl) (os_in (neg := true) (x := .int a) (ds := wl.map .int) rfl int_flat (.inr rfl))) rfl ?_)
      rw [inD_int]
      rfl
    refine s_if (c := 0) h3 up ev (fun hb H4 h4 => ?_) (fun hb H4 h4 => ?_)
    · refine p_raiseND (i := a) eB h4 up (ed_var rfl) rfl ?_
      rw [← eH]
      exact qx a (by rw [hbad]; exact find_at hx inv hb)
    · exact next _ _ (find_more hx inv hb) (h4.less rfl fun i s e => by
        match i with
        | 0 | 1 | 2 => exact .inr e
        | 3 => exact .inl (Option.some.inj e).symm
        | i + 4 => exact .inr e)
  case done =>
    intro σ2 H2 inv h2
    rw [List.take_length] at inv
    show D.nx σ2 H2
    rw [dn]
    obtain ⟨C2, x, _⟩ := h2
    exact q (by rw [hbad]; exact inv) .non H2 _ _ (fun _ => True) _ σ2 ⟨C2, x, trivial, .non⟩
theorem nat_of_bad {a : PlIn} (h : a.bad = none) : ∀ i ∈ a.g, ∃ n : Nat, i = (n : Int) := fun i hi => by
  unfold PlIn.bad at h
  have z := (List.find?_eq_none.mp h) i hi
  have z : ((wholesM a.h).map fun n : Nat => (n : Int)).contains i = true := by simpa using z
  obtain ⟨n, _, e⟩ := List.mem_map.mp (List.contains_iff_mem.mp z)
  exact ⟨n, e.symm⟩
theorem contains_nat {g : List Int} (h : ∀ i ∈ g, ∃ n : Nat, i = (n : Int)) (j : Nat) : g.contains (j : Int) = (g.map Int.toNat).contains j := by
  induction g with
  | nil => rfl
  | cons b g ih =>
    rw [List.contains_cons, List.map_cons, List.contains_cons, ih fun i hi => h i (List.mem_cons_of_mem _ hi)]
    refine congrArg (· || _) ?_
    obtain ⟨n, e⟩ := h b List.mem_cons_self
    subst e
    rw [Int.toNat_natCast]
    by_cases z : j = n
    · subst z
      rw [beq_self_eq_true, beq_self_eq_true]
    · rw [beq_eq_false_iff_ne.mpr z]
      exact beq_eq_false_iff_ne.mpr fun y => z (Int.ofNat.inj y)
theorem df_played {Cn fI : Addr} (A : At K mg "played" 17) (Tn : NDTxt P K mg Cn fI) (g : G0 K mg) (D1 : Df P w K mg base CX0 k "tupled" ["thing"] (sp_tupled K dep)) (D2 : Df P w K mg base (L2.CX P w) k "check_wholes" ["history", "places"] (sp_check_wholes K Cn)) : Df P w K mg base (L2.CX P w) (k + 1) "played" ["history", "guess"] (sp_played K Cn) := by
  refine df_exc A sc_played (fun _ => rfl) (by decide) (fun _ _ _ _ _ _ us hl => match us, hl with | [_, _], _ => rfl) fun f cdv A outer s H E C a hr ha => ⟨t_played K Cn E (sp_tupled K dep) (sp_check_wholes K Cn), ps_played Tn g D1 D2 hr, fun D σ dn q qx hh => ?_⟩
  obtain ⟨B, hB⟩ : ∃ B : Bx, B = ⟨K, none, C, H⟩ := ⟨_, rfl⟩
  have eK : K = B.K := by rw [hB]
  have eH : H = B.H0 := by rw [hB]
  have eB : B.beta = none := by rw [hB]
  rw [← hB] at hh q
  clear hB
  subst eK
  have hh : Holds B [.dat a.hd, .dat a.gd, .emp, .emp, .emp] [] (fun _ => True) 0 σ H := hh
  have u : Up fun _ => True := Up.tt
  unfold t_played
  refine s_seq (s_callX (Cn := Cn) (E := E) (enc := fun a : PlIn => [a.hd, a.gd]) (ok := PlIn.Ok) (bad := PlIn.bad) (res := fun _ => .none) a eB hh u (ea_cons (c1 := 0) (c2 := 0) (ed_var rfl) (ea_one (ed_var rfl))) ha (fun hn H1 h1 => ?_) fun i hi => ?_)
  case refine_2 =>
    rw [← eH]
    exact qx i hi
  have q := q hn
  have hnat := nat_of_bad hn
  have lh := ha.lh
  apply p_newHotN h1
  intro p σ2 H2 h2
  apply p_forN (x0 := ([] : List Deed)) a.h.zipIdx (fun x => .tuple [.int (x.2 : Int), eDeed x.1]) (leftStep (a.g.map Int.toNat)) (fun i x => x.length ≤ i) (fun x => [.dat a.hd, .dat a.gd, .adr p, .emp, .emp]) (fun x => [(p, x.map eDeed)]) h2 u
    (by rw [← enumD_map]; exact ew_enum (ed_fin (ed_call a.hd (ea_one (ed_var rfl)) ha.dh) rfl (by rw [ha.sh]; rfl)) (.inr rfl)) rfl rfl rfl (Nat.le_refl _)
  case turn =>
    intro i x acc T' m N σ' H' v hx inv up h2 next
    obtain ⟨d, j⟩ := x
    have hi : i < a.h.length := by
      have z := (List.getElem?_eq_some_iff.mp hx).1
      rw [List.length_zipIdx] at z
      exact z
    have hd : d ∈ a.h := by
      have z := List.mem_of_getElem? hx
      exact (List.mem_zipIdx z).2.2 ▸ List.getElem_mem _
    have hdk := ha.ok d hd
    refine (eg_tup (vs := [3, 4]) (ds := [.int (j : Int), eDeed d]) (egs_cons eg_name (egs_cons eg_name egs_nil))) _ _ _ _ _ _ up h2 _ fun σ3 _ h3 => ?_
    have h3 : Holds B [.dat a.hd, .dat a.gd, .adr p, .dat (.int (j : Int)), .dat (eDeed d)] [(p, acc.map eDeed)] T' m σ3 H' := h3
    have e0 : EvD B (0 + 0) (tOp (rIx B.K) (tVar 4) (tC (.int 0))) [.dat a.hd, .dat a.gd, .adr p, .dat (.int (j : Int)), .dat (eDeed d)] (.dat (.str d.kind)) := ed_op (ed_var rfl) ed_int (os_ix0 (.inr rfl))
    have app : ∀ (te : TE) (d' : Deed) H3, Holds B [.dat a.hd, .dat a.gd, .adr p, .dat (.int (j : Int)), .dat (eDeed d)] [(p, acc.map eDeed)] T' m σ3 H3 → leftStep (a.g.map Int.toNat) acc (d, j) = acc ++ [d'] →
        EvD B 0 te [.dat a.hd, .dat a.gd, .adr p, .dat (.int (j : Int)), .dat (eDeed d)] (.dat (eDeed d')) →
        ∀ D' : Ends, D'.nx = N → tDrop (tBM B.K "list" rAppend (tVar 2) (tCons te tNil)) D' σ3 H3 := by
      intro te d' H3 h4 hs ev D' hN
      refine s_app (c := 0) (S := fun z => z = .dat (eDeed d')) h4 up rfl (ev.imp fun s e => ⟨_, e, e⟩) (by rw [List.length_map]; omega) fun dd σ5 H7 e h8 => ?_
      have e := Sl.dat.inj e
      subst e
      rw [hN]
      refine next _ _ (left_len inv) ?_
      rw [hs, List.map_append]
      exact h8.less rfl fun i s e => by
        match i with
        | 0 | 1 | 2 => exact .inr e
        | 3 | 4 => exact .inl (Option.some.inj e).symm
        | i + 5 => exact .inr e
    refine s_if (c := 0) (b := !decide (d.kind = "whole")) h3 up (et_fin (c1 := 0) (et_test (ed_op e0 ed_str os_neS)) rfl rfl) (fun hb H4 h4 => ?_) (fun hb H4 h4 => ?_)
    · have hk : d.kind ≠ "whole" := by
        intro z
        rw [decide_eq_true z] at hb
        cases hb
      exact app _ d H4 h4 (if_neg hk) (ed_var rfl) _ rfl
    · have hk : d.kind = "whole" := by
        by_cases hk : d.kind = "whole"
        · exact hk
        · rw [decide_eq_false hk] at hb
          cases hb
      have ev : EvT B 0 (tTest (tOp (rIn B.K false) (tVar 3) (tVar 1))) [.dat a.hd, .dat a.gd, .adr p, .dat (.int (j : Int)), .dat (eDeed d)] ((a.g.map Int.toNat).contains j) := by
        refine et_test (ed_fin (c1 := 0) (ed_op (ed_var rfl) (ed_var rfl) (os_in (neg := false) (x := .int (j : Int)) (ds := a.g.map .int) rfl int_flat ha.sg)) rfl ?_)
        rw [inD_int, contains_nat hnat]
        rfl
      refine s_if (c := 0) h4 up ev (fun hj H5 h5 => ?_) (fun hj H5 h5 => ?_)
      · obtain ⟨ga, gb, gc, e, hc⟩ := whole_four hdk hk
        subst e
        refine app _ (.four "give" ga gb gc) H5 h5 ((if_pos rfl).trans ((if_pos hj).trans rfl)) ?_ _ rfl
        have hs : EvD B 0 (tSl (rSlA B.K) (tVar 4) (tPart (tC (.int 1))) tNoPart) [.dat a.hd, .dat a.gd, .adr p, .dat (.int (j : Int)), .dat (eDeed (.four "whole" ga gb gc))] (.dat (.tuple [.str ga, .str gb, eCut gc])) := (ed_slT (ds := [.str "whole", .str ga, .str gb, eCut gc]) (ed_var rfl) (eo_some ed_int) eo_none).to rfl
        exact ed_fin (ed_tup (ds := [.str "give", .str ga, .str gb, eCut gc]) (ea_cons (c2 := 0) ed_str (ea_star (c2 := 0) (ss := []) (ds := [.str ga, .str gb, eCut gc]) hs (.inl rfl) ea_nil))) rfl rfl
      · refine next _ _ (left_len inv) ?_
        rw [show leftStep (a.g.map Int.toNat) acc (d, j) = acc by unfold leftStep; rw [if_pos hk, if_neg (by rw [hj]; decide)]]
        exact h5.less rfl fun i s e => by
          match i with
          | 0 | 1 | 2 => exact .inr e
          | 3 | 4 => exact .inl (Option.some.inj e).symm
          | i + 5 => exact .inr e
  case done =>
    intro σ3 H3 _ h3
    have h4 := (h3.freeze Up.tt).reslot (i := 2) rfl
    rw [left_fold, List.nil_append] at h4
    apply p_ret (s := .dat (eBook (leftM a.h (a.g.map Int.toNat)))) h4 Up.tt
    case h => exact er_fin (c1 := 0) (ed_cb (ea_one (ed_var rfl)) (cl_tuple (.inl rfl))) rfl fun _ e => e
    case hc => rfl
    case k => exact fun v H' h => q v H' _ _ _ _ σ3 h
end
end K30
set_option Elab.async false
set_option linter.all false
set_option maxRecDepth 100000
set_option maxHeartbeats 1000000
namespace K30
open PySem PySem.Spec PyProof.Rows L2
/-! ### _law_heard -/
/-- isinstance(e, LookupError), e the NoDeed that the suite holds -/
def rIsND (Cn a : Addr) (cls : Value) (d : Option Addr) : List V → Hp → VK → Prop := fun xs H Q => xs = [.ref a, .ty "LookupError"] ∧ cls = .ref Cn ∧ (∃ (dd : Addr) (v : V), d = some dd ∧ H dd = some (.xd [(("place" : Str), v)])) ∧ Q (.bl true) H
/-- what isinstance asks of the class -/
structure NDIs (K : PySem.W.Frag) (Cn : Addr) : Prop where
  asks : ExcC K Cn
  le : PySem.W.kitOne K (.ref Cn) (.type "LookupError") = some true
theorem call_isND {X : Cx} {Cn a : Addr} {oe : Obj} {cls : Value} {d : Option Addr} {pn : List (Addr × Obj)} (C : NDIs X.K Cn) (hz : Zc cls d oe) (hf : ∃ vs, oe.data = .fields vs) : CallR (X.suite a ((a, oe) :: pn)) (.builtin "isinstance") (rIsND Cn a cls d) := by
  intro pins s σ H xs us Q I r h
  obtain ⟨e1, e2, ⟨dd, v, e3, e4⟩, q⟩ := h
  subst e1 e2 e3
  cases r with
  | cons rx rr =>
    cases rr with
    | cons rt rr =>
      cases rr
      cases rx
      obtain rfl := (show _ = Value.type "LookupError" from rt)
      obtain ⟨hget, _⟩ := I.pin (a, oe) (List.mem_append_left _ List.mem_cons_self)
      obtain ⟨vs, hv⟩ := hf
      have hx : ObjOk X.prog X.w H s.heap dd (.xd [(("place" : Str), v)]) := I.hok dd _ e4
      obtain ⟨mA, hns, _⟩ := hx
      obtain ⟨od, ho, _⟩ := lookIn_ns hns
      have J : PySem.W.InstAt s.heap a oe Cn (some od) := ⟨hget, hz.1, by unfold PySem.W.notCls; rw [hv] <;> rfl, by rw [hz.2]; exact ho⟩
      have hcl : (PySem.W.clsIn X.K Cn).isSome = true := by
        obtain ⟨cdD, hcD, _⟩ := PySem.W.any_some C.asks.hd
        rw [hcD]
        rfl
      exact PySem.W.kia_one (PySem.W.kitx_exc hcl C.asks.hg C.asks.hk C.asks.hs C.asks.ha C.asks.hn C.asks.ht C.asks.hm) I.kIn J C.le (fun z => nomatch z) fun tk => ⟨.bl true, H, I.kept (t' := tk) fun _ _ z => z, rfl, q⟩
theorem sc_law_heard : FnScope ["_law_deeds_so", "_law_lot_so", "_law_caught", "error_so"] ["_law_deeds_so", "_law_lot_so"] (defScope (top 44)) := ⟨rfl, rfl, rfl, by decide +kernel, rfl, by decide +kernel, by decide +kernel⟩
/-- what the except suite does -/
def t_heardS (Cn : Addr) : Addr → Value → Option Addr → TS := fun a cls d => tAsg (tLst (tCons (tPlace Cn a cls d (tVar 3)) (tCons (tCB (rIsND Cn a cls d) (tCons (tVar 3) (tCons (tC (.ty "LookupError")) tNil))) tNil))) (gName 2)
def t_heardT (K : PySem.W.Frag) (Cn : Addr) : TS := fun D σ H => tRet (tCallS (sp_played K Cn) (WE (wAs K (.ref Cn) 3 (t_heardS Cn) (fun _ _ _ _ => False) D)) (tCons (tVar 0) (tCons (tVar 1) tNil))) D σ H
def t_law_heard (K : PySem.W.Frag) (Cn : Addr) : TS := tSeq (tAsg (tC .non) (gName 2)) (tSeq (t_heardT K Cn) (tRet (tVar 2)))
theorem ps_law_heard {P : Program} {w : World} {K : PySem.W.Frag} {mg : Str → Option Value} {base : Heap} {k : Nat} {Cn fI : Addr} (T : NDTxt P K mg Cn fI) (TI : NDIs K Cn) (g : G0 K mg) (D_played : Df P w K mg base (L2.CX P w) k "played" ["history", "guess"] (sp_played K Cn)) {f : Addr} {cdv : Value} {A : Around} {outer : List Env} {s : Shared} {H : Hp} {E : XK} (hr : Room k (A.deeper (envOfC "_law_heard" (defScope (top 44)) s.heap.objs.size f cdv))) :
    PSs (cxOf CX0 P w K mg base ["_law_deeds_so", "_law_lot_so", "_law_caught", "error_so"] "_law_heard" (defScope (top 44)) f cdv A outer s H E).nox (defBody (top 44)) (t_law_heard K Cn) := by
  obtain ⟨fp, fdp, g1, g2, g3, g4, _⟩ := D_played
  unfold t_law_heard
  refine pss_cons (ps_set (i := 2) sc_law_heard.nd rfl (Or.inl rfl) (by exact pe_non)) (pss_cons (by
    exact ps_try_as (i := 3) (tb := fun W => tRet (tCallS (sp_played K Cn) (WE W) (tCons (tVar 0) (tCons (tVar 1) tNil)))) (ts := t_heardS Cn) (Wout := fun _ _ _ _ => False) rfl rfl sc_law_heard.nd rfl rfl ⟨rfl, by decide, Or.inl T.gC⟩ takes0
      (fun W pn xe tk _ => by exact pss_one (by exact ps_ret (by exact pe_callS g2 hr rfl g1 g3 g4 (fun σ => passAt tk σ) (by exact pa_cons (by exact pv 0) (by exact pa_cons (by exact pv 1) pa_nil)))))
      (fun a oe cls d pn hz hf => by exact pss_one (by exact ps_set (i := 2) sc_law_heard.nd rfl (Or.inl rfl) (by exact pe_lst (by exact pa_cons (by exact pe_place T hz hf (by exact pv 3)) (by exact pa_cons (by exact pe_callB (call_isND TI hz hf) (by rfl) g.isinstance (by decide +kernel) (by exact pa_cons (by exact pv 3) (by exact pa_cons (by exact pe_bltn (v := .ty "LookupError") (by rfl) g.lookupError (by decide +kernel) rfl) pa_nil))) pa_nil))))))
    (pss_one (by exact ps_ret (by exact pv 2))))
abbrev sp_law_heard (K : PySem.W.Frag) : Sp := spP K (fun a : PlIn × Int => [a.1.hd, a.1.gd]) (fun a => a.1.Ok ∧ a.1.bad = some a.2) (fun a d => d = .list [.int a.2, .bool true])
section
variable {P : Program} {w : World} {K : PySem.W.Frag} {mg : Str → Option Value} {base : Heap} {k : Nat} {Cn fI : Addr}
theorem df_law_heard (A : At K mg "_law_heard" 44) (T : NDTxt P K mg Cn fI) (TI : NDIs K Cn) (g : G0 K mg) (D1 : Df P w K mg base (L2.CX P w) k "played" ["history", "guess"] (sp_played K Cn)) : Df P w K mg base CX0 (k + 1) "_law_heard" ["_law_deeds_so", "_law_lot_so"] (sp_law_heard K) := by
  refine df_pure A sc_law_heard (fun _ => rfl) (by decide) (fun _ _ _ _ _ _ us hl => match us, hl with | [_, _], _ => rfl) fun f cdv A outer s H E C a hr ha => ⟨t_law_heard K Cn, ps_law_heard T TI g D1 hr, fun D σ q hh => ?_⟩
  obtain ⟨a, i⟩ := a
  obtain ⟨hok, hbad⟩ := ha
  have hbad : a.bad = some i := hbad
  obtain ⟨B, hB⟩ : ∃ B : Bx, B = ⟨K, none, C, H⟩ := ⟨_, rfl⟩
  have eK : K = B.K := by rw [hB]
  rw [← hB] at hh q
  clear hB
  subst eK
  have hh : Holds B [.dat a.hd, .dat a.gd, .emp, .emp] [] (fun _ => True) 0 σ H := hh
  have u : Up fun _ => True := Up.tt
  unfold t_law_heard
  apply p_asgN (s := .dat .none) hh u
  case h => exact ed_non
  case hc => rfl
  case k =>
  intro σ1 H1 h1
  have h1 : Holds B [.dat a.hd, .dat a.gd, .dat .none, .emp] [] (fun _ => True) 0 σ1 H1 := h1
  refine s_seq ?_
  unfold t_heardT tRet tCallS
  refine (ea_cons (c1 := 0) (c2 := 0) (ed_var (i := 0) rfl) (ea_one (ed_var (i := 1) rfl))) [] (fun _ => True) 0 σ1 H1 u h1 _ fun vs H2 ss e h2 => ?_
  have e' : ss = [.dat a.hd, .dat a.gd] := e
  subst e'
  obtain ⟨C2, x, _, hv⟩ := h2
  refine ⟨C2, a, x.sub, VlAll.dats (ds := [a.hd, a.gd]) hv, hok, fun hn => ?_, fun j hj d H' z1 z2 z3 => ?_⟩
  · rw [hbad] at hn
    cases hn
  have ej : j = i := by
    rw [hbad] at hj
    exact (Option.some.inj hj).symm
  subst ej
  refine ⟨true, T.te, fun _ a0 _ => ?_, fun z => by cases z⟩
  have len : σ1.length = 4 := x.len
  have h3 : Holds B [.dat a.hd, .dat a.gd, .dat .none, .emp] [] (fun _ => True) 0 σ1 H' := ⟨C2, x.ext z1 (Same.refl _) (x.sub.trans z1) (fun _ _ _ => rfl), trivial⟩
  have s3 : (σ1.set 3 (some (.ref a0)))[3]? = some (some (V.ref a0)) := by
    rw [List.getElem?_set_self (by rw [len]; decide)]
  refine ⟨_, s3, rfl, rfl, d, _, rfl, z3, _, s3, rfl, rfl, ⟨d, _, rfl, z3⟩, by show 2 ≤ sizeLine; decide, fun p hp => ?_⟩
  have h4 := h3.cold u hp (.lst [.int j, .bl true]) (P := fun C => Vl B.K C (.ref p) (.dat (.list [.int j, .bool true]))) fun C t t2 sc => .lst upd_same (.cons (.int _) (.cons (.bl _) .nil))
  refine ⟨.ref p, ?_, q (.ref p) _ _ _ _ _ _ σ1 rfl h4⟩
  rw [List.getElem?_set_ne (by decide), List.getElem?_set_self (by rw [List.length_set, len]; decide)]
end
end K30
set_option Elab.async false
set_option linter.all false
set_option maxRecDepth 100000
set_option maxHeartbeats 1000000
namespace K30
open PySem PySem.Spec PyProof.Rows L2
/-! ### calls by keywords alone, the last parameter first -/
theorem vals_rev : ∀ {vs : List V} {us : List Value}, Vals vs us → Vals vs.reverse us.reverse
  | _, _, .nil => .nil
  | _, _, .cons r rs => by
    rw [List.reverse_cons, List.reverse_cons]
    exact (vals_rev rs).append (.cons r .nil)
def tCallR (m : Nat) (sp : Sp) (E : XK) (tk : TA) : TE := fun σ H Q => tk σ H fun zs H1 => zs.length = m ∧ sp zs.reverse H1 Q E
section
variable {CX : CXT} {k i : Nat} {x : Str} {ps ks : List Str} {sp : Sp}
theorem pe_dfK {X : Cx} {E : XK} {p pos : Pos} {kws : List Keyword} {tk : TA} (A : At X.K X.mg x i) (D : Df X.prog X.w X.K X.mg X.base CX k x ps sp) (hr : Room k X.A) (hx : Passes CX X E) (hkw : PK X kws tk)
    (hb : ∀ (kV doc pm : Value) (an : Option Addr) (cdv ct : Value) (ws : List Value), ws.length = ks.length → bindArgs (PySem.W.fnOf x x (defArgs (top i)) (defBody (top i)) (defScope (top i)) .none kV doc pm an cdv ct) ⟨[], ks.zip ws⟩ = pure (ps.zip ws.reverse))
    (hg : Gl X x := by rfl) (hdb : (x == ("__debug__" : Str)) = false := by decide) (hall : (backToKw pos (keywordEach kws X.env)).all (·.1.isSome) = true := by rfl) (hks : (backToKw pos (keywordEach kws X.env)).filterMap (·.1) = ks := by rfl)
    (hpl : ((backTo pos (starEach [] X.env)).any (·.1) || (backToKw pos (keywordEach kws X.env)).any (·.1.isNone)) = false := by rfl) : PE X (.Call (.Name x p) [] kws pos) (tCallR ks.length sp E tk) := by
  obtain ⟨f, fd, a, b, c, d, oc, od, osl, lk⟩ := D
  obtain ⟨f2, fd2, a2, F⟩ := A
  obtain rfl : f2 = f := by
    have z := a2.symm.trans a
    cases z
    rfl
  obtain ⟨oc2, od2, dV, kV, doc, pm, an, cdv, ct, osl2, efd, lk2, hcd, hD, hK⟩ := F.ex
  obtain rfl : fd2 = fd := by
    have z := lk2.symm.trans lk
    cases z
    rfl
  subst efd
  rcases hD with ⟨_, rfl⟩ | ⟨e, _⟩
  · have kb : KBn X.K _ ps 0 ks (fun us ws => ws.reverse) (fun vs zs => zs.reverse) := ⟨fun s us ws _ l1 l2 => by
      obtain rfl := List.length_eq_zero_iff.mp l1
      exact .of_eq (hb kV doc pm an cdv ct ws l2), fun r1 r2 => vals_rev r2⟩
    refine ⟨fun pins s σ H Q I h => ?_⟩
    refine wpAny_Call_Name_kw (ld_glob I hg a ?_ hdb)
    refine PySem.W.callWith_KW0 (h₀ := X.base) I.ok.mod.kin c hall (thn (hkw.run pos pins s σ H _ I h) fun ws s2 ⟨zs, H2, I2, rz, l2, q2⟩ => ⟨I2.kIn, ?_⟩) hpl
    rw [hks]
    exact run_fnN b hr kb hx I2 .nil rz rfl l2 q2
  · exact absurd rfl e
end
theorem dt_append {K : PySem.W.Frag} {C : Hp} : ∀ {vs : List V} {ds : List PyData} {us : List V} {es : List PyData}, DtAll K C vs ds → DtAll K C us es → DtAll K C (vs ++ us) (ds ++ es)
  | _, _, _, _, .nil, h => h
  | _, _, _, _, .cons a b, h => .cons a (dt_append b h)
theorem dt_rev {K : PySem.W.Frag} {C : Hp} : ∀ {vs : List V} {ds : List PyData}, DtAll K C vs ds → DtAll K C vs.reverse ds.reverse
  | _, _, .nil => .nil
  | _, _, .cons a b => by
    rw [List.reverse_cons, List.reverse_cons]
    exact dt_append (dt_rev b) (.cons a .nil)
section
variable {B : Bx} {rho : List Sl} {c m : Nat} {tA : TA}
theorem ed_callR {α : Type} {enc : α → List PyData} {ok : α → Prop} {f : α → PyData} {E : XK} (a : α) (h : EvA B c tA rho (fun l => l = (enc a).reverse.map .dat)) (hp : ok a) (hm : (enc a).length = m) : EvD B c (tCallR m (spP B.K enc ok fun a d => d = f a) E tA) rho (.dat (f a)) := fun mu T n σ H u hh Q q =>
  h mu T n σ H u hh _ fun vs H1 ss e h1 => by
    obtain ⟨C, x, b, hv⟩ := h1
    have e' : ss = (enc a).reverse.map .dat := e
    subst e'
    have z := VlAll.dats hv
    refine ⟨by rw [z.length, List.length_reverse, hm], C, a, x.sub, ?_, hp, fun v C' H' d s1 s2 s3 s4 hd hv' => ?_⟩
    · have y := dt_rev z
      rw [List.reverse_reverse] at y
      exact y
    · subst hd
      exact q v H' (.dat (f a)) rfl ⟨C', x.ext s1 s2 s3 s4, u _ _ s2 b, hv'⟩
theorem ed_callXR {α : Type} {Cn : Addr} {enc : α → List PyData} {ok : α → Prop} {bad : α → Option Int} {res : α → PyData} {E : XK} (a : α) (h : EvA B c tA rho (fun l => l = (enc a).reverse.map .dat)) (hp : ok a) (hb : bad a = none) (hm : (enc a).length = m) : EvD B c (tCallR m (spX B.K Cn enc ok bad res) E tA) rho (.dat (res a)) := fun mu T n σ H u hh Q q =>
  h mu T n σ H u hh _ fun vs H1 ss e h1 => by
    obtain ⟨C, x, b, hv⟩ := h1
    have e' : ss = (enc a).reverse.map .dat := e
    subst e'
    have z := VlAll.dats hv
    refine ⟨by rw [z.length, List.length_reverse, hm], C, a, x.sub, ?_, hp, fun _ v C' H' s1 s2 s3 s4 hv' => q v H' (.dat (res a)) rfl ⟨C', x.ext s1 s2 s3 s4, u _ _ s2 b, hv'⟩, fun i hi => by rw [hb] at hi; cases hi⟩
    have y := dt_rev z
    rw [List.reverse_reverse] at y
    exact y
end
end K30
set_option Elab.async false
set_option linter.all false
set_option maxRecDepth 100000
set_option maxHeartbeats 1000000
namespace K30
open PySem PySem.Spec PyProof.Rows L2
theorem sc_law_more_right : FnScope ["_law_book_so", "_law_more_so", "_law_worlds_so", "_law_odd_so", "_law_half_so", "_law_got", "_law_west_so", "_law_due", "_law_wide_so", "_law_full_so", "_law_all_so", "_law_own", "_law_tag"] ["_law_book_so", "_law_more_so", "_law_worlds_so"] (defScope (top 48)) := ⟨rfl, rfl, rfl, by decide +kernel, rfl, by decide +kernel, by decide +kernel⟩
def t_law_more_right (K : PySem.W.Frag) (sp_law_case_right : Sp) (sp_law_same : Sp) (sp_wholes_of : Sp) (sp_owners_in : Sp) (sp_let_wholes : Sp) (sp_played : Sp) (sp_law_heard : Sp) : TS := (tSeq (tPar3 5 7 10 (tCons (tLst tNil) (tCons (tLst tNil) (tCons (tTup (tCons (tTup tNil) tNil)) tNil)))) (tSeq (tAsg (tLst (tCons (tTup (tCons (tC (.int 1)) tNil)) (tCons (tTup (tCons (tC (.int 0)) (tCons (tC (.int 1)) (tCons (tC (.int 2)) tNil)))) (tCons (tTup (tCons (tC (.int 0)) (tCons (tC (.int 2)) tNil))) (tCons (tTup (tCons (tC (.int 3)) tNil)) (tCons (tTup (tCons (tUn (rU fun i => .int (-i)) (tC (.int 1))) tNil)) (tCons (tTup (tCons (tC (.int 2)) (tCons (tOp (rI CPow fun i j => .int (i ^ j.toNat)) (tC (.int 10)) (tC (.int 30))) tNil))) (tCons (tTup (tCons (tUn (rU fun i => .int (-i)) (tC (.int 1))) (tCons (tC (.int 2)) (tCons (tC (.int 7)) tNil)))) tNil)))))))) (gName 3)) (tSeq (tDrop (tBM K "list" rAppend (tVar 5) (tCons (tLc (iSeq K (tVar 3)) (gName 11) tYes (tCall sp_law_heard [] E0 (tCons (tVar 0) (tCons (tVar 11) tNil))) [11]) tNil))) (tSeq (tDrop (tBM K "list" rAppend (tVar 7) (tCons (tLst (tCons (tLst (tCons (tC (.int 1)) (tCons (tC (.bl true)) tNil))) (tCons (tLst (tCons (tC (.int 0)) (tCons (tC (.bl true)) tNil))) (tCons (tLst (tCons (tC (.int 0)) (tCons (tC (.bl true)) tNil))) (tCons (tLst (tCons (tC (.int 3)) (tCons (tC (.bl true)) tNil))) (tCons (tLst (tCons (tUn (rU fun i => .int (-i)) (tC (.int 1))) (tCons (tC (.bl true)) tNil))) (tCons (tLst (tCons (tOp (rI CPow fun i j => .int (i ^ j.toNat)) (tC (.int 10)) (tC (.int 30))) (tCons (tC (.bl true)) tNil))) (tCons (tLst (tCons (tUn (rU fun i => .int (-i)) (tC (.int 1))) (tCons (tC (.bl true)) tNil))) tNil)))))))) tNil))) (tSeq (tAsg (tLst (tCons (tLst (tCons (tC (.str "vest")) (tCons (tC (.str "ann")) (tCons (tLst (tCons (tLst (tCons (tLst (tCons (tC (.str "w")) (tCons (tC (.bl true)) tNil))) tNil)) tNil)) tNil)))) (tCons (tTup (tCons (tC (.str "whole")) (tCons (tC (.str "ann")) (tCons (tC (.str "bob")) (tCons (tTup (tCons (tTup (tCons (tTup (tCons (tC (.str "w")) (tCons (tC (.bl true)) tNil))) tNil)) tNil)) tNil))))) tNil))) (gName 4)) (tSeq (tAsg (tOp rCat (tVar 5) (tLst (tCons (tCallR 2 sp_played E0 (tCons (tLst (tCons (tC (.int 1)) tNil)) (tCons (tVar 4) tNil))) (tCons (tCallR 2 sp_let_wholes E0 (tCons (tVar 4) (tCons (tLst (tCons (tLst (tCons (tLst (tCons (tC (.str "w")) tNil)) (tCons (tC (.int 2)) (tCons (tC (.str "x")) tNil)))) tNil)) tNil))) tNil)))) (gName 5)) (tSeq (tAsg (tOp rCat (tVar 5) (tLst (tCons (tCallR 2 sp_owners_in E0 (tCons (tVar 4) (tCons (tTup (tCons (tTup (tCons (tTup tNil) (tCons (tC (.int 2)) (tCons (tC (.str "x")) tNil)))) (tCons (tLst (tCons (tLst (tCons (tC (.str "w")) tNil)) (tCons (tC (.int 2)) (tCons (tC (.str "y")) tNil)))) tNil))) tNil))) (tCons (tCallR 1 sp_wholes_of E0 (tCons (tVar 4) tNil)) tNil)))) (gName 5)) (tSeq (tAsg (tTup (tCons (tTup (tCons (tTup (tCons (tC (.str "w")) (tCons (tC (.bl true)) tNil))) tNil)) tNil)) (gName 6)) (tSeq (tAsg (tOp rCat (tVar 7) (tLst (tCons (tTup (tCons (tTup (tCons (tC (.str "vest")) (tCons (tC (.str "ann")) (tCons (tVar 6) tNil)))) (tCons (tTup (tCons (tC (.str "give")) (tCons (tC (.str "ann")) (tCons (tC (.str "bob")) (tCons (tVar 6) tNil))))) tNil))) (tCons (tTup (tCons (tC (.int 1)) tNil)) (tCons (tTup (tCons (tC (.str "x")) (tCons (tC (.str "bob")) tNil))) (tCons (tTup (tCons (tC (.int 1)) tNil)) tNil)))))) (gName 7)) (tSeq (tIfS (tNot (tB (tCall sp_law_same [] E0 (tCons (tVar 5) (tCons (tVar 7) tNil))))) (tRet (tC (.bl false))) tNext) (tSeq (tAsg (tOp (rCatA K) (tCB (rTupleOf K) (tCons (tLc (iStr (tC (.str "abcd"))) (gName 12) tYes (tTup (tCons (tC (.str "whole")) (tCons (tC (.str "ann")) (tCons (tC (.str "bob")) (tCons (tTup (tCons (tTup (tCons (tTup (tCons (tVar 12) (tCons (tC (.bl true)) tNil))) tNil)) tNil)) tNil))))) [12]) tNil)) (tTup (tCons (tTup (tCons (tC (.str "swap")) (tCons (tC (.str "ann")) (tCons (tC (.str "bob")) (tCons (tVar 10) tNil))))) tNil))) (gName 8)) (tSeq (tAsg (tOp (rCatA K) (tVar 8) (tTup (tCons (tTup (tCons (tC (.str "give")) (tCons (tC (.str "bob")) (tCons (tC (.str "cy")) (tCons (tTup (tCons (tTup (tCons (tTup (tCons (tC (.str "a")) (tCons (tC (.bl true)) tNil))) (tCons (tTup (tCons (tC (.str "e")) (tCons (tC (.bl false)) tNil))) tNil))) tNil)) tNil))))) (tCons (tTup (tCons (tC (.str "vest")) (tCons (tC (.str "ann")) (tCons (tTup (tCons (tTup (tCons (tTup (tCons (tC (.str "b")) (tCons (tC (.bl true)) tNil))) (tCons (tTup (tCons (tC (.str "c")) (tCons (tC (.bl true)) tNil))) tNil))) tNil)) tNil)))) tNil)))) (gName 8)) (tSeq (tAsg (tOp (rCatA K) (tVar 8) (tTup (tCons (tTup (tCons (tC (.str "end")) (tCons (tVar 10) (tCons (tTup tNil) tNil)))) (tCons (tTup (tCons (tC (.str "yield")) (tCons (tC (.str "p")) (tCons (tC (.str "q")) (tCons (tVar 10) tNil))))) (tCons (tTup (tCons (tC (.str "lift")) (tCons (tC (.str "p")) (tCons (tVar 10) tNil)))) (tCons (tOp (rIx K) (tVar 8) (tC (.int 5))) (tCons (tOp (rIx K) (tVar 8) (tC (.int 4))) tNil))))))) (gName 8)) (tSeq (tAsg (tTup (tCons (tTup (tCons (tTup tNil) (tCons (tC (.int 1)) (tCons (tC (.str "ann")) tNil)))) (tCons (tTup (tCons (tTup (tCons (tC (.str "a")) (tCons (tC (.str "b")) tNil))) (tCons (tC (.int 2)) (tCons (tC (.str "ann")) tNil)))) (tCons (tTup (tCons (tTup (tCons (tC (.str "c")) tNil)) (tCons (tOp (rI CPow fun i j => .int (i ^ j.toNat)) (tC (.int 10)) (tC (.int 30))) (tCons (tC (.str "bob")) tNil)))) (tCons (tTup (tCons (tTup (tCons (tC (.str "a")) (tCons (tC (.str "e")) tNil))) (tCons (tC (.int 1)) (tCons (tC (.str "ann")) tNil)))) tNil))))) (gName 9)) (tSeq (tAsg (tOp (rCatA K) (tVar 9) (tTup (tCons (tTup (tCons (tTup (tCons (tC (.str "d")) tNil)) (tCons (tC (.int 1)) (tCons (tC (.str "ann")) tNil)))) (tCons (tTup (tCons (tTup (tCons (tC (.str "a")) (tCons (tC (.str "b")) (tCons (tC (.str "c")) (tCons (tC (.str "d")) (tCons (tC (.str "e")) tNil)))))) (tCons (tC (.int 9)) (tCons (tC (.str "zz")) tNil)))) tNil)))) (gName 9)) (tRet (tAndV (tCall sp_law_case_right [] E0 (tCons (tVar 8) (tCons (tVar 9) tNil))) (tAndV (tCall sp_law_case_right [] E0 (tCons (tVar 8) (tCons (tSl (rSlA K) (tVar 9) tNoPart (tPart (tC (.int 5)))) tNil))) (tCall sp_law_case_right [] E0 (tCons (tVar 1) (tCons (tOp (rIx K) (tVar 2) (tC (.int 0))) tNil)))))))))))))))))))))
theorem ps_law_more_right {P : Program} {w : World} {K : PySem.W.Frag} {mg : Str → Option Value} {base : Heap} {k : Nat} {sp_law_case_right : Sp} {sp_law_same : Sp} {sp_wholes_of : Sp} {sp_owners_in : Sp} {sp_let_wholes : Sp} {sp_played : Sp} {sp_law_heard : Sp} (g : G0 K mg) (D_law_case_right : Df P w K mg base CX0 k "_law_case_right" ["_law_deeds_so", "_law_world_so"] sp_law_case_right) (D_law_same : Df P w K mg base CX0 k "_law_same" ["_law_got", "_law_due"] sp_law_same) (D_wholes_of : Df P w K mg base CX0 k "wholes_of" ["history"] sp_wholes_of) (D_owners_in : Df P w K mg base CX0 k "owners_in" ["world", "history"] sp_owners_in) (D_let_wholes : Df P w K mg base CX0 k "let_wholes" ["world", "history"] sp_let_wholes) (D_played : Df P w K mg base (L2.CX P w) k "played" ["history", "guess"] sp_played) (D_law_heard : Df P w K mg base CX0 k "_law_heard" ["_law_deeds_so", "_law_lot_so"] sp_law_heard) (A_wholes_of : At K mg "wholes_of" 15) (A_owners_in : At K mg "owners_in" 22) (A_let_wholes : At K mg "let_wholes" 21) (A_played : At K mg "played" 17) {f : Addr} {cdv : Value} {A : Around} {outer : List Env} {s : Shared} {H : Hp} {E : XK} (hr : Room k (A.deeper (envOfC "_law_more_right" (defScope (top 48)) s.heap.objs.size f cdv))) : PSs (cxOf CX0 P w K mg base ["_law_book_so", "_law_more_so", "_law_worlds_so", "_law_odd_so", "_law_half_so", "_law_got", "_law_west_so", "_law_due", "_law_wide_so", "_law_full_so", "_law_all_so", "_law_own", "_law_tag"] "_law_more_right" (defScope (top 48)) f cdv A outer s H E).nox (defBody (top 48)) (t_law_more_right K sp_law_case_right sp_law_same sp_wholes_of sp_owners_in sp_let_wholes sp_played sp_law_heard) := by
  unfold t_law_more_right
  exact (by exact pss_cons (by exact ps_par3 (i := 5) (j := 7) (l := 10) rfl sc_law_more_right.nd rfl rfl rfl (by decide) (by decide) (by decide) rfl rfl rfl (by exact pa_cons (by exact pe_lst pa_nil) (by exact pa_cons (by exact pe_lst pa_nil) (by exact pa_cons (by exact pe_tup (by exact pa_cons (by exact pe_tup pa_nil) pa_nil)) pa_nil))) (by rfl)) (by exact pss_cons (by exact ps_set (i := 3) sc_law_more_right.nd rfl (Or.inl rfl) (by exact pe_lst (by exact pa_cons (by exact pe_tup (by exact pa_cons pe_int pa_nil)) (by exact pa_cons (by exact pe_tup (by exact pa_cons pe_int (by exact pa_cons pe_int (by exact pa_cons pe_int pa_nil)))) (by exact pa_cons (by exact pe_tup (by exact pa_cons pe_int (by exact pa_cons pe_int pa_nil))) (by exact pa_cons (by exact pe_tup (by exact pa_cons pe_int pa_nil)) (by exact pa_cons (by exact pe_tup (by exact pa_cons (by exact pe_un un_neg pe_int) pa_nil)) (by exact pa_cons (by exact pe_tup (by exact pa_cons pe_int (by exact pa_cons (by exact pe_op op_pow pe_int pe_int) pa_nil))) (by exact pa_cons (by exact pe_tup (by exact pa_cons (by exact pe_un un_neg pe_int) (by exact pa_cons pe_int (by exact pa_cons pe_int pa_nil)))) pa_nil))))))))) (by exact pss_cons (by exact ps_expr (by exact pe_bm PySem.F.plainAttrs_list PySem.F.slot_list_append PySem.F.type_list_append mt_append (by exact pv 5) (by exact pa_cons (by exact pe_lc (own := [("_law_own", 11)]) (wi := (iSeq K (tVar 3))) (g := (gName 11)) (tt := tYes) (te := (tCall sp_law_heard [] E0 (tCons (tVar 0) (tCons (tVar 11) tNil)))) rfl sc_law_more_right.nd (by exact pi_seq (by exact pv 3)) (blkOk_by (N := ["_law_book_so", "_law_more_so", "_law_worlds_so", "_law_odd_so", "_law_half_so", "_law_got", "_law_west_so", "_law_due", "_law_wide_so", "_law_full_so", "_law_all_so", "_law_own", "_law_tag"]) (sc := defScope (top 48)) (by decide +kernel)) (fun _ _ _ _ _ => (by exact pg_name (i := 11) sc_law_more_right.nd rfl (Or.inl rfl))) (fun _ _ _ _ _ => pts_nil) (fun _ _ _ _ _ => (by exact pe_df D_law_heard hr pass0 (by exact pa_cons (by exact pv 0) (by exact pa_cons (by exact pv 11) pa_nil))))) pa_nil))) (by exact pss_cons (by exact ps_expr (by exact pe_bm PySem.F.plainAttrs_list PySem.F.slot_list_append PySem.F.type_list_append mt_append (by exact pv 7) (by exact pa_cons (by exact pe_lst (by exact pa_cons (by exact pe_lst (by exact pa_cons pe_int (by exact pa_cons pe_bl pa_nil))) (by exact pa_cons (by exact pe_lst (by exact pa_cons pe_int (by exact pa_cons pe_bl pa_nil))) (by exact pa_cons (by exact pe_lst (by exact pa_cons pe_int (by exact pa_cons pe_bl pa_nil))) (by exact pa_cons (by exact pe_lst (by exact pa_cons pe_int (by exact pa_cons pe_bl pa_nil))) (by exact pa_cons (by exact pe_lst (by exact pa_cons (by exact pe_un un_neg pe_int) (by exact pa_cons pe_bl pa_nil))) (by exact pa_cons (by exact pe_lst (by exact pa_cons (by exact pe_op op_pow pe_int pe_int) (by exact pa_cons pe_bl pa_nil))) (by exact pa_cons (by exact pe_lst (by exact pa_cons (by exact pe_un un_neg pe_int) (by exact pa_cons pe_bl pa_nil))) pa_nil)))))))) pa_nil))) (by exact pss_cons (by exact ps_set (i := 4) sc_law_more_right.nd rfl (Or.inl rfl) (by exact pe_lst (by exact pa_cons (by exact pe_lst (by exact pa_cons pe_str (by exact pa_cons pe_str (by exact pa_cons (by exact pe_lst (by exact pa_cons (by exact pe_lst (by exact pa_cons (by exact pe_lst (by exact pa_cons pe_str (by exact pa_cons pe_bl pa_nil))) pa_nil)) pa_nil)) pa_nil)))) (by exact pa_cons (by exact pe_tup (by exact pa_cons pe_str (by exact pa_cons pe_str (by exact pa_cons pe_str (by exact pa_cons (by exact pe_tup (by exact pa_cons (by exact pe_tup (by exact pa_cons (by exact pe_tup (by exact pa_cons pe_str (by exact pa_cons pe_bl pa_nil))) pa_nil)) pa_nil)) pa_nil))))) pa_nil)))) (by exact pss_cons (by exact ps_set (i := 5) sc_law_more_right.nd rfl (Or.inl rfl) (by exact pe_op op_cat (by exact pv 5) (by exact pe_lst (by exact pa_cons (by exact pe_dfK (ks := ["guess", "history"]) A_played D_played hr passL (by exact pk_cons (by exact pe_lst (by exact pa_cons pe_int pa_nil)) (by exact pk_cons (by exact pv 4) pk_nil)) (fun _ _ _ _ _ _ ws hl => match ws, hl with | [_, _], _ => rfl)) (by exact pa_cons (by exact pe_dfK (ks := ["history", "world"]) A_let_wholes D_let_wholes hr pass0 (by exact pk_cons (by exact pv 4) (by exact pk_cons (by exact pe_lst (by exact pa_cons (by exact pe_lst (by exact pa_cons (by exact pe_lst (by exact pa_cons pe_str pa_nil)) (by exact pa_cons pe_int (by exact pa_cons pe_str pa_nil)))) pa_nil)) pk_nil)) (fun _ _ _ _ _ _ ws hl => match ws, hl with | [_, _], _ => rfl)) pa_nil))))) (by exact pss_cons (by exact ps_set (i := 5) sc_law_more_right.nd rfl (Or.inl rfl) (by exact pe_op op_cat (by exact pv 5) (by exact pe_lst (by exact pa_cons (by exact pe_dfK (ks := ["history", "world"]) A_owners_in D_owners_in hr pass0 (by exact pk_cons (by exact pv 4) (by exact pk_cons (by exact pe_tup (by exact pa_cons (by exact pe_tup (by exact pa_cons (by exact pe_tup pa_nil) (by exact pa_cons pe_int (by exact pa_cons pe_str pa_nil)))) (by exact pa_cons (by exact pe_lst (by exact pa_cons (by exact pe_lst (by exact pa_cons pe_str pa_nil)) (by exact pa_cons pe_int (by exact pa_cons pe_str pa_nil)))) pa_nil))) pk_nil)) (fun _ _ _ _ _ _ ws hl => match ws, hl with | [_, _], _ => rfl)) (by exact pa_cons (by exact pe_dfK (ks := ["history"]) A_wholes_of D_wholes_of hr pass0 (by exact pk_cons (by exact pv 4) pk_nil) (fun _ _ _ _ _ _ ws hl => match ws, hl with | [_], _ => rfl)) pa_nil))))) (by exact pss_cons (by exact ps_set (i := 6) sc_law_more_right.nd rfl (Or.inl rfl) (by exact pe_tup (by exact pa_cons (by exact pe_tup (by exact pa_cons (by exact pe_tup (by exact pa_cons pe_str (by exact pa_cons pe_bl pa_nil))) pa_nil)) pa_nil))) (by exact pss_cons (by exact ps_set (i := 7) sc_law_more_right.nd rfl (Or.inl rfl) (by exact pe_op op_cat (by exact pv 7) (by exact pe_lst (by exact pa_cons (by exact pe_tup (by exact pa_cons (by exact pe_tup (by exact pa_cons pe_str (by exact pa_cons pe_str (by exact pa_cons (by exact pv 6) pa_nil)))) (by exact pa_cons (by exact pe_tup (by exact pa_cons pe_str (by exact pa_cons pe_str (by exact pa_cons pe_str (by exact pa_cons (by exact pv 6) pa_nil))))) pa_nil))) (by exact pa_cons (by exact pe_tup (by exact pa_cons pe_int pa_nil)) (by exact pa_cons (by exact pe_tup (by exact pa_cons pe_str (by exact pa_cons pe_str pa_nil))) (by exact pa_cons (by exact pe_tup (by exact pa_cons pe_int pa_nil)) pa_nil))))))) (by exact pss_cons (by exact ps_if (by exact pt_not (by exact pt_val (by exact pe_df D_law_same hr pass0 (by exact pa_cons (by exact pv 5) (by exact pa_cons (by exact pv 7) pa_nil))))) (by exact pss_one (by exact ps_ret pe_bl)) pss_nil) (by exact pss_cons (by exact ps_set (i := 8) sc_law_more_right.nd rfl (Or.inl rfl) (by exact pe_op op_catA (by exact pe_callTy cr_tupleOf (by rfl) g.tuple (by decide +kernel) (by exact pa_cons (by exact pe_lc (own := [("_law_tag", 12)]) (wi := (iStr (tC (.str "abcd")))) (g := (gName 12)) (tt := tYes) (te := (tTup (tCons (tC (.str "whole")) (tCons (tC (.str "ann")) (tCons (tC (.str "bob")) (tCons (tTup (tCons (tTup (tCons (tTup (tCons (tVar 12) (tCons (tC (.bl true)) tNil))) tNil)) tNil)) tNil)))))) rfl sc_law_more_right.nd (by exact pi_str pe_str) (blkOk_by (N := ["_law_book_so", "_law_more_so", "_law_worlds_so", "_law_odd_so", "_law_half_so", "_law_got", "_law_west_so", "_law_due", "_law_wide_so", "_law_full_so", "_law_all_so", "_law_own", "_law_tag"]) (sc := defScope (top 48)) (by decide +kernel)) (fun _ _ _ _ _ => (by exact pg_name (i := 12) sc_law_more_right.nd rfl (Or.inl rfl))) (fun _ _ _ _ _ => pts_nil) (fun _ _ _ _ _ => (by exact pe_tup (by exact pa_cons pe_str (by exact pa_cons pe_str (by exact pa_cons pe_str (by exact pa_cons (by exact pe_tup (by exact pa_cons (by exact pe_tup (by exact pa_cons (by exact pe_tup (by exact pa_cons (by exact pv 12) (by exact pa_cons pe_bl pa_nil))) pa_nil)) pa_nil)) pa_nil))))))) pa_nil)) (by exact pe_tup (by exact pa_cons (by exact pe_tup (by exact pa_cons pe_str (by exact pa_cons pe_str (by exact pa_cons pe_str (by exact pa_cons (by exact pv 10) pa_nil))))) pa_nil)))) (by exact pss_cons (by exact ps_set (i := 8) sc_law_more_right.nd rfl (Or.inl rfl) (by exact pe_op op_catA (by exact pv 8) (by exact pe_tup (by exact pa_cons (by exact pe_tup (by exact pa_cons pe_str (by exact pa_cons pe_str (by exact pa_cons pe_str (by exact pa_cons (by exact pe_tup (by exact pa_cons (by exact pe_tup (by exact pa_cons (by exact pe_tup (by exact pa_cons pe_str (by exact pa_cons pe_bl pa_nil))) (by exact pa_cons (by exact pe_tup (by exact pa_cons pe_str (by exact pa_cons pe_bl pa_nil))) pa_nil))) pa_nil)) pa_nil))))) (by exact pa_cons (by exact pe_tup (by exact pa_cons pe_str (by exact pa_cons pe_str (by exact pa_cons (by exact pe_tup (by exact pa_cons (by exact pe_tup (by exact pa_cons (by exact pe_tup (by exact pa_cons pe_str (by exact pa_cons pe_bl pa_nil))) (by exact pa_cons (by exact pe_tup (by exact pa_cons pe_str (by exact pa_cons pe_bl pa_nil))) pa_nil))) pa_nil)) pa_nil)))) pa_nil))))) (by exact pss_cons (by exact ps_set (i := 8) sc_law_more_right.nd rfl (Or.inl rfl) (by exact pe_op op_catA (by exact pv 8) (by exact pe_tup (by exact pa_cons (by exact pe_tup (by exact pa_cons pe_str (by exact pa_cons (by exact pv 10) (by exact pa_cons (by exact pe_tup pa_nil) pa_nil)))) (by exact pa_cons (by exact pe_tup (by exact pa_cons pe_str (by exact pa_cons pe_str (by exact pa_cons pe_str (by exact pa_cons (by exact pv 10) pa_nil))))) (by exact pa_cons (by exact pe_tup (by exact pa_cons pe_str (by exact pa_cons pe_str (by exact pa_cons (by exact pv 10) pa_nil)))) (by exact pa_cons (by exact pe_ix ix_seq (by exact pv 8) pe_int (fun _ _ => rfl)) (by exact pa_cons (by exact pe_ix ix_seq (by exact pv 8) pe_int (fun _ _ => rfl)) pa_nil)))))))) (by exact pss_cons (by exact ps_set (i := 9) sc_law_more_right.nd rfl (Or.inl rfl) (by exact pe_tup (by exact pa_cons (by exact pe_tup (by exact pa_cons (by exact pe_tup pa_nil) (by exact pa_cons pe_int (by exact pa_cons pe_str pa_nil)))) (by exact pa_cons (by exact pe_tup (by exact pa_cons (by exact pe_tup (by exact pa_cons pe_str (by exact pa_cons pe_str pa_nil))) (by exact pa_cons pe_int (by exact pa_cons pe_str pa_nil)))) (by exact pa_cons (by exact pe_tup (by exact pa_cons (by exact pe_tup (by exact pa_cons pe_str pa_nil)) (by exact pa_cons (by exact pe_op op_pow pe_int pe_int) (by exact pa_cons pe_str pa_nil)))) (by exact pa_cons (by exact pe_tup (by exact pa_cons (by exact pe_tup (by exact pa_cons pe_str (by exact pa_cons pe_str pa_nil))) (by exact pa_cons pe_int (by exact pa_cons pe_str pa_nil)))) pa_nil)))))) (by exact pss_cons (by exact ps_set (i := 9) sc_law_more_right.nd rfl (Or.inl rfl) (by exact pe_op op_catA (by exact pv 9) (by exact pe_tup (by exact pa_cons (by exact pe_tup (by exact pa_cons (by exact pe_tup (by exact pa_cons pe_str pa_nil)) (by exact pa_cons pe_int (by exact pa_cons pe_str pa_nil)))) (by exact pa_cons (by exact pe_tup (by exact pa_cons (by exact pe_tup (by exact pa_cons pe_str (by exact pa_cons pe_str (by exact pa_cons pe_str (by exact pa_cons pe_str (by exact pa_cons pe_str pa_nil)))))) (by exact pa_cons pe_int (by exact pa_cons pe_str pa_nil)))) pa_nil))))) (by exact pss_one (by exact ps_ret (by exact pe_and (by exact pe_df D_law_case_right hr pass0 (by exact pa_cons (by exact pv 8) (by exact pa_cons (by exact pv 9) pa_nil))) (by exact pe_and (by exact pe_df D_law_case_right hr pass0 (by exact pa_cons (by exact pv 8) (by exact pa_cons (by exact pe_slice sl_tupA (by exact pv 9) po_none (by exact po_some pe_int)) pa_nil))) (by exact pe_one (by exact pe_df D_law_case_right hr pass0 (by exact pa_cons (by exact pv 1) (by exact pa_cons (by exact pe_ix ix_seq (by exact pv 2) pe_int (fun _ _ => rfl)) pa_nil)))))))))))))))))))))))
end K30
set_option Elab.async false
set_option linter.all false
set_option maxRecDepth 100000
set_option maxHeartbeats 2000000
namespace K30
open PySem PySem.Spec PyProof.Rows L2
/-! ### _law_more_right -/
theorem cpow30 : CPow 10 30 := ⟨by decide, by decide, by decide⟩
abbrev big30 : Int := 10 ^ (30 : Int).toNat
theorem Holds.swap {B : Bx} {rho : List Sl} {x y : Addr × List PyData} {mu : List (Addr × List PyData)} {T : Hp → Prop} {n : Nat} {σ : L2.St} {H : Hp} (h : Holds B rho (x :: y :: mu) T n σ H) : Holds B rho (y :: x :: mu) T n σ H := by
  obtain ⟨C, a, b⟩ := h
  refine ⟨C, ⟨a.sub, a.len, a.env, fun m hm => a.hot m ?_, ?_, a.box, a.old, a.keep⟩, b⟩
  · rcases List.mem_cons.mp hm with e | e
    · exact List.mem_cons_of_mem _ (List.mem_cons.mpr (.inl e))
    · rcases List.mem_cons.mp e with e | e
      · exact List.mem_cons.mpr (.inl e)
      · exact List.mem_cons_of_mem _ (List.mem_cons_of_mem _ e)
  · have z := a.nd
    simp only [List.map_cons, List.nodup_cons, List.mem_cons, not_or] at z ⊢
    obtain ⟨⟨h1, h2⟩, h3, h4⟩ := z
    exact ⟨⟨fun e => h1 e.symm, h3⟩, h2, h4⟩
def oddL : List (List Int × Int) := [([1], 1), ([0, 1, 2], 0), ([0, 2], 0), ([3], 3), ([-1], -1), ([2, big30], big30), ([-1, 2, 7], -1)]
abbrev eOdd (x : List Int × Int) : PyData := .tuple (x.1.map .int)
abbrev eHeard (x : List Int × Int) : PyData := .list [.int x.2, .bool true]
def halfD : PyData := .list [.list [.str "vest", .str "ann", .list [.list [.list [.str "w", .bool true]]]], .tuple [.str "whole", .str "ann", .str "bob", eCut cutW]]
def halfH : List Deed := [.one "vest" "ann" cutW, .four "whole" "ann" "bob" cutW]
def softX : PyData := .list [.list [.list [.str "w"], .int 2, .str "x"]]
def softX' : List Point := [⟨["w"], 2, "x"⟩]
def softY : PyData := .tuple [.tuple [.tuple [], .int 2, .str "x"], .list [.list [.str "w"], .int 2, .str "y"]]
def softY' : List Point := [⟨[], 2, "x"⟩, ⟨["w"], 2, "y"⟩]
def wide1 : List Deed := [.four "whole" "ann" "bob" [[("a", true)]], .four "whole" "ann" "bob" [[("b", true)]], .four "whole" "ann" "bob" [[("c", true)]], .four "whole" "ann" "bob" [[("d", true)]], .four "swap" "ann" "bob" cutAll]
def wide2 : List Deed := wide1 ++ [.four "give" "bob" "cy" [[("a", true), ("e", false)]], .one "vest" "ann" [[("b", true), ("c", true)]]]
def wide3 : List Deed := wide2 ++ [.two "end" cutAll [], .four "yield" "p" "q" cutAll, .one "lift" "p" cutAll, .four "give" "bob" "cy" [[("a", true), ("e", false)]], .four "swap" "ann" "bob" cutAll]
def full1 : List Point := [⟨[], 1, "ann"⟩, ⟨["a", "b"], 2, "ann"⟩, ⟨["c"], big30, "bob"⟩, ⟨["a", "e"], 1, "ann"⟩]
def full2 : List Point := full1 ++ [⟨["d"], 1, "ann"⟩, ⟨["a", "b", "c", "d", "e"], 9, "zz"⟩]
def full5 : List Point := full1 ++ [⟨["d"], 1, "ann"⟩]
theorem okW3 : (CaseIn.mk wide3 full2).Ok := ⟨by decide, by decide +kernel, by decide, by decide +kernel, by decide +kernel⟩
theorem okW5 : (CaseIn.mk wide3 full5).Ok := ⟨by decide, by decide +kernel, by decide, by decide +kernel, by decide +kernel⟩
theorem okM1 : (CaseIn.mk moreB world1).Ok := ⟨by decide, by decide +kernel, by decide, by decide +kernel, by decide +kernel⟩
theorem oddOk (x : List Int × Int) (hx : x ∈ oddL) : (PlIn.mk (eBook bookF) (eOdd x) bookF x.1).Ok ∧ (PlIn.mk (eBook bookF) (eOdd x) bookF x.1).bad = some x.2 := by
  have wb := okBook.wb
  have h : ∀ x ∈ oddL, (x.1.length ≤ 1000 ∧ (x.1.find? fun i => !((wholesM bookF).map fun n : Nat => (n : Int)).contains i) = some x.2) := by decide +kernel
  exact ⟨⟨wb.dh, wb.sh, wb.lh, wb.ok, .inr rfl, (h x hx).1⟩, (h x hx).2⟩
theorem okHalf (gd : PyData) (gl : List Int) (h : SeqD gd (gl.map .int)) (l : gl.length ≤ 1000) : (PlIn.mk halfD gd halfH gl).Ok := ⟨by show okD dep halfD = true; kernel_rfl, by show tupD halfD = eBook halfH; kernel_rfl, by show halfH.length ≤ 999; decide, by show ∀ d ∈ halfH, d.ok = true; decide +kernel, h, l⟩
theorem okHX : WB.Ok ⟨softX, halfD, softX', halfH⟩ := ⟨by show okD dep softX = true; kernel_rfl, by show okD dep halfD = true; kernel_rfl, by show tupD softX = eWorld softX'; kernel_rfl, by show tupD halfD = eBook halfH; kernel_rfl, by show softX'.length ≤ 1000; decide, by show halfH.length ≤ 999; decide, by show ∀ d ∈ halfH, d.ok = true; decide +kernel⟩
theorem okHY : WB.Ok ⟨softY, halfD, softY', halfH⟩ := ⟨by show okD dep softY = true; kernel_rfl, by show okD dep halfD = true; kernel_rfl, by show tupD softY = eWorld softY'; kernel_rfl, by show tupD halfD = eBook halfH; kernel_rfl, by show softY'.length ≤ 1000; decide, by show halfH.length ≤ 999; decide, by show ∀ d ∈ halfH, d.ok = true; decide +kernel⟩
/-- the slots -/
abbrev rM (s3 s4 s5 s6 s7 s8 s9 s10 s11 s12 : Sl) : List Sl := [.dat (eBook bookF), .dat (eBook moreB), .dat (.list [eWorld world1, eWorld world2, eWorld world3]), s3, s4, s5, s6, s7, s8, s9, s10, s11, s12]
section
variable {P : Program} {w : World} {K : PySem.W.Frag} {mg : Str → Option Value} {base : Heap} {k : Nat}
theorem df_law_more_right {Cn : Addr} (A : At K mg "_law_more_right" 48) (g : G0 K mg) (D1 : Df P w K mg base CX0 k "_law_case_right" ["_law_deeds_so", "_law_world_so"] (sp_law_case_right K)) (D2 : Df P w K mg base CX0 k "_law_same" ["_law_got", "_law_due"] (sp_law_same K dep)) (D3 : Df P w K mg base CX0 k "wholes_of" ["history"] (sp_wholes_of K))
    (D4 : Df P w K mg base CX0 k "owners_in" ["world", "history"] (sp_owners_in K)) (D5 : Df P w K mg base CX0 k "let_wholes" ["world", "history"] (sp_let_wholes K)) (D6 : Df P w K mg base (L2.CX P w) k "played" ["history", "guess"] (sp_played K Cn)) (D7 : Df P w K mg base CX0 k "_law_heard" ["_law_deeds_so", "_law_lot_so"] (sp_law_heard K))
    (A3 : At K mg "wholes_of" 15) (A4 : At K mg "owners_in" 22) (A5 : At K mg "let_wholes" 21) (A6 : At K mg "played" 17) :
    Df P w K mg base CX0 (k + 1) "_law_more_right" ["_law_book_so", "_law_more_so", "_law_worlds_so"] (sp_law_more_right K) := by
  refine df_pure A sc_law_more_right (fun _ => rfl) (by decide) (fun _ _ _ _ _ _ us hl => match us, hl with | [_, _, _], _ => rfl) fun f cdv A outer s H E C ns hr ha => ⟨t_law_more_right K _ _ _ _ _ _ _, ps_law_more_right g D1 D2 D3 D4 D5 D6 D7 A3 A4 A5 A6 hr, fun D σ q hh => ?_⟩
  obtain ⟨B, hB⟩ : ∃ B : Bx, B = ⟨K, none, C, H⟩ := ⟨_, rfl⟩
  have eK : K = B.K := by rw [hB]
  rw [← hB] at hh q
  clear hB
  subst eK
  have u : Up fun _ => True := Up.tt
  have hh : Holds B (rM .emp .emp .emp .emp .emp .emp .emp .emp .emp .emp) [] (fun _ => True) 0 σ H := hh
  unfold t_law_more_right
  -- got, due, all
  refine s_seq ⟨Nat.zero_le _, fun p5 hp5 => ⟨Nat.zero_le _, fun p7 hp7 => ?_⟩⟩
  have h1 := (hh.hotNew hp5).hotNew hp7
  refine ((ed_fin (ed_tup (ds := [(.tuple [])]) (ea_cons (ed_tup (ds := []) ea_nil) ea_nil)) rfl rfl) : EvD B 0 _ _ (.dat (eCut cutAll))) _ _ 0 σ _ u h1 _ fun v H1 s e h2 => ⟨_, _, _, rfl, ?_⟩
  have e' : s = .dat (eCut cutAll) := e
  subst e'
  have h3 := Holds.set (T := AndV B.K (fun _ => True) v (.dat (eCut cutAll))) (i := 5) (s := .adr p5) (v := .ref p5) (h2.imp fun C z => ⟨z, rfl⟩)
  have h4 := Holds.set (T := AndV B.K (fun _ => True) v (.dat (eCut cutAll))) (i := 7) (s := .adr p7) (v := .ref p7) (h3.imp fun C z => ⟨z, rfl⟩)
  have h5 := Holds.set (i := 10) h4
  have h5 : Holds B (rM .emp .emp (.adr p5) .emp (.adr p7) .emp .emp (.dat (eCut cutAll)) .emp .emp) [(p7, []), (p5, [])] (fun _ => True) 0 _ H1 := h5
  generalize ((σ.set 5 (some (V.ref p5))).set 7 (some (V.ref p7))).set 10 (some v) = σ1 at h5 ⊢
  refine seq_go ?_
  apply p_asgN (s := .dat (.list (oddL.map eOdd))) h5 u
  case h => exact (ed_fin (ed_lst (ds := [(.tuple [.int 1]), (.tuple [.int 0, .int 1, .int 2]), (.tuple [.int 0, .int 2]), (.tuple [.int 3]), (.tuple [.int (-1)]), (.tuple [.int 2, .int (10 ^ (30 : Int).toNat)]), (.tuple [.int (-1), .int 2, .int 7])]) (ea_cons (ed_tup (ds := [.int 1]) (ea_cons ed_int ea_nil)) (ea_cons (ed_tup (ds := [.int 0, .int 1, .int 2]) (ea_cons ed_int (ea_cons ed_int (ea_cons ed_int ea_nil)))) (ea_cons (ed_tup (ds := [.int 0, .int 2]) (ea_cons ed_int (ea_cons ed_int ea_nil))) (ea_cons (ed_tup (ds := [.int 3]) (ea_cons ed_int ea_nil)) (ea_cons (ed_tup (ds := [.int (-1)]) (ea_cons (ed_neg ed_int) ea_nil)) (ea_cons (ed_tup (ds := [.int 2, .int (10 ^ (30 : Int).toNat)]) (ea_cons ed_int (ea_cons (ed_op (c1 := 0) (c2 := 0) ed_int ed_int (os_pow cpow30)) ea_nil))) (ea_cons (ed_tup (ds := [.int (-1), .int 2, .int 7]) (ea_cons (ed_neg ed_int) (ea_cons ed_int (ea_cons ed_int ea_nil)))) ea_nil)))))))) rfl rfl)
  case hc => rfl
  case k =>
  intro σ2 H2 h6
  have h6 : Holds B (rM (.dat (.list (oddL.map eOdd))) .emp (.adr p5) .emp (.adr p7) .emp .emp (.dat (eCut cutAll)) .emp .emp) [(p7, []), (p5, [])] (fun _ => True) 0 σ2 H2 := h6
  refine s_seq (s_app (n := 0) (c := 0) (S := fun z => z = .dat (.list (oddL.map eHeard))) h6.swap u rfl ?_ (by decide) fun dd σ3 H3 e h7 => ?_)
  · refine EvR.imp (S := fun z => z = .dat (.list (oddL.map eHeard))) ?_ fun s e => ⟨_, e, e⟩
    exact ed_lc1 oddL eOdd (fun x => rM (.dat (.list (oddL.map eOdd))) .emp (.adr p5) .emp (.adr p7) .emp .emp (.dat (eCut cutAll)) (.dat (eOdd x)) .emp) eHeard (ew_seq (ed_var rfl) (.inl rfl)) (fun _ _ => eg_name) (fun _ _ => et_yes)
      (fun x hx => ed_fin (c1 := 0) (ed_call (f := fun a : PlIn × Int => .list [.int a.2, .bool true]) (PlIn.mk (eBook bookF) (eOdd x) bookF x.1, x.2) (ea_cons (c1 := 0) (c2 := 0) (ed_var rfl) (ea_one (ed_var rfl))) (oddOk x hx)) rfl rfl) (by decide)
  have e := Sl.dat.inj e
  subst e
  have h8 := (h7.freeze u).reslot (i := 5) rfl
  have h8 : Holds B (rM (.dat (.list (oddL.map eOdd))) .emp (.dat (.list [.list (oddL.map eHeard)])) .emp (.adr p7) .emp .emp (.dat (eCut cutAll)) .emp .emp) [(p7, [])] (fun _ => True) 0 σ3 H3 := h8
  refine seq_go ?_
  refine s_seq (s_app (n := 0) (c := 0) (S := fun z => z = .dat (.list (oddL.map eHeard))) h8 u rfl ?_ (by decide) fun dd σ4 H4 e h9 => ?_)
  · refine EvR.imp (S := fun z => z = .dat (.list (oddL.map eHeard))) ?_ fun s e => ⟨_, e, e⟩
    exact (ed_fin (ed_lst (ds := [(.list [.int 1, .bool true]), (.list [.int 0, .bool true]), (.list [.int 0, .bool true]), (.list [.int 3, .bool true]), (.list [.int (-1), .bool true]), (.list [.int (10 ^ (30 : Int).toNat), .bool true]), (.list [.int (-1), .bool true])]) (ea_cons (ed_lst (ds := [.int 1, .bool true]) (ea_cons ed_int (ea_cons ed_bl ea_nil))) (ea_cons (ed_lst (ds := [.int 0, .bool true]) (ea_cons ed_int (ea_cons ed_bl ea_nil))) (ea_cons (ed_lst (ds := [.int 0, .bool true]) (ea_cons ed_int (ea_cons ed_bl ea_nil))) (ea_cons (ed_lst (ds := [.int 3, .bool true]) (ea_cons ed_int (ea_cons ed_bl ea_nil))) (ea_cons (ed_lst (ds := [.int (-1), .bool true]) (ea_cons (ed_neg ed_int) (ea_cons ed_bl ea_nil))) (ea_cons (ed_lst (ds := [.int (10 ^ (30 : Int).toNat), .bool true]) (ea_cons (ed_op (c1 := 0) (c2 := 0) ed_int ed_int (os_pow cpow30)) (ea_cons ed_bl ea_nil))) (ea_cons (ed_lst (ds := [.int (-1), .bool true]) (ea_cons (ed_neg ed_int) (ea_cons ed_bl ea_nil))) ea_nil)))))))) rfl rfl)
  have e := Sl.dat.inj e
  subst e
  obtain ⟨x0, hx0⟩ : ∃ x0 : PyData, x0 = .list (oddL.map eHeard) := ⟨_, rfl⟩
  have h10 := (h9.freeze u).reslot (i := 7) rfl
  rw [List.nil_append, ← hx0] at h10
  obtain ⟨xo, hxo⟩ : ∃ xo : PyData, xo = .list (oddL.map eOdd) := ⟨_, rfl⟩
  have h10 : Holds B (rM (.dat xo) .emp (.dat (.list [x0])) .emp (.dat (.list [x0])) .emp .emp (.dat (eCut cutAll)) .emp .emp) [] (fun _ => True) 0 σ4 H4 := by
    rw [hxo, hx0] at *
    exact h10
  refine seq_go ?_
  apply p_asgN (s := .dat halfD) h10 u
  case h => exact (ed_fin (ed_lst (ds := [(.list [.str "vest", .str "ann", (.list [(.list [(.list [.str "w", .bool true])])])]), (.tuple [.str "whole", .str "ann", .str "bob", (.tuple [(.tuple [(.tuple [.str "w", .bool true])])])])]) (ea_cons (ed_lst (ds := [.str "vest", .str "ann", (.list [(.list [(.list [.str "w", .bool true])])])]) (ea_cons ed_str (ea_cons ed_str (ea_cons (ed_lst (ds := [(.list [(.list [.str "w", .bool true])])]) (ea_cons (ed_lst (ds := [(.list [.str "w", .bool true])]) (ea_cons (ed_lst (ds := [.str "w", .bool true]) (ea_cons ed_str (ea_cons ed_bl ea_nil))) ea_nil)) ea_nil)) ea_nil)))) (ea_cons (ed_tup (ds := [.str "whole", .str "ann", .str "bob", (.tuple [(.tuple [(.tuple [.str "w", .bool true])])])]) (ea_cons ed_str (ea_cons ed_str (ea_cons ed_str (ea_cons (ed_tup (ds := [(.tuple [(.tuple [.str "w", .bool true])])]) (ea_cons (ed_tup (ds := [(.tuple [.str "w", .bool true])]) (ea_cons (ed_tup (ds := [.str "w", .bool true]) (ea_cons ed_str (ea_cons ed_bl ea_nil))) ea_nil)) ea_nil)) ea_nil))))) ea_nil))) rfl rfl)
  case hc => rfl
  case k =>
  intro σ5 H5 h11
  have h11 : Holds B (rM (.dat xo) (.dat halfD) (.dat (.list [x0])) .emp (.dat (.list [x0])) .emp .emp (.dat (eCut cutAll)) .emp .emp) [] (fun _ => True) 0 σ5 H5 := h11
  obtain ⟨y1, hy1⟩ : ∃ y1 : PyData, y1 = eBook [.one "vest" "ann" cutW, .four "give" "ann" "bob" cutW] := ⟨_, rfl⟩
  obtain ⟨y2, hy2⟩ : ∃ y2 : PyData, y2 = eNats [1] := ⟨_, rfl⟩
  obtain ⟨y3, hy3⟩ : ∃ y3 : PyData, y3 = eNames ["x", "bob"] := ⟨_, rfl⟩
  apply p_asgN (s := .dat (.list [x0, y1, y2])) h11 u
  case h =>
    have c1 : EvD B 0 (tCallR 2 (sp_played B.K Cn) E0 (tCons (tLst (tCons (tC (.int 1)) tNil)) (tCons (tVar 4) tNil))) (rM (.dat xo) (.dat halfD) (.dat (.list [x0])) .emp (.dat (.list [x0])) .emp .emp (.dat (eCut cutAll)) .emp .emp) (.dat y1) :=
      ed_fin (c1 := 0) (ed_callXR (Cn := Cn) (E := E0) (enc := fun a : PlIn => [a.hd, a.gd]) (ok := PlIn.Ok) (bad := PlIn.bad) (res := fun a => eBook (leftM a.h (a.g.map Int.toNat))) (PlIn.mk halfD (.list [.int 1]) halfH [1]) (ea_cons (c1 := 0) (c2 := 0) (ed_fin (ed_lst (ds := [.int 1]) (ea_cons ed_int ea_nil)) rfl rfl) (ea_one (ed_var rfl))) (okHalf _ _ (.inl rfl) (by decide)) (by decide +kernel) rfl) rfl (by rw [hy1]; rfl)
    have c2 : EvD B 0 (tCallR 2 (sp_let_wholes B.K) E0 (tCons (tVar 4) (tCons (tLst (tCons (tLst (tCons (tLst (tCons (tC (.str "w")) tNil)) (tCons (tC (.int 2)) (tCons (tC (.str "x")) tNil)))) tNil)) tNil))) (rM (.dat xo) (.dat halfD) (.dat (.list [x0])) .emp (.dat (.list [x0])) .emp .emp (.dat (eCut cutAll)) .emp .emp) (.dat y2) :=
      ed_fin (c1 := 0) (ed_callR (f := fun a : WB => eNats (playM a.w a.h).1) ⟨softX, halfD, softX', halfH⟩ (ea_cons (c1 := 0) (c2 := 0) (ed_var rfl) (ea_one (ed_fin (ed_lst (ds := [(.list [(.list [.str "w"]), .int 2, .str "x"])]) (ea_cons (ed_lst (ds := [(.list [.str "w"]), .int 2, .str "x"]) (ea_cons (ed_lst (ds := [.str "w"]) (ea_cons ed_str ea_nil)) (ea_cons ed_int (ea_cons ed_str ea_nil)))) ea_nil)) rfl rfl))) okHX rfl) rfl (by rw [hy2, show [1] = (playM softX' halfH).1 by decide +kernel])
    exact ed_fin (c1 := 0) (ed_op (ed_var rfl) (ed_lst (ds := [y1, y2]) (ea_cons (c1 := 0) (c2 := 0) c1 (ea_one c2))) (os_cat (Nat.le_of_ble_eq_true rfl))) rfl rfl
  case hc => rfl
  case k =>
  intro σ6 H6 h12
  have h12 : Holds B (rM (.dat xo) (.dat halfD) (.dat (.list [x0, y1, y2])) .emp (.dat (.list [x0])) .emp .emp (.dat (eCut cutAll)) .emp .emp) [] (fun _ => True) 0 σ6 H6 := h12
  apply p_asgN (s := .dat (.list [x0, y1, y2, y3, y2])) h12 u
  case h =>
    have c1 : EvD B 0 (tCallR 2 (sp_owners_in B.K) E0 (tCons (tVar 4) (tCons (tTup (tCons (tTup (tCons (tTup tNil) (tCons (tC (.int 2)) (tCons (tC (.str "x")) tNil)))) (tCons (tLst (tCons (tLst (tCons (tC (.str "w")) tNil)) (tCons (tC (.int 2)) (tCons (tC (.str "y")) tNil)))) tNil))) tNil))) (rM (.dat xo) (.dat halfD) (.dat (.list [x0, y1, y2])) .emp (.dat (.list [x0])) .emp .emp (.dat (eCut cutAll)) .emp .emp) (.dat y3) :=
      ed_fin (c1 := 0) (ed_callR (f := fun a : WB => eNames (playM a.w a.h).2) ⟨softY, halfD, softY', halfH⟩ (ea_cons (c1 := 0) (c2 := 0) (ed_var rfl) (ea_one (ed_fin (ed_tup (ds := [(.tuple [(.tuple []), .int 2, .str "x"]), (.list [(.list [.str "w"]), .int 2, .str "y"])]) (ea_cons (ed_tup (ds := [(.tuple []), .int 2, .str "x"]) (ea_cons (ed_tup (ds := []) ea_nil) (ea_cons ed_int (ea_cons ed_str ea_nil)))) (ea_cons (ed_lst (ds := [(.list [.str "w"]), .int 2, .str "y"]) (ea_cons (ed_lst (ds := [.str "w"]) (ea_cons ed_str ea_nil)) (ea_cons ed_int (ea_cons ed_str ea_nil)))) ea_nil))) rfl rfl))) okHY rfl) rfl (by rw [hy3, show (["x", "bob"] : List Str) = (playM softY' halfH).2 by decide +kernel])
    have c2 : EvD B 0 (tCallR 1 (sp_wholes_of B.K) E0 (tCons (tVar 4) tNil)) (rM (.dat xo) (.dat halfD) (.dat (.list [x0, y1, y2])) .emp (.dat (.list [x0])) .emp .emp (.dat (eCut cutAll)) .emp .emp) (.dat y2) :=
      ed_fin (c1 := 0) (ed_callR (f := fun a : PyData × List Deed => eNats (wholesM a.2)) (halfD, halfH) (ea_one (ed_var rfl)) ⟨by show tupD halfD = eBook halfH; kernel_rfl, by show halfH.length ≤ 1000; decide⟩ rfl) rfl (by rw [hy2, show [1] = wholesM halfH by decide +kernel])
    exact ed_fin (c1 := 0) (ed_op (ed_var rfl) (ed_lst (ds := [y3, y2]) (ea_cons (c1 := 0) (c2 := 0) c1 (ea_one c2))) (os_cat (Nat.le_of_ble_eq_true rfl))) rfl rfl
  case hc => rfl
  case k =>
  intro σ7 H7 h13
  obtain ⟨g5, hg5⟩ : ∃ g5 : PyData, g5 = .list [x0, y1, y2, y3, y2] := ⟨_, rfl⟩
  rw [← hg5] at h13
  have h13 : Holds B (rM (.dat xo) (.dat halfD) (.dat g5) .emp (.dat (.list [x0])) .emp .emp (.dat (eCut cutAll)) .emp .emp) [] (fun _ => True) 0 σ7 H7 := h13
  apply p_asgN (s := .dat (eCut cutW)) h13 u
  case h => exact (ed_fin (ed_tup (ds := [(.tuple [(.tuple [.str "w", .bool true])])]) (ea_cons (ed_tup (ds := [(.tuple [.str "w", .bool true])]) (ea_cons (ed_tup (ds := [.str "w", .bool true]) (ea_cons ed_str (ea_cons ed_bl ea_nil))) ea_nil)) ea_nil)) rfl rfl)
  case hc => rfl
  case k =>
  intro σ8 H8 h14
  have h14 : Holds B (rM (.dat xo) (.dat halfD) (.dat g5) (.dat (eCut cutW)) (.dat (.list [x0])) .emp .emp (.dat (eCut cutAll)) .emp .emp) [] (fun _ => True) 0 σ8 H8 := h14
  apply p_asgN (s := .dat g5) h14 u
  case h =>
    rw [hg5]
    refine ed_fin (c1 := 0) (ed_op (ed_var rfl) ((ed_fin (ed_lst (ds := [(.tuple [(.tuple [.str "vest", .str "ann", eCut cutW]), (.tuple [.str "give", .str "ann", .str "bob", eCut cutW])]), (.tuple [.int 1]), (.tuple [.str "x", .str "bob"]), (.tuple [.int 1])]) (ea_cons (ed_tup (ds := [(.tuple [.str "vest", .str "ann", eCut cutW]), (.tuple [.str "give", .str "ann", .str "bob", eCut cutW])]) (ea_cons (ed_tup (ds := [.str "vest", .str "ann", eCut cutW]) (ea_cons ed_str (ea_cons ed_str (ea_cons (ed_var (i := 6) rfl) ea_nil)))) (ea_cons (ed_tup (ds := [.str "give", .str "ann", .str "bob", eCut cutW]) (ea_cons ed_str (ea_cons ed_str (ea_cons ed_str (ea_cons (ed_var (i := 6) rfl) ea_nil))))) ea_nil))) (ea_cons (ed_tup (ds := [.int 1]) (ea_cons ed_int ea_nil)) (ea_cons (ed_tup (ds := [.str "x", .str "bob"]) (ea_cons ed_str (ea_cons ed_str ea_nil))) (ea_cons (ed_tup (ds := [.int 1]) (ea_cons ed_int ea_nil)) ea_nil))))) rfl rfl) : EvD B 0 _ _ (.dat (.list [eBook [.one "vest" "ann" cutW, .four "give" "ann" "bob" cutW], eNats [1], eNames ["x", "bob"], eNats [1]]))) (os_cat (ds := [x0]) (Nat.le_of_ble_eq_true rfl))) rfl ?_
    rw [hy1, hy2, hy3]
    rfl
  case hc => rfl
  case k =>
  intro σ9 H9 h15
  have h15 : Holds B (rM (.dat xo) (.dat halfD) (.dat g5) (.dat (eCut cutW)) (.dat g5) .emp .emp (.dat (eCut cutAll)) .emp .emp) [] (fun _ => True) 0 σ9 H9 := h15
  have okG : okD dep g5 = true := by
    rw [hg5, hx0, hy1, hy2, hy3]
    kernel_rfl
  apply p_ifN (b := !true) h15 u
  case h => exact et_not (et_val (ed_fin (c1 := 0) (ed_call (f := fun _ => .bool true) g5 (ea_cons (c1 := 0) (c2 := 0) (ed_var rfl) (ea_one (ed_var rfl))) okG) rfl rfl))
  case hc => rfl
  case k1 => intro z; cases z
  case k2 =>
  intro _ H10 h16
  apply p_asgN (s := .dat (eBook wide1)) h16 u
  case h =>
    have l1 : EvR B 0 (tCB (rTupleOf B.K) (tCons (tLc (iStr (tC (.str "abcd"))) (gName 12) tYes (tTup (tCons (tC (.str "whole")) (tCons (tC (.str "ann")) (tCons (tC (.str "bob")) (tCons (tTup (tCons (tTup (tCons (tTup (tCons (tVar 12) (tCons (tC (.bl true)) tNil))) tNil)) tNil)) tNil))))) [12]) tNil))
        (rM (.dat xo) (.dat halfD) (.dat g5) (.dat (eCut cutW)) (.dat g5) .emp .emp (.dat (eCut cutAll)) .emp .emp) (fun z => z = .dat (.tuple ((["a", "b", "c", "d"] : List Str).map fun x => eDeed (.four "whole" "ann" "bob" [[(x, true)]])))) :=
      er_fin (c1 := 0) (ed_cb (ea_one (ed_lc1 (["a", "b", "c", "d"] : List Str) PyData.str (fun x => rM (.dat xo) (.dat halfD) (.dat g5) (.dat (eCut cutW)) (.dat g5) .emp .emp (.dat (eCut cutAll)) .emp (.dat (.str x))) (fun x => eDeed (.four "whole" "ann" "bob" [[(x, true)]])) (ew_str (x := "abcd") ed_str) (fun _ _ => eg_name) (fun _ _ => et_yes)
        (fun x _ => (ed_fin (ed_tup (ds := [.str "whole", .str "ann", .str "bob", (.tuple [(.tuple [(.tuple [.str x, .bool true])])])]) (ea_cons ed_str (ea_cons ed_str (ea_cons ed_str (ea_cons (ed_tup (ds := [(.tuple [(.tuple [.str x, .bool true])])]) (ea_cons (ed_tup (ds := [(.tuple [.str x, .bool true])]) (ea_cons (ed_tup (ds := [.str x, .bool true]) (ea_cons (ed_var (i := 12) rfl) (ea_cons ed_bl ea_nil))) ea_nil)) ea_nil)) ea_nil))))) rfl rfl)) (by decide))) (cl_tuple (.inl rfl))) rfl fun _ e => e
    exact ed_fin (c1 := 0) (ed_op l1 ((ed_fin (ed_tup (ds := [(.tuple [.str "swap", .str "ann", .str "bob", eCut cutAll])]) (ea_cons (ed_tup (ds := [.str "swap", .str "ann", .str "bob", eCut cutAll]) (ea_cons ed_str (ea_cons ed_str (ea_cons ed_str (ea_cons (ed_var (i := 10) rfl) ea_nil))))) ea_nil)) rfl rfl) : EvD B 0 _ _ (.dat (.tuple [eDeed (.four "swap" "ann" "bob" cutAll)]))) (os_catT (Nat.le_of_ble_eq_true rfl))) rfl rfl
  case hc => rfl
  case k =>
  intro σ11 H11 h17
  have h17 : Holds B (rM (.dat xo) (.dat halfD) (.dat g5) (.dat (eCut cutW)) (.dat g5) (.dat (eBook wide1)) .emp (.dat (eCut cutAll)) .emp .emp) [] (fun _ => True) 0 σ11 H11 := h17
  apply p_asgN (s := .dat (eBook wide2)) h17 u
  case h =>
    exact ed_fin (c1 := 0) (ed_op (ed_var rfl) ((ed_fin (ed_tup (ds := [(.tuple [.str "give", .str "bob", .str "cy", (.tuple [(.tuple [(.tuple [.str "a", .bool true]), (.tuple [.str "e", .bool false])])])]), (.tuple [.str "vest", .str "ann", (.tuple [(.tuple [(.tuple [.str "b", .bool true]), (.tuple [.str "c", .bool true])])])])]) (ea_cons (ed_tup (ds := [.str "give", .str "bob", .str "cy", (.tuple [(.tuple [(.tuple [.str "a", .bool true]), (.tuple [.str "e", .bool false])])])]) (ea_cons ed_str (ea_cons ed_str (ea_cons ed_str (ea_cons (ed_tup (ds := [(.tuple [(.tuple [.str "a", .bool true]), (.tuple [.str "e", .bool false])])]) (ea_cons (ed_tup (ds := [(.tuple [.str "a", .bool true]), (.tuple [.str "e", .bool false])]) (ea_cons (ed_tup (ds := [.str "a", .bool true]) (ea_cons ed_str (ea_cons ed_bl ea_nil))) (ea_cons (ed_tup (ds := [.str "e", .bool false]) (ea_cons ed_str (ea_cons ed_bl ea_nil))) ea_nil))) ea_nil)) ea_nil))))) (ea_cons (ed_tup (ds := [.str "vest", .str "ann", (.tuple [(.tuple [(.tuple [.str "b", .bool true]), (.tuple [.str "c", .bool true])])])]) (ea_cons ed_str (ea_cons ed_str (ea_cons (ed_tup (ds := [(.tuple [(.tuple [.str "b", .bool true]), (.tuple [.str "c", .bool true])])]) (ea_cons (ed_tup (ds := [(.tuple [.str "b", .bool true]), (.tuple [.str "c", .bool true])]) (ea_cons (ed_tup (ds := [.str "b", .bool true]) (ea_cons ed_str (ea_cons ed_bl ea_nil))) (ea_cons (ed_tup (ds := [.str "c", .bool true]) (ea_cons ed_str (ea_cons ed_bl ea_nil))) ea_nil))) ea_nil)) ea_nil)))) ea_nil))) rfl rfl) : EvD B 0 _ _ (.dat (eBook [.four "give" "bob" "cy" [[("a", true), ("e", false)]], .one "vest" "ann" [[("b", true), ("c", true)]]]))) (os_catT (ds := wide1.map eDeed) (Nat.le_of_ble_eq_true rfl))) rfl rfl
  case hc => rfl
  case k =>
  intro σ12 H12 h18
  have h18 : Holds B (rM (.dat xo) (.dat halfD) (.dat g5) (.dat (eCut cutW)) (.dat g5) (.dat (eBook wide2)) .emp (.dat (eCut cutAll)) .emp .emp) [] (fun _ => True) 0 σ12 H12 := h18
  apply p_asgN (s := .dat (eBook wide3)) h18 u
  case h =>
    refine ed_fin (c1 := 0) (ed_op (ed_var rfl) (ed_tup (ds := [eDeed (.two "end" cutAll []), eDeed (.four "yield" "p" "q" cutAll), eDeed (.one "lift" "p" cutAll), eDeed (.four "give" "bob" "cy" [[("a", true), ("e", false)]]), eDeed (.four "swap" "ann" "bob" cutAll)])
      (ea_cons (c1 := 0) (c2 := 0) ((ed_fin (ed_tup (ds := [.str "end", eCut cutAll, (.tuple [])]) (ea_cons ed_str (ea_cons (ed_var (i := 10) rfl) (ea_cons (ed_tup (ds := []) ea_nil) ea_nil)))) rfl rfl) : EvD B 0 _ _ (.dat (eDeed (.two "end" cutAll [])))) (ea_cons (c1 := 0) (c2 := 0) ((ed_fin (ed_tup (ds := [.str "yield", .str "p", .str "q", eCut cutAll]) (ea_cons ed_str (ea_cons ed_str (ea_cons ed_str (ea_cons (ed_var (i := 10) rfl) ea_nil))))) rfl rfl) : EvD B 0 _ _ (.dat (eDeed (.four "yield" "p" "q" cutAll)))) (ea_cons (c1 := 0) (c2 := 0) ((ed_fin (ed_tup (ds := [.str "lift", .str "p", eCut cutAll]) (ea_cons ed_str (ea_cons ed_str (ea_cons (ed_var (i := 10) rfl) ea_nil)))) rfl rfl) : EvD B 0 _ _ (.dat (eDeed (.one "lift" "p" cutAll))))
        (ea_cons (c1 := 0) (c2 := 0) (ed_op (c1 := 0) (c2 := 0) (ed_var rfl) ed_int (os_ix (.inr rfl) rfl)) (ea_one (ed_op (c1 := 0) (c2 := 0) (ed_var rfl) ed_int (os_ix (.inr rfl) rfl)))))))) (os_catT (ds := wide2.map eDeed) (Nat.le_of_ble_eq_true rfl))) rfl rfl
  case hc => rfl
  case k =>
  intro σ13 H13 h19
  have h19 : Holds B (rM (.dat xo) (.dat halfD) (.dat g5) (.dat (eCut cutW)) (.dat g5) (.dat (eBook wide3)) .emp (.dat (eCut cutAll)) .emp .emp) [] (fun _ => True) 0 σ13 H13 := h19
  apply p_asgN (s := .dat (eWorld full1)) h19 u
  case h => exact (ed_fin (ed_tup (ds := [(.tuple [(.tuple []), .int 1, .str "ann"]), (.tuple [(.tuple [.str "a", .str "b"]), .int 2, .str "ann"]), (.tuple [(.tuple [.str "c"]), .int (10 ^ (30 : Int).toNat), .str "bob"]), (.tuple [(.tuple [.str "a", .str "e"]), .int 1, .str "ann"])]) (ea_cons (ed_tup (ds := [(.tuple []), .int 1, .str "ann"]) (ea_cons (ed_tup (ds := []) ea_nil) (ea_cons ed_int (ea_cons ed_str ea_nil)))) (ea_cons (ed_tup (ds := [(.tuple [.str "a", .str "b"]), .int 2, .str "ann"]) (ea_cons (ed_tup (ds := [.str "a", .str "b"]) (ea_cons ed_str (ea_cons ed_str ea_nil))) (ea_cons ed_int (ea_cons ed_str ea_nil)))) (ea_cons (ed_tup (ds := [(.tuple [.str "c"]), .int (10 ^ (30 : Int).toNat), .str "bob"]) (ea_cons (ed_tup (ds := [.str "c"]) (ea_cons ed_str ea_nil)) (ea_cons (ed_op (c1 := 0) (c2 := 0) ed_int ed_int (os_pow cpow30)) (ea_cons ed_str ea_nil)))) (ea_cons (ed_tup (ds := [(.tuple [.str "a", .str "e"]), .int 1, .str "ann"]) (ea_cons (ed_tup (ds := [.str "a", .str "e"]) (ea_cons ed_str (ea_cons ed_str ea_nil))) (ea_cons ed_int (ea_cons ed_str ea_nil)))) ea_nil))))) rfl rfl)
  case hc => rfl
  case k =>
  intro σ14 H14 h20
  have h20 : Holds B (rM (.dat xo) (.dat halfD) (.dat g5) (.dat (eCut cutW)) (.dat g5) (.dat (eBook wide3)) (.dat (eWorld full1)) (.dat (eCut cutAll)) .emp .emp) [] (fun _ => True) 0 σ14 H14 := h20
  apply p_asgN (s := .dat (eWorld full2)) h20 u
  case h =>
    exact ed_fin (c1 := 0) (ed_op (ed_var rfl) ((ed_fin (ed_tup (ds := [(.tuple [(.tuple [.str "d"]), .int 1, .str "ann"]), (.tuple [(.tuple [.str "a", .str "b", .str "c", .str "d", .str "e"]), .int 9, .str "zz"])]) (ea_cons (ed_tup (ds := [(.tuple [.str "d"]), .int 1, .str "ann"]) (ea_cons (ed_tup (ds := [.str "d"]) (ea_cons ed_str ea_nil)) (ea_cons ed_int (ea_cons ed_str ea_nil)))) (ea_cons (ed_tup (ds := [(.tuple [.str "a", .str "b", .str "c", .str "d", .str "e"]), .int 9, .str "zz"]) (ea_cons (ed_tup (ds := [.str "a", .str "b", .str "c", .str "d", .str "e"]) (ea_cons ed_str (ea_cons ed_str (ea_cons ed_str (ea_cons ed_str (ea_cons ed_str ea_nil)))))) (ea_cons ed_int (ea_cons ed_str ea_nil)))) ea_nil))) rfl rfl) : EvD B 0 _ _ (.dat (eWorld [⟨["d"], 1, "ann"⟩, ⟨["a", "b", "c", "d", "e"], 9, "zz"⟩]))) (os_catT (ds := full1.map ePoint) (Nat.le_of_ble_eq_true rfl))) rfl rfl
  case hc => rfl
  case k =>
  intro σ15 H15 h21
  have h21 : Holds B (rM (.dat xo) (.dat halfD) (.dat g5) (.dat (eCut cutW)) (.dat g5) (.dat (eBook wide3)) (.dat (eWorld full2)) (.dat (eCut cutAll)) .emp .emp) [] (fun _ => True) 0 σ15 H15 := h21
  apply p_ret (s := .dat (.bool (true && (true && true)))) h21 u
  case h =>
    refine ed_andV (c1 := 0) (c2 := 0) (ed_fin (c1 := 0) (ed_call (f := fun _ => .bool true) (CaseIn.mk wide3 full2) (ea_cons (c1 := 0) (c2 := 0) (ed_var rfl) (ea_one (ed_var rfl))) okW3) rfl rfl) fun _ => ed_andV (c1 := 0) (c2 := 0) (ed_fin (c1 := 0) (ed_call (f := fun _ => .bool true) (CaseIn.mk wide3 full5) (ea_cons (c1 := 0) (c2 := 0) (ed_var rfl) (ea_one ?_)) okW5) rfl rfl) fun _ => ?_
    · exact (ed_slT (ds := full2.map ePoint) (ed_var rfl) eo_none (eo_some ed_int)).to rfl
    · exact ed_fin (c1 := 0) (ed_call (f := fun _ => .bool true) (CaseIn.mk moreB world1) (ea_cons (c1 := 0) (c2 := 0) (ed_var rfl) (ea_one (ed_op (c1 := 0) (c2 := 0) (ed_var rfl) ed_int (os_ix (.inl rfl) rfl)))) okM1) rfl rfl
  case hc => rfl
  case k => exact fun v H' h => q v _ H' _ _ _ _ σ15 rfl h
end
end K30
set_option Elab.async false
set_option linter.all false
set_option maxRecDepth 100000
set_option maxHeartbeats 0
namespace K30
open PySem PySem.Spec PyProof.Rows L2 PySem.W PySem.Calls PySem.HandSPX
/-! ### the head: facts by names -/
def dd (x : Str) (i : Nat) : He.DefD := ⟨(x, none), x, x, defArgs (top i), defBody (top i), defScope (top i), [], []⟩
def fn : List He.DefD := [dd "tupled" 3, dd "keeps" 5, dd "is_in" 6, dd "owner_after" 13, dd "wholes_of" 15, dd "check_wholes" 16, dd "played" 17, dd "is_right" 18, dd "done" 19, dd "play" 20, dd "let_wholes" 21, dd "owners_in" 22,
  dd "_law_box" 24, dd "_law_take" 25, dd "_law_cells" 26, dd "_law_same" 27, dd "_law_lists" 28, dd "_law_of" 29, dd "_law_subs" 30, dd "_law_spots" 31, dd "_law_in" 32, dd "_law_let" 33, dd "_law_clause" 34, dd "_law_cut" 35, dd "_law_chart" 36, dd "_law_world" 37, dd "_law_deed" 38, dd "_law_turned" 39, dd "_law_wholes" 40, dd "_law_play" 41, dd "_law_book" 42, dd "_law_field" 43, dd "_law_heard" 44, dd "_law_left" 45, dd "_law_case_right" 46, dd "_law_by_hand_right" 47, dd "_law_more_right" 48, dd "_law_right" 49, dd "law" 50]
def frees : List Str := ["abs", "all", "any", "bool", "enumerate", "int", "isinstance", "len", "list", "range", "set", "sorted", "str", "super", "tuple", "zip", "LookupError"]
def fa : List He.Fa := [.glo "NoDeed", .glo "TITLE_WORDS", .str "GIVE" "give", .str "VEST" "vest", .str "SWAP" "swap", .str "WHOLE" "whole"] ++ (frees.map .free) ++ (fn.map fun d => .glo d.name)
def nC (K : PySem.W.Frag) : Addr := He.ga K "NoDeed"
def nI (K : PySem.W.Frag) : Addr := He.ma K (nC K) "__init__"
abbrev FnC : Type := Option (Str × Str × Arguments × FuncBody × Scope × Addr × Addr)
def fnC (K : PySem.W.Frag) : FnC := match K.lookup (nI K) with
  | some ⟨_, _, .func d, _⟩ => some (d.name, d.qualname, d.params, d.body, d.scope, d.globals, d.builtins)
  | _ => none
def valC : FnC := some ("__init__", "NoDeed.__init__", ndA, .stmts ndB, ndS, mainGlobals, builtinsNs)
def clsB (K : PySem.W.Frag) (C : Addr) : Bool := match K.lookup C with
  | some ⟨.type t, _, .cls cd, sl⟩ => decide (t = "type") && (match cd.mro, sl.toList with
    | .ref a :: bm, [_, _, _, _, some (.builtin n), _] => decide (a = C) && (decide (n = "LookupError.__new__") && (decide (cd.hasDel = false) && (decide (bm = leTail) && decide (cd.hasDict = true))))
    | _, _ => false)
  | _ => false
theorem clsB_ok {K : PySem.W.Frag} {C : Addr} (h : clsB K C = true) : ∃ nm q N bs sn sub ab col dd k0 k1 k2 k3 k5, K.lookup C = some (excClassObj nm q C N bs leTail true sn sub ab col dd k0 k1 k2 k3 k5 "LookupError.__new__") := by
  unfold clsB at h
  split at h
  · rename_i t od cd sl ho
    obtain ⟨h0, h⟩ := He.ba h
    split at h
    · rename_i a bm k0 k1 k2 k3 n k5 hm hs
      obtain ⟨h1, h⟩ := He.ba h
      obtain ⟨h2, h⟩ := He.ba h
      obtain ⟨h3, h⟩ := He.ba h
      obtain ⟨h4, h5⟩ := He.ba h
      have h0 := of_decide_eq_true h0
      have h1 := of_decide_eq_true h1
      have h2 := of_decide_eq_true h2
      have h3 := of_decide_eq_true h3
      have h4 := of_decide_eq_true h4
      have h5 := of_decide_eq_true h5
      subst h0 h1 h2 h4
      obtain ⟨nm, bs, mro, ns, qn, hd, sn, sub, ab, col, del⟩ := cd
      have hm : mro = .ref a :: leTail := hm
      have h3 : del = false := h3
      have h5 : hd = true := h5
      subst hm h3 h5
      obtain rfl : sl = #[k0, k1, k2, k3, some (.builtin "LookupError.__new__"), k5] := by
        obtain ⟨l⟩ := sl
        have hs : l = _ := hs
        rw [hs]
      exact ⟨nm, qn, ns, bs, sn, sub, ab, col, od, k0, k1, k2, k3, k5, ho⟩
    · cases h
  · cases h
def cellB (K : PySem.W.Frag) (c : Addr) : Bool := match K.lookup c with
  | some ⟨_, _, .cell (some (.ref a)), _⟩ => decide (a = nC K)
  | _ => false
def fileB (K : PySem.W.Frag) (c : Addr) : Bool := match K.lookup c with
  | some ⟨_, _, .fields vs, _⟩ => (match vs[2]? with
    | some (Value.str y _) => ((PySem.Challenge.rw_landpoints_k30_whole_deeds_in_worlds).prog.main.file : Str) == y
    | _ => false)
  | _ => false
def funB (K : PySem.W.Frag) : Bool := match K.lookup (nI K) with
  | some ⟨_, _, .func d, _⟩ => (match d.closure, d.code with
    | [(x, cc)], .ref c => decide (x = "__class__") && (PySem.W.codeIn K (.ref c) "NoDeed.__init__" && (cellB K cc && (fileB K c && (decide (d.defaults = .none) && decide (d.kwdefaults = .none)))))
    | _, _ => false)
  | _ => false
def exL (K : PySem.W.Frag) : List Bool := [clsB K (nC K), funB K,
  He.eqO (PySem.W.findIn K (.ref (nC K)) "__setattr__") (some (some (.builtin "object.__setattr__"))),
  He.eqO (PySem.W.findIn K (.ref (nC K)) "__getattribute__") (some (some (.builtin "BaseException.__getattribute__"))),
  He.eqO (PySem.W.findIn K (.ref (nC K)) "__getattr__") (some none),
  He.eqO (PySem.W.findIn K (.ref (nC K)) "place") (some none),
  He.eqO (PySem.W.findIn K (.ref (nC K)) "__init__") (some (some (.ref (nI K)))),
  decide (PySem.W.typeIn K (.ref (nI K)) = some (.type "function")),
  PySem.W.keepIn K (.ref (nC K)),
  decide (PySem.W.subIn K (.ref (nC K)) (.type "BaseException") = some true),
  decide (PySem.W.subIn K (.ref (nC K)) (.type "LookupError") = some true),
  decide (PySem.W.typeIn K (.ref (nC K)) = some (.type "type")),
  PySem.W.hasDictIn K (nC K),
  decide (PySem.W.exmOne K (.ref (nC K)) (.ref (nC K)) = some true),
  He.eqO (PySem.W.nsIn K cStatics "thirdparty.any") (some none),
  He.eqO (PySem.W.alongIn K "__init__" leTail) (some (some (.builtin "LookupError.__init__"))),
  He.eqO (PySem.W.findIn K (.ref (nC K)) "__class__") (some (some (.builtin "object.__class__"))),
  He.eqO (PySem.W.specialIn K (.builtin "object.__class__") "__get__") (some (some (.builtin "getset_descriptor.__get__"))),
  decide (PySem.W.takesIn K (.builtin "object.__class__") = some true),
  decide (PySem.W.mroIn K (nC K) (.type "object") = some true),
  decide (PySem.W.kitOne K (.ref (nC K)) (.type "LookupError") = some true),
  He.tupB K "TITLE_WORDS" [.str "give", .str "vest", .str "swap"]]
def asN (g : Addr → Option Obj) : List Addr := cStatics :: He.asD g 4
abbrev AlN : Type := He.AlD × (Bool × FnC)
def obsN (K : PySem.W.Frag) : AlN := (He.obsD fa fn K, ((exL K).all id, fnC K))
def valN : AlN := (He.valD fn, (true, valC))
def obsNG (g : Addr → Option Obj) : AlN := obsN (He.frG g (asN g))
def hk : PySem.W.Hook where
  α := AlN
  obs := fun s => obsNG s.heap.get?
  val := fun _ => valN
  says := fun _ h => ∃ K : PySem.W.Frag, K.In h ∧ obsN K = valN
  of := fun _ _ e => ⟨_, He.frG_in, e⟩
  keeps := fun _ _ _ ⟨K, hK, c⟩ k => ⟨K, PySem.W.Frag.In.keeps hK k, c⟩
abbrev R : PySem.W.OpenRow := PySem.W.OpenLaw.row PySem.Challenge.rw_landpoints_k30_whole_deeds_in_worlds
def ob (s : PySem.W.SharedT) : AlN := obsNG (HandSHeadRun.getT s)
theorem ob_eq (s : PySem.W.SharedT) : ob s = hk.obs s.abs := by
  have e : HandSHeadRun.getT s = s.abs.heap.get? := funext (HandSHeadRun.getT_eq s)
  show obsNG (HandSHeadRun.getT s) = obsNG s.abs.heap.get?
  rw [e]
theorem nd_txt {K : PySem.W.Frag} {h : Heap} {mg : Str → Option Value} (X : K.In h) (G : h.Ns mainGlobals mg) (c : obsN K = valN) : NDTxt (PySem.Challenge.rw_landpoints_k30_whole_deeds_in_worlds).prog K mg (nC K) (nI K) ∧ NDIs K (nC K) := by
  have cD : He.SaysD fa fn K := congrArg (fun z : AlN => z.1) c
  have cB : (exL K).all id = true := congrArg (fun z : AlN => z.2.1) c
  have cF : fnC K = valC := congrArg (fun z : AlN => z.2.2) c
  have at_ : ∀ (i : Nat) {b : Bool}, (exL K)[i]? = some b → b = true := fun i b hb => List.all_eq_true.mp cB b (List.mem_of_getElem? hb)
  have b1 := at_ 1 rfl
  have hfn : ∃ (oc : Value) (od : Option Addr) (doc pm : Value) (an : Option Addr) (cda cc : Addr) (ct : Value) (osl : Array (Option Value)) (ccl : Value) (cdd : Option Addr) (vs : Array Value) (ccs : Array (Option Value)) (file : Str) (tf : Tok) (cl : Value) (cld : Option Addr) (csl : Array (Option Value)),
    K.lookup (nI K) = some ⟨oc, od, .func (PySem.W.ksFn "__init__" "NoDeed.__init__" ndA ndB ndS .none .none doc pm an (.ref cda) ct cc), osl⟩ ∧ PySem.W.codeIn K (.ref cda) "NoDeed.__init__" = true ∧
    K.lookup cda = some ⟨ccl, cdd, .fields vs, ccs⟩ ∧ vs[2]? = some (.str file tf) ∧ (((PySem.Challenge.rw_landpoints_k30_whole_deeds_in_worlds).prog.main.file : Str) == file) = true ∧ K.lookup cc = some ⟨cl, cld, .cell (some (.ref (nC K))), csl⟩ := by
    unfold funB at b1
    unfold fnC at cF
    cases q : K.lookup (nI K) with
    | none => rw [q] at b1; cases b1
    | some o =>
      obtain ⟨oc, od, dt, osl⟩ := o
      rw [q] at b1 cF
      cases dt with
      | func d =>
        obtain ⟨n1, n2, n3, n4, n5, n6, n7, n8, n9, n10, n11, n12, n13, n14, n15⟩ := d
        have e2 : (some (n1, n2, n3, n4, n5, n6, n15) : FnC) = valC := cF
        unfold valC at e2
        simp only [Option.some.injEq, Prod.mk.injEq] at e2
        obtain ⟨h1, h2, h3, h4, h5, h6, h8⟩ := e2
        subst h1 h2 h3 h4 h5 h6 h8
        dsimp only at b1
        split at b1
        · rename_i l0 v0 x cc cda
          obtain ⟨g1, b1⟩ := He.ba b1
          obtain ⟨g2, b1⟩ := He.ba b1
          obtain ⟨g3, b1⟩ := He.ba b1
          obtain ⟨g4, b1⟩ := He.ba b1
          obtain ⟨g5, g6⟩ := He.ba b1
          have k1 := of_decide_eq_true g1
          have k5 : n8 = .none := of_decide_eq_true g5
          have k6 : n9 = .none := of_decide_eq_true g6
          subst k1
          subst k5
          subst k6
          unfold cellB at g3
          unfold fileB at g4
          split at g3
          · rename_i cl cld a csl hcell
            have k3 := of_decide_eq_true g3
            subst k3
            split at g4
            · rename_i ccl cdd vs ccs hcode
              split at g4
              · rename_i y ty hy
                exact ⟨oc, od, n10, n11, n12, _, _, n14, osl, ccl, cdd, vs, ccs, y, ty, cl, cld, csl, rfl, g2, hcode, hy, g4, hcell⟩
              · cases g4
            · cases g4
          · cases g3
        · cases b1
      | _ => cases b1
  have d : ∀ (i : Nat) {p : Prop} [Decidable p], (exL K)[i]? = some (decide p) → p := fun i p _ hb => of_decide_eq_true (at_ i hb)
  exact ⟨{ gC := He.glo_ok X G (cD.fact 0 (f := .glo "NoDeed") rfl), noS := He.free_ok X G (x := "super") (cD.fact 19 (f := .free "super") rfl), cls := clsB_ok (at_ 0 rfl), sa := He.eqO_ok (at_ 2 rfl), ga := He.eqO_ok (at_ 3 rfl), gg := He.eqO_ok (at_ 4 rfl), noN := He.eqO_ok (at_ 5 rfl), iC := He.eqO_ok (at_ 6 rfl), tC := d 7 rfl, kC := at_ 8 rfl, exC := d 9 rfl, leC := d 10 rfl, tyC := d 11 rfl, hdC := at_ 12 rfl, te := d 13 rfl, op := He.eqO_ok (at_ 14 rfl), al := He.eqO_ok (at_ 15 rfl), top := by decide +kernel, fn := hfn },
    ⟨⟨He.eqO_ok (at_ 3 rfl), He.eqO_ok (at_ 4 rfl), d 9 rfl, at_ 12 rfl, He.eqO_ok (at_ 16 rfl), He.eqO_ok (at_ 17 rfl), d 18 rfl, d 19 rfl⟩, d 20 rfl⟩⟩
end K30
set_option Elab.async false
set_option linter.all false
set_option maxRecDepth 100000
set_option maxHeartbeats 0
namespace K30
open PySem PySem.Spec PyProof.Rows L2
def loose1 : List Str := ["NoDeed", "tupled", "keeps", "is_in", "GIVE", "VEST", "SWAP", "WHOLE", "TITLE_WORDS", "owner_after", "wholes_of", "check_wholes", "played", "is_right", "done", "play", "let_wholes", "owners_in"]
def loose2 : List Str := ["_law_box", "_law_take", "_law_cells", "_law_same", "_law_lists", "_law_of", "_law_subs", "_law_spots", "_law_in", "_law_let", "_law_clause", "_law_cut", "_law_chart", "_law_world", "_law_deed", "_law_turned", "_law_wholes", "_law_play", "_law_book", "_law_field", "_law_heard", "_law_left", "_law_case_right", "_law_by_hand_right", "_law_more_right", "_law_right"]
def loose : List Str := loose1 ++ loose2
theorem run (w : World) : HandSHeadRun.RunEq R (PySem.W.view R.prog [50]) hk ob 3000 loose w := by
  intro os
  kernel_rfl
end K30
set_option Elab.async false
set_option linter.all false
set_option maxRecDepth 100000
set_option maxHeartbeats 4000000
namespace K30
open PySem PySem.Spec PyProof.Rows L2
section
variable {K : PySem.W.Frag} {h : Heap} {mg : Str → Option Value}
theorem at_of (X : K.In h) (G : h.Ns mainGlobals mg) (c : He.SaysD fa fn K) (n : Nat) {x : Str} {i : Nat} (h1 : fn[n]? = some (dd x i) := by rfl) (h2 : fa[23 + n]? = some (.glo x) := by rfl) : At K mg x i := by
  obtain ⟨fd, F⟩ := c.def_ n h1
  exact ⟨_, fd, He.glo_ok X G (c.fact (23 + n) h2), F⟩
theorem g0_of (X : K.In h) (G : h.Ns mainGlobals mg) (c : He.SaysD fa fn K) (ht : He.tupB K "TITLE_WORDS" [.str "give", .str "vest", .str "swap"] = true) : G0 K mg where
  abs := He.free_ok X G (c.fact 6 (f := .free "abs") rfl)
  all := He.free_ok X G (c.fact 7 (f := .free "all") rfl)
  any := He.free_ok X G (c.fact 8 (f := .free "any") rfl)
  bool := He.free_ok X G (c.fact 9 (f := .free "bool") rfl)
  enumerate := He.free_ok X G (c.fact 10 (f := .free "enumerate") rfl)
  int := He.free_ok X G (c.fact 11 (f := .free "int") rfl)
  isinstance := He.free_ok X G (c.fact 12 (f := .free "isinstance") rfl)
  len := He.free_ok X G (c.fact 13 (f := .free "len") rfl)
  list := He.free_ok X G (c.fact 14 (f := .free "list") rfl)
  range := He.free_ok X G (c.fact 15 (f := .free "range") rfl)
  set := He.free_ok X G (c.fact 16 (f := .free "set") rfl)
  sorted := He.free_ok X G (c.fact 17 (f := .free "sorted") rfl)
  str := He.free_ok X G (c.fact 18 (f := .free "str") rfl)
  tuple := He.free_ok X G (c.fact 20 (f := .free "tuple") rfl)
  zip := He.free_ok X G (c.fact 21 (f := .free "zip") rfl)
  lookupError := He.free_ok X G (c.fact 22 (f := .free "LookupError") rfl)
  give := He.str_ok X G (c.fact 2 (f := .str "GIVE" "give") rfl)
  vest := He.str_ok X G (c.fact 3 (f := .str "VEST" "vest") rfl)
  swap := He.str_ok X G (c.fact 4 (f := .str "SWAP" "swap") rfl)
  whole := He.str_ok X G (c.fact 5 (f := .str "WHOLE" "whole") rfl)
  words := ⟨_, He.glo_ok X G (c.fact 1 (f := .glo "TITLE_WORDS") rfl), fun C => He.tupB_ok ht C⟩
end
theorem df_whole {P : Program} {w : World} {K : PySem.W.Frag} {h : Heap} {mg : Str → Option Value} {base : Heap} {Cn fI : Addr} (X : K.In h) (G : h.Ns mainGlobals mg) (c : He.SaysD fa fn K) (g : G0 K mg) (T : NDTxt P K mg Cn fI) (TI : NDIs K Cn) : Df P w K mg base CX0 40 "law" ["_law_script"] (sp_law K) := by
  obtain ⟨tw, hw, hw2⟩ := g.words
  have tupled := df_tupled (P := P) (w := w) (base := base) (k := 0) (at_of X G c 0) g dep
  have keeps := df_keeps (P := P) (w := w) (base := base) (k := 0) (at_of X G c 1) g
  have is_in := df_is_in (at_of X G c 2) g keeps
  have owner_after := df_owner_after (at_of X G c 3) g hw hw2 is_in
  have A15 : At K mg "wholes_of" 15 := at_of X G c 4
  have A17 : At K mg "played" 17 := at_of X G c 6
  have A21 : At K mg "let_wholes" 21 := at_of X G c 10
  have A22 : At K mg "owners_in" 22 := at_of X G c 11
  have wholes_of := df_wholes_of (P := P) (w := w) (base := base) (k := 0) A15 g
  have check_wholes := df_check_wholes (k := 19) (at_of X G c 5) T g (wholes_of.mono (by decide))
  have played := df_played (k := 20) A17 T g (tupled.mono (by decide)) check_wholes
  have is_right := df_is_right (at_of X G c 7) g is_in
  have done := df_done (at_of X G c 8) g owner_after
  have play := df_play (k := 20) (at_of X G c 9) g (tupled.mono (by decide)) (done.mono (by decide)) (is_right.mono (by decide))
  have let_wholes := df_let_wholes A21 g play
  have owners_in := df_owners_in A22 g play
  have l_box := df_law_box (P := P) (w := w) (base := base) (k := 0) (at_of X G c 12) g
  have l_take := df_law_take (P := P) (w := w) (base := base) (k := 0) (at_of X G c 13) g
  have l_cells := df_law_cells (P := P) (w := w) (base := base) (k := 0) (at_of X G c 14) g
  have l_same := df_law_same (P := P) (w := w) (base := base) (k := 0) (at_of X G c 15) g dep
  have l_lists := df_law_lists (P := P) (w := w) (base := base) (k := 0) (at_of X G c 16) g dep
  have l_of := df_law_of (at_of X G c 17) g l_take
  have l_subs := df_law_subs (P := P) (w := w) (base := base) (k := 0) (at_of X G c 18) g
  have l_spots := df_law_spots (P := P) (w := w) (base := base) (k := 0) (at_of X G c 19) g
  have l_in := df_law_in (P := P) (w := w) (base := base) (k := 0) (at_of X G c 20) g
  have l_let := df_law_let (at_of X G c 21) g l_spots l_in
  have l_clause := df_law_clause (at_of X G c 22) g l_take
  have l_cut := df_law_cut (k := 20) (at_of X G c 23) g (l_take.mono (by decide)) (l_clause.mono (by decide))
  have l_chart := df_law_chart (k := 20) (at_of X G c 24) g (l_take.mono (by decide)) (l_clause.mono (by decide))
  have l_world := df_law_world (k := 20) (at_of X G c 25) g (l_take.mono (by decide)) (l_of.mono (by decide)) (l_let.mono (by decide))
  have l_deed := df_law_deed (k := 21) (at_of X G c 26) g (l_of.mono (by decide)) (l_cut.mono (by decide))
  have l_turned := df_law_turned (at_of X G c 27) g l_in
  have l_wholes := df_law_wholes (P := P) (w := w) (base := base) (k := 0) (at_of X G c 28) g
  have l_play := df_law_play (k := 20) (at_of X G c 29) g (l_turned.mono (by decide)) (l_in.mono (by decide))
  have l_book := df_law_book (k := 22) (at_of X G c 30) g (l_take.mono (by decide)) (l_deed.mono (by decide)) (l_wholes.mono (by decide))
  have l_field := df_law_field (P := P) (w := w) (base := base) (k := 0) (at_of X G c 31) g
  have l_heard := df_law_heard (at_of X G c 32) T TI g played
  have l_left := df_law_left (P := P) (w := w) (base := base) (k := 0) (at_of X G c 33) g
  have l_case := df_law_case_right (k := 25) (at_of X G c 34) g (l_same.mono (by decide)) (l_lists.mono (by decide)) (wholes_of.mono (by decide)) (let_wholes.mono (by decide)) (owners_in.mono (by decide)) (played.mono (by decide)) (l_subs.mono (by decide)) (l_wholes.mono (by decide)) (l_left.mono (by decide)) (l_play.mono (by decide))
  have l_more := df_law_more_right (k := 26) (at_of X G c 36) g l_case (l_same.mono (by decide)) (wholes_of.mono (by decide)) (owners_in.mono (by decide)) (let_wholes.mono (by decide)) (played.mono (by decide)) (l_heard.mono (by decide)) A15 A22 A21 A17
  have l_hand := df_law_by_hand_right (k := 27) (at_of X G c 35) g (l_same.mono (by decide)) l_more (owners_in.mono (by decide)) (let_wholes.mono (by decide)) (played.mono (by decide)) (wholes_of.mono (by decide)) (l_field.mono (by decide))
  have l_right := df_law_right (k := 27) (at_of X G c 37) g (l_case.mono (by decide)) (l_world.mono (by decide)) (l_book.mono (by decide)) (l_chart.mono (by decide))
  exact (df_law (k := 28) (at_of X G c 38) g l_right (l_box.mono (by decide)) (l_cells.mono (by decide)) l_hand).mono (by decide)
end K30
set_option Elab.async false
set_option linter.all false
set_option maxRecDepth 100000
set_option maxHeartbeats 0
namespace K30
open PySem PySem.Spec PyProof.Rows L2
theorem facts {w : World} {K : PySem.W.Frag} {h : Heap} {mg : Str → Option Value} {f : Addr} (X : K.In h) (G : h.Ns mainGlobals mg) (hfa : mg ("law" : Str) = some (.ref f)) (c : obsN K = valN) :
    ∃ fd : FuncData, (∀ (s : Shared) (v : Value), BindsTo s fd ⟨[v], []⟩ [("_law_script", v)]) ∧ ∀ base : Heap, K.In base → base.Ns mainGlobals mg → FnOk (PySem.Challenge.rw_landpoints_k30_whole_deeds_in_worlds).prog w K mg base CX0 40 f fd ["_law_script"] (sp_law K) := by
  have cD : He.SaysD fa fn K := congrArg (fun z : AlN => z.1) c
  have cB : (exL K).all id = true := congrArg (fun z : AlN => z.2.1) c
  obtain ⟨T, TI⟩ := nd_txt X G c
  have g := g0_of X G cD (List.all_eq_true.mp cB _ (List.mem_of_getElem? (i := 21) rfl))
  obtain ⟨f1, fd, a1, F⟩ := at_of (x := "law") (i := 50) X G cD 38
  obtain rfl : f1 = f := by
    have z := a1.symm.trans hfa
    cases z
    rfl
  have b := FunD.bindsA (ps := ["_law_script"]) F fun _ _ _ _ _ _ us hl => match us, hl with | [_], _ => rfl
  refine ⟨fd, fun s v => b s [v] rfl, fun base _ _ => ?_⟩
  obtain ⟨f2, fd2, a2, ok2, _, _, oc, od, osl, lk⟩ := df_whole (w := w) (base := base) X G cD g T TI
  obtain rfl : f2 = f1 := by
    have z := a2.symm.trans a1
    cases z
    rfl
  obtain ⟨oc', od', osl', lk'⟩ := look_of F
  obtain rfl : fd2 = fd := by
    have z := lk.symm.trans lk'
    cases z
    rfl
  exact ok2
end K30
open PySem PySem.W PySem.Calls PyProof.Rows
theorem PySem.Challenge.cw_landpoints_k30_whole_deeds_in_worlds_holds : PySem.Challenge.rw_landpoints_k30_whole_deeds_in_worlds.Holds := by
  w_on; o_law
  refine HandSHeadRun.head_any (r := OpenLaw.row PySem.Challenge.rw_landpoints_k30_whole_deeds_in_worlds) (q := view (OpenLaw.row PySem.Challenge.rw_landpoints_k30_whole_deeds_in_worlds).prog [50]) (H := K30.hk) (ob := K30.ob) (M := 3000) (loose := K30.loose) (d := HandSHeadRun.topDef (OpenLaw.row PySem.Challenge.rw_landpoints_k30_whole_deeds_in_worlds).prog 50) (kwd := []) K30.ob_eq
    (by kernel_rfl) (fun s => by kernel_rfl) K30.run (by kernel_rfl) (by kernel_rfl) (by kernel_rfl) (by rfl) (by first | assumption | decide +kernel) (by decide +kernel) ⟨rfl, rfl, rfl, rfl, rfl, by decide +kernel⟩ ?hw ?hc
  case hw => w_witness2
  case hc =>
    refine L2.walk_ofE (l := PySem.Challenge.rw_landpoints_k30_whole_deeds_in_worlds) (n := 63) (k := 40) (x := "_law_script") (CX := L2.CX0) rfl (by decide) (by kernel_rfl) ⟨rfl, by decide, by decide⟩ ?F (fun _ _ _ _ z => z)
    intro w mg fa h Y G hmg0
    obtain ⟨K, KX, c⟩ := Y
    have hmg : mg ("law" : PySem.Str) = some (.ref fa) := by
      have e : (HandSHeadRun.topDef (OpenLaw.row PySem.Challenge.rw_landpoints_k30_whole_deeds_in_worlds).prog 50).name = ("law" : PySem.Str) := by kernel_rfl
      rw [← e]
      exact hmg0
    obtain ⟨fd, hb, hF⟩ := K30.facts (w := w) KX G hmg c
    exact ⟨K, fd, K30.sp_law K, KX, hb, fun H a ns hl _ hS => ⟨H, ns, fun _ _ e => e, .cons ⟨a, rfl, hS⟩ .nil, hl, fun v C' H' d _ _ _ _ hd hv => by
      subst hd
      cases hv
      rfl⟩, hF⟩

