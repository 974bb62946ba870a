import PyProof.Rows.All
import Wide.All
import OpenK.AllK
import Wide.FinOn
import HandS.ForMost
import HandS.ForExc
import HandS.Wide
import HandS.Gcd
import HandS.IsInst
import HandS.CallSlots
import HandS.TupAny
import HandS.Deep
import HandS.WideBits
import HandS.Defaults
import HandS.Zip
import HandS.ExcIs
import HandS.TryOnly
import HandS.ExcField
import HandS.FStr
import HandS.MakeKw
import HandS.MakeKwOnly
import HandS.Words
import HandS.WordsExc
import HandS.Head0
import HandS.Head1
import HandS.Head2
import HandS.Head3
import HandS.HeadEnd
import HandS.HeadHook1
import HandS.HeadHook2
import KE.IntBitsLaws
import PySem.Challenge.RW_stillframe_k00_fractions
set_option Elab.async false
set_option linter.all false
set_option maxRecDepth 100000
set_option maxHeartbeats 0
/-! Z: a plain reading of a Python text: values MV, a store of cells, the relation to what the hand layer tracks. -/
namespace Z
open PySem L2

/-- a value: inline data (never changed), or a cell of the store -/
inductive MV where
  | non | bl (b : Bool) | int (i : Int) | str (s : Str)
  | tup (xs : List MV) | lst (xs : List MV) | frz (xs : List MV) | ins (c : Nat) (xs : List MV)
  | ref (n : Nat) | fn (k : Nat) | exc
/-- what may change -/
inductive Cell where
  | lst (xs : List MV) | ins (c : Nat) (fs : List (Nat × MV)) | dct (kvs : List (MV × MV))
abbrev Sto := List Cell

/-! ### the names of fields, by number; the classes, by number -/
def fnames : List Str := ("at" : Str) :: ("what" : Str) :: ("num" : Str) :: ("den" : Str) :: ("joints" : Str) :: ("rods" : Str) :: ("holds" : Str) :: ("words" : Str) :: ("cursor" : Str) :: ("width" : Str) :: ("many" : Str) :: ("steps" : Str) :: ("loose" : Str) :: ("height" : Str) :: ("flips" : Str) :: ("rows" : Str) :: ("basis" : Str) :: ("costs" : Str) :: ("frame" : Str) :: ("axes" : Str) :: ("sides" : Str) :: ("bounded" : Str) :: ("bounds" : Str) :: ("loads" : Str) :: ("leads" : Str) :: ("size" : Str) :: ("pairs" : Str) :: ("squares" : Str) :: ("first" : Str) :: ("deeds" : Str) :: ("frames" : Str) :: ("later" : Str) :: ("watches" : Str) :: ("known" : Str) :: []
def fnm (i : Nat) : Str := fnames.getD i "?"
theorem fnames_nodup : fnames.Nodup := by decide +kernel
theorem fnm_inj {i j : Nat} (hi : i < 34) (hj : j < 34) (h : fnm i = fnm j) : i = j := by
  have li : i < fnames.length := hi
  have lj : j < fnames.length := hj
  unfold fnm at h
  rw [List.getD_eq_getElem?_getD, List.getD_eq_getElem?_getD, List.getElem?_eq_getElem li, List.getElem?_eq_getElem lj] at h
  exact (List.getElem_inj fnames_nodup).mp h
/-- the fields of each class, in the order in which they are stored -/
def fieldTab : List (Nat × List Nat) := [(1, [0]), (2, [1]), (3, [1]), (4, [1]), (5, [0]), (6, [1]), (8, [1]), (9, [1]), (10, [1]), (11, [1]), (12, [1]),
  (20, [2, 3]), (21, [4, 5, 6]), (22, [7, 0]), (23, [8, 4, 5, 6]), (24, [9, 10, 11, 12]), (25, [13, 9, 14, 15, 16, 3, 17]), (26, [18, 19, 20, 21, 9, 15, 22]), (27, [18, 23, 5, 19, 9, 15]),
  (28, [24]), (29, [25, 5]), (30, [25, 26]), (31, [25, 5]), (32, [27]), (33, [18, 28, 29, 30, 31, 32, 33])]
def fieldsOf (c : Nat) : List Nat := (fieldTab.lookup c).getD []
theorem fieldTab_lt : (fieldTab.all fun p => p.2.all fun f => decide (f < 34)) = true := by decide +kernel
theorem lookup_mem {α : Type} : ∀ {l : List (Nat × α)} {c : Nat} {x : α}, l.lookup c = some x → (c, x) ∈ l
  | (d, y) :: l, c, x, h => by
    rw [List.lookup_cons] at h
    split at h
    · rename_i e
      have e' : c = d := by simpa using e
      cases h; subst e'; exact List.mem_cons_self
    · exact List.mem_cons_of_mem _ (lookup_mem h)
theorem fieldsOf_lt {c f : Nat} (h : f ∈ fieldsOf c) : f < 34 := by
  unfold fieldsOf at h
  cases e : fieldTab.lookup c with
  | none => rw [e] at h; exact absurd h (by simp)
  | some l =>
    rw [e] at h
    have m := lookup_mem e
    have q := List.all_eq_true.mp fieldTab_lt _ m
    have q2 := List.all_eq_true.mp q f h
    simpa using q2
/-- a field of inline data: its place -/
def zipLook : List Nat → List MV → Nat → Option MV
  | i :: is, v :: vs, f => if i = f then some v else zipLook is vs f
  | _, _, _ => none
def putN (f : Nat) (v : MV) : List (Nat × MV) → List (Nat × MV)
  | [] => [(f, v)]
  | (g, w) :: r => if g = f then (g, v) :: r else (g, w) :: putN f v r
def lookN (f : Nat) : List (Nat × MV) → Option MV
  | [] => none
  | (g, w) :: r => if g = f then some w else lookN f r

/-! ### the relation -/
/-- the text's written part: where its classes and defs stand -/
structure Co where
  K : PySem.W.Frag
  cls : Nat → Addr
  has : Nat → Bool
  hasX : Nat → Bool
  fnA : Nat → Addr
/-- .. and the exception that is handled: its class, its fields, the class object, its dict -/
structure Tx extends Co where
  exc : Option (Nat × List (Nat × MV) × Value × Option Addr × Addr)

def FzT (K : PySem.W.Frag) (ρ : List Addr) (H : Hp) (a : Addr) (ys : List V) : Prop :=
  (a ∉ ρ ∧ Rd H a (.tup ys)) ∨ ∃ (o : Obj) (its : Array Value) (n : Nat), K.lookup a = some o ∧ o.cls = .type "tuple" ∧ o.data = .seq its n ∧ its.size ≤ sizeLine ∧ Vals ys its.toList
/-- a list that is locked, or of the written part: read, copied -/
def FzL (K : PySem.W.Frag) (ρ : List Addr) (H : Hp) (a : Addr) (ys : List V) : Prop :=
  (a ∉ ρ ∧ Rd H a (.lst ys)) ∨ ∃ (o : Obj) (its : Array Value) (n : Nat), K.lookup a = some o ∧ o.cls = .type "list" ∧ o.dict = none ∧ o.data = .seq its n ∧ its.size ≤ sizeLine ∧ Vals ys its.toList
theorem FzT.sq {K : PySem.W.Frag} {ρ : List Addr} {H : Hp} {a : Addr} {ys : List V} (h : FzT K ρ H a ys) : SqT K H a ys := h.imp (·.2) id
theorem FzL.sq {K : PySem.W.Frag} {ρ : List Addr} {H : Hp} {a : Addr} {ys : List V} (h : FzL K ρ H a ys) : SqL K H a ys := h.imp (·.2) id

mutual
def RV' (T : Co) (ρ : List Addr) (H : Hp) : MV → V → Prop
  | .non, v => v = .non
  | .bl b, v => v = .bl b
  | .int i, v => v = .int i
  | .str s, v => v = .str s
  | .tup xs, v => ∃ a ys, v = .ref a ∧ FzT T.K ρ H a ys ∧ RVs' T ρ H xs ys
  | .lst xs, v => ∃ a ys, v = .ref a ∧ a ∉ ρ ∧ H a = some (.lst ys) ∧ RVs' T ρ H xs ys
  | .frz xs, v => ∃ a ys, v = .ref a ∧ FzL T.K ρ H a ys ∧ RVs' T ρ H xs ys
  | .ins c xs, v => ∃ a dx vs, v = .ref a ∧ a ∉ ρ ∧ T.has c = true ∧ xs.length = (fieldsOf c).length ∧ H a = some (.ins (T.cls c) dx (((fieldsOf c).map fnm).zip vs)) ∧ RVs' T ρ H xs vs
  | .ref n, v => ∃ a, ρ[n]? = some a ∧ v = .ref a
  | .fn k, v => v = .ref (T.fnA k)
  | .exc, _ => False
def RVs' (T : Co) (ρ : List Addr) (H : Hp) : List MV → List V → Prop
  | [], vs => vs = []
  | x :: xs, vs => ∃ y ys, vs = y :: ys ∧ RV' T ρ H x y ∧ RVs' T ρ H xs ys
end
abbrev RV (T : Tx) := RV' T.toCo
abbrev RVs (T : Tx) := RVs' T.toCo

/-- a dict's key -/
def keyOf : MV → Option Key
  | .int i => some (.inl i)
  | .str s => some (.inr s)
  | _ => none
def keysOf : MV → Option (List Key)
  | .tup xs => xs.mapM keyOf
  | _ => none
def RD (T : Tx) (ρ : List Addr) (H : Hp) (kvs : List (MV × MV)) (o : HO) : Prop :=
  (∃ ys : List (Key × V), o = .dK ys ∧ kvs.map (fun p => keyOf p.1) = ys.map (fun p => some p.1) ∧ RVs T ρ H (kvs.map (·.2)) (ys.map (·.2))) ∨
  (∃ ys : List (List Key × V), o = .dT ys ∧ kvs.map (fun p => keysOf p.1) = ys.map (fun p => some p.1) ∧ RVs T ρ H (kvs.map (·.2)) (ys.map (·.2)))
def RC (T : Tx) (ρ : List Addr) (H : Hp) : Cell → Option HO → Prop
  | .lst xs, o => ∃ ys, o = some (.lst ys) ∧ RVs T ρ H xs ys
  | .ins c fs, o => ∃ dx vs, o = some (.ins (T.cls c) dx ((fs.map fun p => fnm p.1).zip vs)) ∧ T.has c = true ∧ (∀ p ∈ fs, p.1 ∈ fieldsOf c) ∧ fs.length ≤ 40 ∧ RVs T ρ H (fs.map (·.2)) vs
  | .dct kvs, o => ∃ u, o = some u ∧ RD T ρ H kvs u
/-- an exception -/
def RX (T : Tx) (ρ : List Addr) (H : Hp) (c : Nat) (fs : List (Nat × MV)) (cl : Value) (d : Option Addr) : Prop :=
  cl = .ref (T.cls c) ∧ T.hasX c = true ∧ (∀ p ∈ fs, p.1 < 34) ∧ ((fs = [] ∧ d = none) ∨ ∃ dd vs, d = some dd ∧ fs ≠ [] ∧ dd ∉ ρ ∧ H dd = some (.xd ((fs.map fun p => fnm p.1).zip vs)) ∧ RVs T ρ H (fs.map (·.2)) vs)
structure Sim (T : Tx) (ρ : List Addr) (st : Sto) (H : Hp) : Prop where
  len : ρ.length = st.length
  nd : ρ.Nodup
  exc : ∀ c fs cl d a, T.exc = some (c, fs, cl, d, a) → RX T ρ H c fs cl d
  cell : ∀ (i : Nat) (a : Addr) (c : Cell), ρ[i]? = some a → st[i]? = some c → RC T ρ H c (H a)
/-- what is still true later: cells have come, what is inline stays -/
structure Fut (T : Tx) (ρ : List Addr) (H : Hp) (ρ' : List Addr) (st' : Sto) (H' : Hp) : Prop where
  more : ∃ e, ρ' = ρ ++ e ∧ ∀ a ∈ e, H a = none
  sim : Sim T ρ' st' H'
  keep : ∀ a o, a ∉ ρ → H a = some o → H' a = some o

section
variable {T : Tx} {ρ ρ' ρ1 ρ2 : List Addr} {H H' H1 H2 : Hp} {st st' st1 st2 : Sto}
theorem RC.some {c : Cell} {o : Option HO} (h : RC T ρ H c o) : ∃ u, o = some u := by
  cases c with
  | lst xs => obtain ⟨ys, e, _⟩ := h; exact ⟨_, e⟩
  | ins c fs => obtain ⟨dx, vs, e, _⟩ := h; exact ⟨_, e⟩
  | dct kvs => obtain ⟨u, e, _⟩ := h; exact ⟨_, e⟩
theorem Sim.tracked (S : Sim T ρ st H) {a : Addr} (h : a ∈ ρ) : ∃ u, H a = some u := by
  obtain ⟨i, hi, e⟩ := List.mem_iff_getElem.mp h
  have e1 : ρ[i]? = some a := by rw [List.getElem?_eq_getElem hi, e]
  have hs : i < st.length := by rw [← S.len]; exact hi
  exact (S.cell i a st[i] e1 (List.getElem?_eq_getElem hs)).some
theorem Sim.at (S : Sim T ρ st H) {i : Nat} {c : Cell} (h : st[i]? = some c) : ∃ a, ρ[i]? = some a ∧ RC T ρ H c (H a) := by
  have hi : i < ρ.length := by rw [S.len]; exact (List.getElem?_eq_some_iff.mp h).1
  exact ⟨ρ[i], List.getElem?_eq_getElem hi, S.cell i _ c (List.getElem?_eq_getElem hi) h⟩
theorem Sim.inj (S : Sim T ρ st H) {i j : Nat} {a : Addr} (h : ρ[i]? = some a) (h' : ρ[j]? = some a) : i = j := by
  obtain ⟨hi, e⟩ := List.getElem?_eq_some_iff.mp h
  obtain ⟨hj, e'⟩ := List.getElem?_eq_some_iff.mp h'
  exact (List.getElem_inj S.nd).mp (e.trans e'.symm)
/-! ### later -/
/-- the part of Fut that values lean on -/
structure Lat (ρ : List Addr) (H : Hp) (ρ' : List Addr) (H' : Hp) : Prop where
  more : ∃ e, ρ' = ρ ++ e ∧ ∀ a ∈ e, H a = none
  keep : ∀ a o, a ∉ ρ → H a = some o → H' a = some o
theorem Fut.lat (F : Fut T ρ H ρ' st' H') : Lat ρ H ρ' H' := ⟨F.more, F.keep⟩
theorem Lat.refl : Lat ρ H ρ H := ⟨⟨[], by simp, by simp⟩, fun _ _ _ h => h⟩
theorem Lat.out (L : Lat ρ H ρ' H') {a : Addr} {o : HO} (n : a ∉ ρ) (h : H a = some o) : a ∉ ρ' ∧ H' a = some o := by
  obtain ⟨e, rfl, he⟩ := L.more
  refine ⟨fun m => ?_, L.keep a o n h⟩
  rcases List.mem_append.mp m with m | m
  · exact n m
  · rw [he a m] at h; cases h
theorem Lat.rd (L : Lat ρ H ρ' H') {a : Addr} {u : HO} (n : a ∉ ρ) (h : Rd H a u) : a ∉ ρ' ∧ Rd H' a u := by
  rcases h with h | ⟨o, h⟩
  · exact ⟨(L.out n h).1, .inl (L.out n h).2⟩
  · exact ⟨(L.out n h).1, .inr ⟨o, (L.out n h).2⟩⟩
theorem Lat.ix (L : Lat ρ H ρ' H') {i : Nat} {a : Addr} (h : ρ[i]? = some a) : ρ'[i]? = some a := by
  obtain ⟨e, rfl, _⟩ := L.more
  have hi := (List.getElem?_eq_some_iff.mp h).1
  rw [List.getElem?_append_left hi]; exact h
mutual
theorem RV.later (L : Lat ρ H ρ' H') : ∀ (m : MV) (v : V), RV T ρ H m v → RV T ρ' H' m v
  | .non, v, h => h
  | .bl _, v, h => h
  | .int _, v, h => h
  | .str _, v, h => h
  | .fn _, v, h => h
  | .exc, v, h => h
  | .tup xs, v, h => by
    obtain ⟨a, ys, e, z, r⟩ := h
    refine ⟨a, ys, e, ?_, RVs.later L xs ys r⟩
    rcases z with ⟨n, z⟩ | z
    · exact .inl (L.rd n z)
    · exact .inr z
  | .lst xs, v, h => by
    obtain ⟨a, ys, e, n, z, r⟩ := h
    exact ⟨a, ys, e, (L.out n z).1, (L.out n z).2, RVs.later L xs ys r⟩
  | .frz xs, v, h => by
    obtain ⟨a, ys, e, z, r⟩ := h
    refine ⟨a, ys, e, ?_, RVs.later L xs ys r⟩
    rcases z with ⟨n, z⟩ | z
    · exact .inl (L.rd n z)
    · exact .inr z
  | .ins c xs, v, h => by
    obtain ⟨a, dx, vs, e, n, hc, hl, z, r⟩ := h
    exact ⟨a, dx, vs, e, (L.out n z).1, hc, hl, (L.out n z).2, RVs.later L xs vs r⟩
  | .ref n, v, h => by
    obtain ⟨a, e, e2⟩ := h
    exact ⟨a, L.ix e, e2⟩
theorem RVs.later (L : Lat ρ H ρ' H') : ∀ (ms : List MV) (vs : List V), RVs T ρ H ms vs → RVs T ρ' H' ms vs
  | [], vs, h => h
  | x :: xs, vs, h => by
    obtain ⟨y, ys, e, h1, h2⟩ := h
    exact ⟨y, ys, e, RV.later L x y h1, RVs.later L xs ys h2⟩
end
theorem Lat.trans (a : Lat ρ H ρ1 H1) (b : Lat ρ1 H1 ρ2 H2) (S : ∀ x ∈ ρ, ∃ u, H1 x = some u) : Lat ρ H ρ2 H2 := by
  obtain ⟨e1, rfl, n1⟩ := a.more
  obtain ⟨e2, rfl, n2⟩ := b.more
  refine ⟨⟨e1 ++ e2, by rw [List.append_assoc], fun x hx => ?_⟩, fun x o n h => (b.out (a.out n h).1 (a.out n h).2).2⟩
  rcases List.mem_append.mp hx with hx | hx
  · exact n1 x hx
  · cases q : H x with
    | none => rfl
    | some o =>
      by_cases hr : x ∈ ρ
      · obtain ⟨u, hu⟩ := S x hr
        rw [n2 x hx] at hu; cases hu
      · have := (a.out hr q).2
        rw [n2 x hx] at this; cases this
theorem Fut.refl (S : Sim T ρ st H) : Fut T ρ H ρ st H := ⟨Lat.refl.more, S, Lat.refl.keep⟩
theorem Fut.sub (F : Fut T ρ H ρ' st' H') : ∀ x ∈ ρ, ∃ u, H' x = some u := fun x hx => by
  obtain ⟨e, rfl, _⟩ := F.more
  exact F.sim.tracked (List.mem_append_left _ hx)
theorem Fut.trans (a : Fut T ρ H ρ1 st1 H1) (b : Fut T ρ1 H1 ρ2 st2 H2) : Fut T ρ H ρ2 st2 H2 :=
  let L := a.lat.trans b.lat a.sub
  ⟨L.more, b.sim, L.keep⟩
theorem RVs.length : ∀ {ms : List MV} {vs : List V}, RVs T ρ H ms vs → ms.length = vs.length
  | [], vs, h => by subst h; rfl
  | x :: xs, vs, h => by
    obtain ⟨y, ys, rfl, _, h2⟩ := h
    rw [List.length_cons, List.length_cons, RVs.length h2]
theorem RVs.get : ∀ {ms : List MV} {vs : List V} {i : Nat} {m : MV}, RVs T ρ H ms vs → ms[i]? = some m → ∃ v, vs[i]? = some v ∧ RV T ρ H m v
  | [], vs, i, m, _, e => by simp at e
  | x :: xs, vs, 0, m, h, e => by
    obtain ⟨y, ys, rfl, h1, _⟩ := h
    simp at e; subst e
    exact ⟨y, rfl, h1⟩
  | x :: xs, vs, i + 1, m, h, e => by
    obtain ⟨y, ys, rfl, _, h2⟩ := h
    obtain ⟨v, q, r⟩ := RVs.get (i := i) h2 (by simpa using e)
    exact ⟨v, by simpa using q, r⟩
theorem RVs.getV : ∀ {ms : List MV} {vs : List V} {i : Nat} {v : V}, RVs T ρ H ms vs → vs[i]? = some v → ∃ m, ms[i]? = some m ∧ RV T ρ H m v := fun {ms vs i v} h e => by
  have hi : i < ms.length := by rw [h.length]; exact (List.getElem?_eq_some_iff.mp e).1
  obtain ⟨v', e', r⟩ := h.get (List.getElem?_eq_getElem hi)
  rw [e] at e'; cases e'
  exact ⟨_, List.getElem?_eq_getElem hi, r⟩
theorem RVs.append : ∀ {ms ns : List MV} {vs us : List V}, RVs T ρ H ms vs → RVs T ρ H ns us → RVs T ρ H (ms ++ ns) (vs ++ us)
  | [], ns, vs, us, h, h' => by cases h; exact h'
  | x :: xs, ns, vs, us, h, h' => by
    obtain ⟨y, ys, rfl, h1, h2⟩ := h
    exact ⟨y, ys ++ us, rfl, h1, RVs.append h2 h'⟩
theorem RVs.one {m : MV} {v : V} (h : RV T ρ H m v) : RVs T ρ H [m] [v] := ⟨v, [], rfl, h, rfl⟩
theorem RVs.set {m : MV} {v : V} (r : RV T ρ H m v) : ∀ {ms : List MV} {vs : List V} (i : Nat), RVs T ρ H ms vs → RVs T ρ H (ms.set i m) (vs.set i v)
  | [], vs, i, h => by cases h; exact rfl
  | x :: xs, vs, 0, h => by
    obtain ⟨y, ys, rfl, _, h2⟩ := h
    exact ⟨v, ys, rfl, r, h2⟩
  | x :: xs, vs, i + 1, h => by
    obtain ⟨y, ys, rfl, h1, h2⟩ := h
    exact ⟨y, ys.set i v, rfl, h1, RVs.set r i h2⟩
theorem RVs.drop : ∀ {ms : List MV} {vs : List V} (i : Nat), RVs T ρ H ms vs → RVs T ρ H (ms.drop i) (vs.drop i)
  | ms, vs, 0, h => h
  | [], vs, i + 1, h => by cases h; exact rfl
  | x :: xs, vs, i + 1, h => by
    obtain ⟨y, ys, rfl, h1, h2⟩ := h
    exact RVs.drop i h2
theorem RVs.take : ∀ {ms : List MV} {vs : List V} (i : Nat), RVs T ρ H ms vs → RVs T ρ H (ms.take i) (vs.take i)
  | ms, vs, 0, h => rfl
  | [], vs, i + 1, h => by cases h; exact rfl
  | x :: xs, vs, i + 1, h => by
    obtain ⟨y, ys, rfl, h1, h2⟩ := h
    exact ⟨y, ys.take i, rfl, h1, RVs.take i h2⟩
theorem RVs.erase : ∀ {ms : List MV} {vs : List V} (i : Nat), RVs T ρ H ms vs → RVs T ρ H (ms.eraseIdx i) (vs.eraseIdx i)
  | [], vs, i, h => by cases h; exact rfl
  | x :: xs, vs, 0, h => by
    obtain ⟨y, ys, rfl, h1, h2⟩ := h
    exact h2
  | x :: xs, vs, i + 1, h => by
    obtain ⟨y, ys, rfl, h1, h2⟩ := h
    exact ⟨y, ys.eraseIdx i, rfl, h1, RVs.erase i h2⟩
theorem RC.later (L : Lat ρ H ρ' H') : ∀ {c : Cell} {o : Option HO}, RC T ρ H c o → RC T ρ' H' c o
  | .lst xs, o, h => by obtain ⟨ys, e, r⟩ := h; exact ⟨ys, e, RVs.later L _ _ r⟩
  | .ins c fs, o, h => by obtain ⟨dx, vs, e, hc, hf, hz, r⟩ := h; exact ⟨dx, vs, e, hc, hf, hz, RVs.later L _ _ r⟩
  | .dct kvs, o, h => by
    obtain ⟨u, e, r⟩ := h
    refine ⟨u, e, ?_⟩
    rcases r with ⟨ys, e2, k, r⟩ | ⟨ys, e2, k, r⟩
    · exact .inl ⟨ys, e2, k, RVs.later L _ _ r⟩
    · exact .inr ⟨ys, e2, k, RVs.later L _ _ r⟩
theorem RX.later (L : Lat ρ H ρ' H') {c : Nat} {fs : List (Nat × MV)} {cl : Value} {d : Option Addr} (h : RX T ρ H c fs cl d) : RX T ρ' H' c fs cl d := by
  obtain ⟨h1, h2, h3, h4⟩ := h
  refine ⟨h1, h2, h3, ?_⟩
  rcases h4 with h4 | ⟨dd, vs, e, ne, n, z, r⟩
  · exact .inl h4
  · exact .inr ⟨dd, vs, e, ne, (L.out n z).1, (L.out n z).2, RVs.later L _ _ r⟩
/-! ### what may happen to the store -/
/-- a new object that is no cell -/
theorem Sim.fresh (S : Sim T ρ st H) {p : Addr} {o : HO} (hp : H p = none) : Fut T ρ H ρ st (upd H p o) := by
  have np : p ∉ ρ := fun h => by obtain ⟨u, e⟩ := S.tracked h; rw [hp] at e; cases e
  have L : Lat ρ H ρ (upd H p o) := ⟨Lat.refl.more, fun a u _ h => by rw [upd_ne (ne_of_none h hp)]; exact h⟩
  refine ⟨L.more, ⟨S.len, S.nd, fun c fs cl d a h => (S.exc c fs cl d a h).later L, fun i a c e1 e2 => ?_⟩, L.keep⟩
  have r := S.cell i a c e1 e2
  obtain ⟨u, hu⟩ := r.some
  rw [upd_ne (ne_of_none hu hp)]
  exact r.later L
theorem Sim.free (S : Sim T ρ st H) {p : Addr} (hp : H p = none) : p ∉ ρ := fun h => by obtain ⟨u, e⟩ := S.tracked h; rw [hp] at e; cases e
/-- a new cell -/
theorem Sim.push (S : Sim T ρ st H) {p : Addr} {o : HO} {c : Cell} (hp : H p = none) (r : ∀ ρ' H', Lat ρ H ρ' H' → RC T ρ' H' c (some o)) : Fut T ρ H (ρ ++ [p]) (st ++ [c]) (upd H p o) := by
  have np := S.free hp
  have L : Lat ρ H (ρ ++ [p]) (upd H p o) := ⟨⟨[p], rfl, fun a h => by rw [List.mem_singleton.mp h]; exact hp⟩, fun a u _ h => by rw [upd_ne (ne_of_none h hp)]; exact h⟩
  refine ⟨L.more, ⟨by simp [S.len], ?_, fun c fs cl d a h => (S.exc c fs cl d a h).later L, fun i a d e1 e2 => ?_⟩, L.keep⟩
  · rw [List.nodup_append]
    refine ⟨S.nd, by simp, fun a ha b hb => ?_⟩
    rw [List.mem_singleton.mp hb]
    exact fun e => np (e ▸ ha)
  · by_cases hi : i < st.length
    · rw [List.getElem?_append_left (by rw [S.len]; exact hi)] at e1
      rw [List.getElem?_append_left hi] at e2
      have q := S.cell i a d e1 e2
      obtain ⟨u, hu⟩ := q.some
      rw [upd_ne (ne_of_none hu hp)]
      exact q.later L
    · have hl := (List.getElem?_eq_some_iff.mp e2).1
      rw [List.length_append, List.length_singleton] at hl
      have ei : i = st.length := by omega
      subst ei
      rw [List.getElem?_append_right (Nat.le_refl _), Nat.sub_self] at e2
      rw [← S.len, List.getElem?_append_right (Nat.le_refl _), Nat.sub_self] at e1
      simp at e1 e2
      subst e1 e2
      rw [upd_same]
      exact r _ _ L
/-- a cell changed -/
theorem Sim.set (S : Sim T ρ st H) {i : Nat} {a : Addr} {o : HO} {c : Cell} (h : ρ[i]? = some a) (r : ∀ ρ' H', Lat ρ H ρ' H' → RC T ρ' H' c (some o)) : Fut T ρ H ρ (st.set i c) (upd H a o) := by
  have ma : a ∈ ρ := List.mem_of_getElem? h
  have L : Lat ρ H ρ (upd H a o) := ⟨Lat.refl.more, fun b u n e => by rw [upd_ne (fun z => n (by rw [z]; exact ma))]; exact e⟩
  refine ⟨L.more, ⟨by rw [List.length_set]; exact S.len, S.nd, fun c fs cl d a h => (S.exc c fs cl d a h).later L, fun j b d e1 e2 => ?_⟩, L.keep⟩
  by_cases hj : j = i
  · subst hj
    rw [h] at e1; cases e1
    have hl := (List.getElem?_eq_some_iff.mp e2).1
    rw [List.length_set] at hl
    rw [List.getElem?_set_self hl] at e2
    cases e2
    rw [upd_same]
    exact r _ _ L
  · rw [List.getElem?_set_ne (Ne.symm hj)] at e2
    have hb : b ≠ a := fun z => hj (S.inj e1 (z ▸ h))
    rw [upd_ne hb]
    exact (S.cell j b d e1 e2).later L
end
section
variable {T : Tx} {ρ ρ' : List Addr} {H H' : Hp}
theorem RV'.later {m : MV} {v : V} (h : RV' T.toCo ρ H m v) (L : Lat ρ H ρ' H') : RV T ρ' H' m v := RV.later (T := T) L m v h
theorem RVs'.later {ms : List MV} {vs : List V} (h : RVs' T.toCo ρ H ms vs) (L : Lat ρ H ρ' H') : RVs T ρ' H' ms vs := RVs.later (T := T) L ms vs h
theorem RVs'.length {ms : List MV} {vs : List V} (h : RVs' T.toCo ρ H ms vs) : ms.length = vs.length := RVs.length (T := T) h
theorem RVs'.get {ms : List MV} {vs : List V} {i : Nat} {m : MV} (h : RVs' T.toCo ρ H ms vs) (e : ms[i]? = some m) : ∃ v, vs[i]? = some v ∧ RV T ρ H m v := RVs.get (T := T) h e
theorem RVs'.append {ms ns : List MV} {vs us : List V} (h : RVs' T.toCo ρ H ms vs) (h' : RVs' T.toCo ρ H ns us) : RVs T ρ H (ms ++ ns) (vs ++ us) := RVs.append (T := T) h h'
theorem RVs'.set {ms : List MV} {vs : List V} {m : MV} {v : V} (h : RVs' T.toCo ρ H ms vs) (r : RV' T.toCo ρ H m v) (i : Nat) : RVs T ρ H (ms.set i m) (vs.set i v) := RVs.set (T := T) r i h
theorem RVs'.isEmpty {xs : List MV} {ys : List V} (r : RVs' T.toCo ρ H xs ys) : xs.isEmpty = ys.isEmpty := by
  have := RVs.length (T := T) r
  cases xs <;> cases ys <;> first | rfl | (simp at this)
end
end Z

namespace Z
open PySem L2

/-! ### the plain reading's own monad -/
inductive R (α : Type) where
  | ok (a : α) (s : Sto) | ex (c : Nat) (fs : List (Nat × MV)) (s : Sto) | bad
abbrev M (α : Type) := Sto → R α
def M.ret {α : Type} (a : α) : M α := fun s => .ok a s
def M.bnd {α β : Type} (m : M α) (f : α → M β) : M β := fun s => match m s with
  | .ok a t => f a t
  | .ex c fs t => .ex c fs t
  | .bad => .bad
def M.opt {α : Type} (o : Option α) : M α := fun s => match o with
  | some a => .ok a s
  | none => .bad
abbrev Ev := List (Option MV)
def REnv (T : Tx) (ρ : List Addr) (H : Hp) : Ev → St → Prop
  | [], σ => σ = []
  | none :: e, σ => ∃ o σ', σ = o :: σ' ∧ REnv T ρ H e σ'
  | some m :: e, σ => ∃ v σ', σ = some v :: σ' ∧ (RV T ρ H m v ∨ (m = .exc ∧ ∃ c fs cl d a, T.exc = some (c, fs, cl, d, a) ∧ v = .ref a)) ∧ REnv T ρ H e σ'
def Out {α β : Type} (T : Tx) (W : WX) (rel : List Addr → Hp → α → β → Prop) (ρ : List Addr) (H : Hp) (σ : St) (r : R α) (Q : β → Hp → Prop) : Prop :=
  match r with
  | .ok a s' => ∀ ρ' H' b, Fut T ρ H ρ' s' H' → rel ρ' H' a b → Q b H'
  | .ex c fs s' => ∀ ρ' H' cl d, Fut T ρ H ρ' s' H' → RX T ρ' H' c fs cl d → W cl d σ H'
  | .bad => False
def tG {α β : Type} (T : Tx) (W : WX) (rel : List Addr → Hp → α → β → Prop) (m : Ev → M α) : St → Hp → (β → Hp → Prop) → Prop := fun σ H Q =>
  ∃ ρ st env, Sim T ρ st H ∧ REnv T ρ H env σ ∧ Out T W rel ρ H σ (m env st) Q
abbrev tE (T : Tx) (W : WX) (m : Ev → M MV) : TE := tG T W (RV T) m
abbrev relB : List Addr → Hp → Bool → Bool → Prop := fun _ _ a b => a = b
abbrev tT (T : Tx) (W : WX) (m : Ev → M Bool) : TT := tG T W relB m
abbrev tA (T : Tx) (W : WX) (m : Ev → M (List MV)) : TA := tG T W (RVs T) m

section
variable {T : Tx} {W : WX} {ρ ρ' ρ1 : List Addr} {H H' H1 : Hp} {σ : St} {st s1 : Sto} {α β γ δ : Type}
theorem REnv.later (L : Lat ρ H ρ' H') : ∀ {e : Ev} {σ : St}, REnv T ρ H e σ → REnv T ρ' H' e σ
  | [], _, h => h
  | none :: e, _, h => by obtain ⟨o, σ', q, r⟩ := h; exact ⟨o, σ', q, REnv.later L r⟩
  | some m :: e, _, h => by obtain ⟨v, σ', q, r1, r⟩ := h; exact ⟨v, σ', q, r1.imp (fun z => z.later L) id, REnv.later L r⟩
theorem REnv.get : ∀ {e : Ev} {σ : St} {i : Nat} {m : MV}, REnv T ρ H e σ → e[i]? = some (some m) → ∃ v, σ[i]? = some (some v) ∧ (RV T ρ H m v ∨ (m = .exc ∧ ∃ c fs cl d a, T.exc = some (c, fs, cl, d, a) ∧ v = .ref a))
  | [], _, _, _, _, q => by simp at q
  | none :: e, _, 0, m, _, q => by simp at q
  | none :: e, _, i + 1, m, h, q => by
    obtain ⟨o, σ', rfl, r⟩ := h
    obtain ⟨v, q1, q2⟩ := REnv.get (i := i) r (by simpa using q)
    exact ⟨v, by simpa using q1, q2⟩
  | some m' :: e, _, 0, m, h, q => by
    obtain ⟨v, σ', rfl, r1, r⟩ := h
    simp at q; subst q
    exact ⟨v, rfl, r1⟩
  | some m' :: e, _, i + 1, m, h, q => by
    obtain ⟨v, σ', rfl, r1, r⟩ := h
    obtain ⟨v, q1, q2⟩ := REnv.get (i := i) r (by simpa using q)
    exact ⟨v, by simpa using q1, q2⟩
theorem REnv.set {m : MV} {v : V} (r : RV T ρ H m v) : ∀ {e : Ev} {σ : St} (i : Nat), REnv T ρ H e σ → REnv T ρ H (e.set i (some m)) (σ.set i (some v))
  | [], _, i, h => by cases h; exact rfl
  | none :: e, _, 0, h => by obtain ⟨o, σ', rfl, q⟩ := h; exact ⟨v, σ', rfl, .inl r, q⟩
  | none :: e, _, i + 1, h => by obtain ⟨o, σ', rfl, q⟩ := h; exact ⟨o, σ'.set i (some v), rfl, REnv.set r i q⟩
  | some m' :: e, _, 0, h => by obtain ⟨o, σ', rfl, _, q⟩ := h; exact ⟨v, σ', rfl, .inl r, q⟩
  | some m' :: e, _, i + 1, h => by obtain ⟨o, σ', rfl, r1, q⟩ := h; exact ⟨o, σ'.set i (some v), rfl, r1, REnv.set r i q⟩
theorem REnv.unset : ∀ {e : Ev} {σ : St} (i : Nat), REnv T ρ H e σ → REnv T ρ H (e.set i none) (σ.set i none)
  | [], _, i, h => by cases h; exact rfl
  | none :: e, _, 0, h => by obtain ⟨o, σ', rfl, q⟩ := h; exact ⟨none, σ', rfl, q⟩
  | none :: e, _, i + 1, h => by obtain ⟨o, σ', rfl, q⟩ := h; exact ⟨o, σ'.set i none, rfl, REnv.unset i q⟩
  | some m' :: e, _, 0, h => by obtain ⟨o, σ', rfl, _, q⟩ := h; exact ⟨none, σ', rfl, q⟩
  | some m' :: e, _, i + 1, h => by obtain ⟨o, σ', rfl, r1, q⟩ := h; exact ⟨o, σ'.set i none, rfl, r1, REnv.unset i q⟩
theorem REnv.start : ∀ {ms : List MV} {vs : List V}, RVs T ρ H ms vs → ∀ n : Nat, REnv T ρ H (ms.map some ++ List.replicate n none) (vs.map some ++ List.replicate n none)
  | [], vs, h, 0 => by cases h; exact rfl
  | [], vs, h, n + 1 => by cases h; exact ⟨none, _, rfl, REnv.start (ms := []) (vs := []) rfl n⟩
  | m :: ms, vs, h, n => by obtain ⟨y, ys, rfl, h1, h2⟩ := h; exact ⟨y, _, rfl, .inl h1, REnv.start h2 n⟩
theorem REnv.len : ∀ {e : Ev} {σ : St}, REnv T ρ H e σ → e.length = σ.length
  | [], _, h => by cases h; rfl
  | none :: e, _, h => by obtain ⟨o, σ', rfl, r⟩ := h; simp [REnv.len r]
  | some m :: e, _, h => by obtain ⟨o, σ', rfl, _, r⟩ := h; simp [REnv.len r]

theorem Out.imp {rel : List Addr → Hp → α → β → Prop} {r : R α} {Q Q' : β → Hp → Prop} (h : Out T W rel ρ H σ r Q) (q : ∀ b H', Q b H' → Q' b H') : Out T W rel ρ H σ r Q' := by
  cases r with
  | ok a s => exact fun ρ' H' b F r => q _ _ (h ρ' H' b F r)
  | ex c fs s => exact h
  | bad => exact h
theorem Out.fut {rel : List Addr → Hp → α → β → Prop} {r : R α} {Q : β → Hp → Prop} (F : Fut T ρ H ρ1 s1 H1) (h : Out T W rel ρ H σ r Q) : Out T W rel ρ1 H1 σ r Q := by
  cases r with
  | ok a s => exact fun ρ' H' b F' r => h ρ' H' b (F.trans F') r
  | ex c fs s => exact fun ρ' H' cl d F' r => h ρ' H' cl d (F.trans F') r
  | bad => exact h
theorem Out.bnd {rel : List Addr → Hp → α → β → Prop} {rel' : List Addr → Hp → γ → δ → Prop} {m : M α} {f : α → M γ} {Q : δ → Hp → Prop} (h : Out T W rel' ρ H σ (M.bnd m f st) Q) :
    Out T W rel ρ H σ (m st) (fun b H1 => ∃ ρ1 s1 a, Fut T ρ H ρ1 s1 H1 ∧ rel ρ1 H1 a b ∧ Out T W rel' ρ1 H1 σ (f a s1) Q) := by
  unfold M.bnd at h
  cases e : m st with
  | ok a t =>
    rw [e] at h
    exact fun ρ1 H1 b F r => ⟨ρ1, t, a, F, r, h.fut F⟩
  | ex c fs t =>
    rw [e] at h
    exact h
  | bad =>
    rw [e] at h
    exact h
theorem Out.now {rel : List Addr → Hp → α → β → Prop} {a : α} {b : β} {Q : β → Hp → Prop} (S : Sim T ρ st H) (h : Out T W rel ρ H σ (M.ret a st) Q) (r : rel ρ H a b) : Q b H := h ρ H b (Fut.refl S) r
/-- the state of a further step -/
theorem tG.step {rel : List Addr → Hp → α → β → Prop} {rel' : List Addr → Hp → γ → δ → Prop} {m : Ev → M α} {f : Ev → α → M γ} {Q : δ → Hp → Prop} (h : tG T W rel' (fun env => M.bnd (m env) (f env)) σ H Q) :
    tG T W rel m σ H (fun b H1 => ∃ ρ1 s1 env a, Sim T ρ1 s1 H1 ∧ REnv T ρ1 H1 env σ ∧ rel ρ1 H1 a b ∧ Out T W rel' ρ1 H1 σ (f env a s1) Q) := by
  obtain ⟨ρ, st, env, S, E, h⟩ := h
  exact ⟨ρ, st, env, S, E, h.bnd.imp fun b H1 ⟨ρ1, s1, a, F, r, q⟩ => ⟨ρ1, s1, env, a, F.sim, E.later F.lat, r, q⟩⟩
end

section
variable {X : Cx} {e : Expr} {st : Stmt} {sts : List Stmt}
theorem pe_mono {t t' : TE} (h : PE X e t) (q : ∀ σ H Q, t' σ H Q → t σ H Q) : PE X e t' := ⟨fun pins s σ H Q I z => h.run pins s σ H Q I (q σ H Q z)⟩
theorem pt_mono {t t' : TT} (h : PT X e t) (q : ∀ σ H Q, t' σ H Q → t σ H Q) : PT X e t' := ⟨fun pins s σ H Q I z => h.run pins s σ H Q I (q σ H Q z)⟩
theorem pw_mono {t t' : TT} (h : PW X e t) (q : ∀ σ H Q, t' σ H Q → t σ H Q) : PW X e t' := ⟨fun w pins s σ H Q I z => h.run w pins s σ H Q I (q σ H Q z)⟩
theorem pa_mono {es : List Expr} {t t' : TA} (h : PA X es t) (q : ∀ σ H Q, t' σ H Q → t σ H Q) : PA X es t' := ⟨fun pos pins s σ H Q I z => h.run pos pins s σ H Q I (q σ H Q z)⟩
theorem ps_mono {t t' : TS} (h : PS X st t) (q : ∀ D σ H, t' D σ H → t D σ H) : PS X st t' := ⟨fun pins s σ H D I z => h.run pins s σ H D I (q D σ H z)⟩
theorem pss_mono {t t' : TS} (h : PSs X sts t) (q : ∀ D σ H, t' D σ H → t D σ H) : PSs X sts t' := ⟨fun pins s σ H D I z => h.run pins s σ H D I (q D σ H z)⟩
end

/-! ### names, constants -/
def mVar (i : Nat) : Ev → M MV := fun env s => match env.getD i none with
  | some .exc => .bad
  | some v => .ok v s
  | none => .bad
def mC (v : MV) : Ev → M MV := fun _ => M.ret v
section
variable {X : Cx} {T : Tx} {W : WX} {ma mb mc : Ev → M MV} {a b c : Expr} {pos : Pos}
theorem v_var (i : Nat) {x : Str} (hN : X.N[i]? = some x := by rfl) (hv : Vis X.env.scope x := by first | exact Or.inl rfl | exact Or.inr (Or.inl rfl) | exact Or.inr (Or.inr rfl)) (hd : (x == ("__debug__" : Str)) = false := by decide)
    (hcd : (x == ("__classdict__" : Str)) = false := by decide) : PE X (.Name x pos) (tE T W (mVar i)) := by
  refine pe_mono (pv i hN hv hd hcd) fun σ H Q h => ?_
  obtain ⟨ρ, st, env, S, E, h⟩ := h
  unfold mVar at h
  cases e : env.getD i none with
  | none => simp only [e] at h; exact h.elim
  | some m =>
    simp only [e] at h
    have e' : env[i]? = some (some m) := by
      rw [List.getD_eq_getElem?_getD] at e
      cases q : env[i]? with
      | none => rw [q] at e; cases e
      | some o => rw [q] at e; simp at e; rw [e]
    obtain ⟨v, q, r⟩ := E.get e'
    rcases r with r | ⟨rfl, _⟩
    · cases m with
      | exc => exact r.elim
      | _ => exact ⟨v, q, h ρ H v (Fut.refl S) r⟩
    · exact h.elim
theorem v_c {v : MV} {w : V} (h : PE X a (tC w)) (r : ∀ ρ H, RV T ρ H v w) : PE X a (tE T W (mC v)) := by
  refine pe_mono h fun σ H Q h => ?_
  obtain ⟨ρ, st, env, S, E, h⟩ := h
  exact h ρ H w (Fut.refl S) (r _ _)
theorem v_int {i : Int} {j : Nat} : PE X (.Constant (.int i) j pos) (tE T W (mC (.int i))) := v_c pe_int fun _ _ => rfl
theorem v_bl {i : Bool} {j : Nat} : PE X (.Constant (.bool i) j pos) (tE T W (mC (.bl i))) := v_c pe_bl fun _ _ => rfl
theorem v_non {j : Nat} : PE X (.Constant .none j pos) (tE T W (mC .non)) := v_c pe_non fun _ _ => rfl
theorem v_str {i : Str} {j : Nat} : PE X (.Constant (.str i) j pos) (tE T W (mC (.str i))) := v_c pe_str fun _ _ => rfl

/-! ### operators on values: f reads the store, makes inline data -/
def mBin (f : Sto → MV → MV → Option MV) (ma mb : Ev → M MV) : Ev → M MV := fun env => M.bnd (ma env) fun x => M.bnd (mb env) fun y s => M.opt (f s x y) s
def mUn (f : Sto → MV → Option MV) (ma : Ev → M MV) : Ev → M MV := fun env => M.bnd (ma env) fun x s => M.opt (f s x) s
/-- what an operator on values is asked -/
def rB (T : Tx) (f : Sto → MV → MV → Option MV) : R2 := fun x y H Q => ∃ ρ st a b v, Sim T ρ st H ∧ RV T ρ H a x ∧ RV T ρ H b y ∧ f st a b = some v ∧ ∀ H' u, Fut T ρ H ρ st H' → RV T ρ H' v u → Q u H'
def rU1 (T : Tx) (f : Sto → MV → Option MV) : V → Hp → VK → Prop := fun x H Q => ∃ ρ st a v, Sim T ρ st H ∧ RV T ρ H a x ∧ f st a = some v ∧ ∀ H' u, Fut T ρ H ρ st H' → RV T ρ H' v u → Q u H'
theorem opt_out {α β : Type} {rel : List Addr → Hp → α → β → Prop} {ρ : List Addr} {H : Hp} {σ : St} {o : Option α} {st : Sto} {Q : β → Hp → Prop} (h : Out T W rel ρ H σ (M.opt o st) Q) : ∃ a, o = some a ∧ ∀ ρ' H' b, Fut T ρ H ρ' st H' → rel ρ' H' a b → Q b H' := by
  unfold M.opt at h
  cases o with
  | none => exact h.elim
  | some a => exact ⟨a, rfl, h⟩
theorem bin_red {f : Sto → MV → MV → Option MV} {σ : St} {H : Hp} {Q : VK} (h : tE T W (mBin f ma mb) σ H Q) : tOp (rB T f) (tE T W ma) (tE T W mb) σ H Q := by
  obtain ⟨ρ, st, env, S, E, h⟩ := h
  refine ⟨ρ, st, env, S, E, h.bnd.imp fun x H1 ⟨ρ1, s1, a, F1, r1, q1⟩ => ?_⟩
  refine ⟨ρ1, s1, env, F1.sim, E.later F1.lat, (Out.bnd q1).imp fun y H2 ⟨ρ2, s2, b, F2, r2, q2⟩ => ?_⟩
  obtain ⟨v, e, q3⟩ := opt_out q2
  exact ⟨ρ2, s2, a, b, v, F2.sim, r1.later F2.lat, r2, e, fun H' u F r => q3 ρ2 H' u F r⟩
theorem v_bin {op : Operator} {f : Sto → MV → MV → Option MV} (ho : OpR X (binaryOp op) (rB T f)) (ha : PE X a (tE T W ma)) (hb : PE X b (tE T W mb)) : PE X (.BinOp a op b pos) (tE T W (mBin f ma mb)) :=
  pe_mono (pe_op ho ha hb) fun σ H Q h => bin_red h
theorem v_un {op : UnaryOp} {f : Sto → MV → Option MV} (ho : UnR X (unaryOp op) (rU1 T f)) (ha : PE X a (tE T W ma)) : PE X (.UnaryOp op a pos) (tE T W (mUn f ma)) := by
  refine pe_mono (pe_un ho ha) fun σ H Q h => ?_
  obtain ⟨ρ, st, env, S, E, h⟩ := h
  refine ⟨ρ, st, env, S, E, h.bnd.imp fun x H1 ⟨ρ1, s1, a, F1, r1, q1⟩ => ?_⟩
  obtain ⟨v, e, q3⟩ := opt_out q1
  exact ⟨ρ1, s1, a, v, F1.sim, r1, e, fun H' u F r => q3 ρ1 H' u F r⟩
end

/-- the items of a list that stands inline or in a cell -/
def listOf (s : Sto) : MV → Option (List MV)
  | .lst xs => some xs
  | .ref n => match s[n]? with
    | some (.lst xs) => some xs
    | _ => none
  | _ => none
/-- .. of a list, a locked list, a tuple -/
def seqOf (s : Sto) : MV → Option (List MV)
  | .tup xs => some xs
  | .frz xs => some xs
  | .lst xs => some xs
  | .ref n => match s[n]? with
    | some (.lst xs) => some xs
    | _ => none
  | _ => none
section
variable {T : Tx} {ρ : List Addr} {H : Hp} {st : Sto} {m : MV} {v : V} {xs : List MV}
theorem list_of (S : Sim T ρ st H) (r : RV T ρ H m v) (h : listOf st m = some xs) : ∃ a ys, v = .ref a ∧ H a = some (.lst ys) ∧ RVs T ρ H xs ys := by
  cases m with
  | lst zs =>
    cases h
    obtain ⟨a, ys, e, _, e2, r⟩ := r
    exact ⟨a, ys, e, e2, r⟩
  | ref n =>
    obtain ⟨a, e, rfl⟩ := r
    unfold listOf at h
    cases q : st[n]? with
    | none => simp only [q] at h; cases h
    | some c =>
      cases c with
      | lst zs =>
        simp only [q] at h; cases h
        obtain ⟨ys, e2, r⟩ := S.cell n a _ e q
        exact ⟨a, ys, rfl, e2, r⟩
      | ins c fs => simp only [q] at h; cases h
      | dct kvs => simp only [q] at h; cases h
  | _ => cases h
theorem seq_of (S : Sim T ρ st H) (r : RV T ρ H m v) (h : seqOf st m = some xs) : ∃ a ys, v = .ref a ∧ (SqL T.K H a ys ∨ SqT T.K H a ys) ∧ RVs T ρ H xs ys := by
  cases m with
  | tup zs =>
    cases h
    obtain ⟨a, ys, e, z, r⟩ := r
    exact ⟨a, ys, e, .inr z.sq, r⟩
  | frz zs =>
    cases h
    obtain ⟨a, ys, e, z, r⟩ := r
    exact ⟨a, ys, e, .inl z.sq, r⟩
  | lst zs =>
    obtain ⟨a, ys, e, z, q⟩ := list_of S r h
    exact ⟨a, ys, e, .inl (SqL.of z), q⟩
  | ref n =>
    obtain ⟨a, ys, e, z, q⟩ := list_of S r h
    exact ⟨a, ys, e, .inl (SqL.of z), q⟩
  | _ => cases h
end

end Z

namespace Z
open PySem L2

/-! ### arithmetic -/
def line : Nat := 100000
theorem line_le {n : Nat} (h : n ≤ line) : n ≤ sizeLine := Nat.le_trans h (by decide)
theorem line_lt {n : Nat} (h : n < line) : n < sizeLine := Nat.lt_of_lt_of_le h (by decide)
def catOf (s : Sto) (x y : MV) : Option MV := match listOf s x, listOf s y with
  | some xs, some ys => if xs.length + ys.length ≤ line then some (.lst (xs ++ ys)) else none
  | _, _ => none
def bAdd (s : Sto) : MV → MV → Option MV
  | .int i, .int j => some (.int (i + j))
  | .str a, .str b => if a.length + b.length ≤ line then some (.str (a ++ b)) else none
  | .tup xs, .tup ys => if xs = [] ∨ line < xs.length + ys.length then none else some (.tup (xs ++ ys))
  | .lst xs, y => catOf s (.lst xs) y
  | .ref n, y => catOf s (.ref n) y
  | _, _ => none
def bSub (_ : Sto) : MV → MV → Option MV
  | .int i, .int j => some (.int (i - j))
  | _, _ => none
def mulOk (i j : Int) : Bool := decide (i.natAbs.log2 + j.natAbs.log2 < 1000000)
def repOf (s : Sto) (x : MV) (k : Int) : Option MV := match listOf s x with
  | some xs => if 0 ≤ k ∧ k < 2 ^ 62 ∧ xs.length * k.toNat ≤ line then some (.lst (List.replicate k.toNat xs).flatten) else none
  | none => none
def bMul (s : Sto) : MV → MV → Option MV
  | .int i, .int j => if mulOk i j then some (.int (i * j)) else none
  | .lst xs, .int k => repOf s (.lst xs) k
  | .ref n, .int k => repOf s (.ref n) k
  | _, _ => none
def divOk (j : Int) : Bool := decide (0 < j ∧ j.natAbs.log2 < 9000)
def bDiv (_ : Sto) : MV → MV → Option MV
  | .int i, .int j => if divOk j then some (.int (i / j)) else if j < 0 ∧ -1073741824 < j then some (.int (i.fdiv j)) else none
  | _, _ => none
def bMod (_ : Sto) : MV → MV → Option MV
  | .int i, .int j => if 0 < j then some (.int (i % j)) else if j < 0 then some (.int (i.fmod j)) else none
  | _, _ => none
def bPow (_ : Sto) : MV → MV → Option MV
  | .int i, .int j => if 0 ≤ j ∧ j ≤ 100000 ∧ i.natAbs < 2 ^ 64 then some (.int (i ^ j.toNat)) else none
  | _, _ => none
def uNeg (_ : Sto) : MV → Option MV
  | .int i => some (.int (-i))
  | _ => none
section
variable {X : Cx} {T : Tx}
theorem rB_now {f : Sto → MV → MV → Option MV} {x y : V} {H : Hp} {Q : VK} {ρ : List Addr} {st : Sto} {v : MV} {u : V} (S : Sim T ρ st H) (q : ∀ H' u, Fut T ρ H ρ st H' → RV T ρ H' v u → Q u H') (r : RV T ρ H v u) : Q u H := q H u (Fut.refl S) r
theorem q_new {ρ : List Addr} {st : Sto} {H : Hp} {v : MV} {Q : VK} {o : HO} (S : Sim T ρ st H) (q : ∀ H' u, Fut T ρ H ρ st H' → RV T ρ H' v u → Q u H') (r : ∀ p H', p ∉ ρ → H' p = some o → Lat ρ H ρ H' → RV T ρ H' v (.ref p)) : ∀ p, H p = none → Q (.ref p) (upd H p o) := fun p hp =>
  let F := S.fresh (o := o) hp
  q _ _ F (r p _ (S.free hp) upd_same F.lat)
theorem cat_ok {pins : List (Addr × Obj)} {s : Shared} {σ : St} {H : Hp} {x y : V} {v u : Value} {Q : VK} {ρ : List Addr} {st : Sto} {a b w : MV} (I : Inv X pins σ H s) (rx : RelV x v) (ry : RelV y u) (S : Sim T ρ st H) (ra : RV T ρ H a x) (rb : RV T ρ H b y)
    (e : catOf st a b = some w) (q : ∀ H' u, Fut T ρ H ρ st H' → RV T ρ H' w u → Q u H') : wpAny (model X.prog X.w) X.A (binaryOp .Add v u) (EP X pins σ Q) X.xe s := by
  unfold catOf at e
  split at e
  · rename_i xs ys h1 h2
    split at e
    · rename_i hl
      cases e
      obtain ⟨p1, vs, rfl, e1, r1⟩ := list_of S ra h1
      obtain ⟨p2, us, rfl, e2, r2⟩ := list_of S rb h2
      exact op_cat pins s σ H _ _ v u Q I rx ry ⟨p1, p2, vs, us, rfl, rfl, e1, e2, by rw [← r1.length, ← r2.length]; exact line_le hl, q_new S q fun p H' n hp L => ⟨p, _, rfl, n, hp, (r1.append r2).later L⟩⟩
    · cases e
  · cases e
theorem ob_add (hK : T.K = X.K) : OpR X (binaryOp .Add) (rB T bAdd) := by
  intro pins s σ H x y v u Q I rx ry ⟨ρ, st, a, b, w, S, ra, rb, e, q⟩
  unfold bAdd at e
  split at e
  · cases e
    exact op_add pins s σ H x y v u Q I rx ry ⟨_, _, ra, rb, rB_now (f := bAdd) (x := x) (y := y) S q rfl⟩
  · split at e
    · rename_i hl
      cases e
      exact op_add_str pins s σ H x y v u Q I rx ry ⟨_, _, ra, rb, line_le hl, rB_now (f := bAdd) (x := x) (y := y) S q rfl⟩
    · cases e
  · rename_i xs ys
    split at e
    · cases e
    · rename_i hn
      cases e
      obtain ⟨p1, vs, rfl, z1, r1⟩ := ra
      obtain ⟨p2, us, rfl, z2, r2⟩ := rb
      have l1 := r1.length
      have l2 := r2.length
      have hx : xs ≠ [] := fun z => hn (.inl z)
      have hv : vs ≠ [] := fun z => by rw [z] at l1; exact hx (List.length_eq_zero_iff.mp l1)
      refine op_catT pins s σ H _ _ v u Q I rx ry ⟨p1, p2, vs, us, rfl, rfl, hK ▸ z1.sq, hK ▸ z2.sq, hv, ?_, fun e => ?_, fun _ => ?_⟩
      · rw [← l1, ← l2]; exact line_le (by have := fun z => hn (.inr z); omega)
      · subst e
        have e2 : ys = [] := List.length_eq_zero_iff.mp l2
        subst e2
        rw [List.append_nil] at q
        exact q H _ (Fut.refl S) ⟨p1, vs, rfl, z1, r1⟩
      · exact q_new S q fun p H' n hp L => ⟨p, _, rfl, .inl ⟨n, .inl hp⟩, (r1.append r2).later L⟩
  · exact cat_ok I rx ry S ra rb e q
  · exact cat_ok I rx ry S ra rb e q
  · cases e
theorem ob_sub : OpR X (binaryOp .Sub) (rB T bSub) := by
  intro pins s σ H x y v u Q I rx ry ⟨ρ, st, a, b, w, S, ra, rb, e, q⟩
  unfold bSub at e
  split at e
  · cases e
    exact op_sub pins s σ H x y v u Q I rx ry ⟨_, _, ra, rb, rB_now (f := bSub) (x := x) (y := y) S q rfl⟩
  · cases e
theorem rep_ok {pins : List (Addr × Obj)} {s : Shared} {σ : St} {H : Hp} {x y : V} {v u : Value} {Q : VK} {ρ : List Addr} {st : Sto} {a w : MV} {k : Int} (I : Inv X pins σ H s) (rx : RelV x v) (ry : RelV y u) (S : Sim T ρ st H) (ra : RV T ρ H a x) (rb : RV T ρ H (.int k) y)
    (e : repOf st a k = some w) (q : ∀ H' u, Fut T ρ H ρ st H' → RV T ρ H' w u → Q u H') : wpAny (model X.prog X.w) X.A (binaryOp .Mult v u) (EP X pins σ Q) X.xe s := by
  unfold repOf at e
  split at e
  · rename_i xs h1
    split at e
    · rename_i hl
      cases e
      obtain ⟨p1, vs, rfl, e1, r1⟩ := list_of S ra h1
      refine op_rep pins s σ H _ _ v u Q I rx ry ⟨p1, k, vs, rfl, rb, e1, by omega, by omega, by rw [← r1.length]; exact line_le hl.2.2, q_new S q fun p H' n hp L => ⟨p, _, rfl, n, hp, ?_⟩⟩
      have r2 := r1.later L
      have go : ∀ n : Nat, RVs T ρ H' (List.replicate n xs).flatten (List.replicate n vs).flatten := fun n => by
        induction n with
        | zero => exact rfl
        | succ n ih => rw [List.replicate_succ, List.replicate_succ, List.flatten_cons, List.flatten_cons]; exact r2.append ih
      exact go _
    · cases e
  · cases e
theorem ob_mul : OpR X (binaryOp .Mult) (rB T bMul) := by
  intro pins s σ H x y v u Q I rx ry ⟨ρ, st, a, b, w, S, ra, rb, e, q⟩
  unfold bMul at e
  split at e
  · split at e
    · rename_i hl
      cases e
      exact op_mulW pins s σ H x y v u Q I rx ry ⟨_, _, ra, rb, (by unfold CMulW; exact of_decide_eq_true hl), rB_now (f := bMul) (x := x) (y := y) S q rfl⟩
    · cases e
  · exact rep_ok I rx ry S ra rb e q
  · exact rep_ok I rx ry S ra rb e q
  · cases e
theorem ob_div : OpR X (binaryOp .FloorDiv) (rB T bDiv) := by
  intro pins s σ H x y v u Q I rx ry ⟨ρ, st, a, b, w, S, ra, rb, e, q⟩
  unfold bDiv at e
  split at e
  · split at e
    · rename_i hl
      cases e
      exact op_fdivW pins s σ H x y v u Q I rx ry ⟨_, _, ra, rb, (by unfold CDivW; exact of_decide_eq_true hl), rB_now (f := bDiv) (x := x) (y := y) S q rfl⟩
    · split at e
      · rename_i hl
        cases e
        exact op_fdivN pins s σ H x y v u Q I rx ry ⟨_, _, ra, rb, by unfold CDivN; omega, rB_now (f := bDiv) (x := x) (y := y) S q rfl⟩
      · cases e
  · cases e
theorem ob_mod : OpR X (binaryOp .Mod) (rB T bMod) := by
  intro pins s σ H x y v u Q I rx ry ⟨ρ, st, a, b, w, S, ra, rb, e, q⟩
  unfold bMod at e
  split at e
  · split at e
    · rename_i hl
      cases e
      exact op_mod pins s σ H x y v u Q I rx ry ⟨_, _, ra, rb, hl, rB_now (f := bMod) (x := x) (y := y) S q rfl⟩
    · split at e
      · rename_i hl
        cases e
        exact op_modN pins s σ H x y v u Q I rx ry ⟨_, _, ra, rb, by omega, rB_now (f := bMod) (x := x) (y := y) S q rfl⟩
      · cases e
  · cases e
theorem ob_pow : OpR X (binaryOp .Pow) (rB T bPow) := by
  intro pins s σ H x y v u Q I rx ry ⟨ρ, st, a, b, w, S, ra, rb, e, q⟩
  unfold bPow at e
  split at e
  · split at e
    · rename_i hl
      cases e
      exact op_pow pins s σ H x y v u Q I rx ry ⟨_, _, ra, rb, ⟨hl.1, by omega, hl.2.2⟩, rB_now (f := bPow) (x := x) (y := y) S q rfl⟩
    · cases e
  · cases e
theorem ou_neg : UnR X (unaryOp .USub) (rU1 T uNeg) := by
  intro pins s σ H x v Q I rx ⟨ρ, st, a, w, S, ra, e, q⟩
  unfold uNeg at e
  split at e
  · cases e
    exact un_neg pins s σ H x v Q I rx ⟨_, ra, q H _ (Fut.refl S) rfl⟩
  · cases e
end

/-! ### comparisons -/
def mCmp (f : Sto → MV → MV → Option Bool) (ma mb : Ev → M MV) : Ev → M Bool := fun env => M.bnd (ma env) fun x => M.bnd (mb env) fun y s => M.opt (f s x y) s
def mV (m : Ev → M Bool) : Ev → M MV := fun env => M.bnd (m env) fun b => M.ret (.bl b)
def rP (T : Tx) (f : Sto → MV → MV → Option Bool) : R2 := fun x y H Q => ∃ ρ st a b k, Sim T ρ st H ∧ RV T ρ H a x ∧ RV T ρ H b y ∧ f st a b = some k ∧ Q (.bl k) H
section
variable {X : Cx} {T : Tx} {W : WX} {ma mb mc : Ev → M MV} {m m' : Ev → M Bool} {a b c : Expr} {pos : Pos} {f g : Sto → MV → MV → Option Bool}
theorem t_cmp {op : CmpOp} (ho : OpR X (compareOp op) (rP T f)) (ha : PE X a (tE T W ma)) (hb : PE X b (tE T W mb)) (hm : behindInMarks op b = false) : PT X (.Compare a [op] [b] pos) (tT T W (mCmp f ma mb)) :=
  pt_mono (pt_cmpR ho ha hb hm) fun σ H Q h => by
    obtain ⟨ρ, st, env, S, E, h⟩ := h
    refine ⟨ρ, st, env, S, E, h.bnd.imp fun x H1 ⟨ρ1, s1, a, F1, r1, q1⟩ => ?_⟩
    refine ⟨ρ1, s1, env, F1.sim, E.later F1.lat, (Out.bnd q1).imp fun y H2 ⟨ρ2, s2, b, F2, r2, q2⟩ => ?_⟩
    obtain ⟨v, e, q3⟩ := opt_out q2
    exact ⟨ρ2, s2, a, b, v, F2.sim, r1.later F2.lat, r2, e, v, rfl, q3 ρ2 H2 v (Fut.refl F2.sim) rfl⟩
theorem v_cmp {op : CmpOp} (ho : OpR X (compareOp op) (rP T f)) (ha : PE X a (tE T W ma)) (hb : PE X b (tE T W mb)) (hm : behindInMarks op b = false) : PE X (.Compare a [op] [b] pos) (tE T W (mV (mCmp f ma mb))) :=
  pe_mono (pe_cmpR ho ha hb hm) fun σ H Q h => by
    obtain ⟨ρ, st, env, S, E, h⟩ := h
    have h1 := (Out.bnd (rel := relB) h)
    refine ⟨ρ, st, env, S, E, (Out.bnd h1).imp fun x H1 ⟨ρ1, s1, a, F1, r1, q1⟩ => ?_⟩
    refine ⟨ρ1, s1, env, F1.sim, E.later F1.lat, (Out.bnd q1).imp fun y H2 ⟨ρ2, s2, b, F2, r2, q2⟩ => ?_⟩
    obtain ⟨v, e, q3⟩ := opt_out q2
    obtain ⟨ρ3, s3, k, F3, rfl, q4⟩ := q3 ρ2 H2 v (Fut.refl F2.sim) rfl
    exact ⟨ρ2, s2, a, b, k, F2.sim, r1.later F2.lat, r2, e, q4 ρ3 H2 _ (Fut.refl F3.sim) rfl⟩
/-- a test as a value -/
theorem v_of_bl {e : Expr} {t : TE} (h : PE X e t) (q : ∀ σ H Q, tT T W m σ H (fun b H' => Q (.bl b) H') → t σ H Q) : PE X e (tE T W (mV m)) := pe_mono h fun σ H Q h => by
  refine q σ H Q ?_
  obtain ⟨ρ, st, env, S, E, h⟩ := h
  refine ⟨ρ, st, env, S, E, (Out.bnd (rel := relB) h).imp fun b H1 ⟨ρ1, s1, k, F1, e, q1⟩ => ?_⟩
  subst e
  exact q1 ρ1 H1 _ (Fut.refl F1.sim) rfl
/-! a op1 b op2 c -/
def mChain (f g : Sto → MV → MV → Option Bool) (ma mb mc : Ev → M MV) : Ev → M Bool := fun env => M.bnd (ma env) fun x => M.bnd (mb env) fun y => M.bnd (fun s => M.opt (f s x y) s) fun k =>
  if k = true then M.bnd (mc env) fun z s => M.opt (g s y z) s else M.ret false
theorem chain_red {σ : St} {H : Hp} {Q : Bool → Hp → Prop} (h : tT T W (mChain f g ma mb mc) σ H Q) : tTest (tChain (rP T f) (rP T g) (tE T W ma) (tE T W mb) (tE T W mc)) σ H Q := by
  obtain ⟨ρ, st, env, S, E, h⟩ := h
  refine ⟨ρ, st, env, S, E, h.bnd.imp fun x H1 ⟨ρ1, s1, a, F1, r1, q1⟩ => ?_⟩
  refine ⟨ρ1, s1, env, F1.sim, E.later F1.lat, (Out.bnd q1).imp fun y H2 ⟨ρ2, s2, b, F2, r2, q2⟩ => ?_⟩
  obtain ⟨k, e, q3⟩ := opt_out (Out.bnd (rel := relB) q2)
  refine ⟨ρ2, s2, a, b, k, F2.sim, r1.later F2.lat, r2, e, k, rfl, ?_⟩
  obtain ⟨ρ3, s3, k', F3, rfl, q4⟩ := q3 ρ2 H2 k (Fut.refl F2.sim) rfl
  cases k' with
  | false =>
    rw [if_neg (by decide)] at q4
    rw [if_neg (by decide)]
    exact ⟨false, rfl, q4 ρ3 H2 false (Fut.refl F3.sim) rfl⟩
  | true =>
    rw [if_pos rfl] at q4
    rw [if_pos rfl]
    refine ⟨ρ3, s3, env, F3.sim, E.later (F1.trans (F2.trans F3)).lat, (Out.bnd q4).imp fun z H4 ⟨ρ4, s4, d, F4, r4, q5⟩ => ?_⟩
    obtain ⟨k2, e2, q6⟩ := opt_out q5
    exact ⟨ρ4, s4, b, d, k2, F4.sim, r2.later (F3.trans F4).lat, r4, e2, k2, rfl, q6 ρ4 H4 k2 (Fut.refl F4.sim) rfl⟩
theorem t_chain {op op' : CmpOp} (ho : OpR X (compareOp op) (rP T f)) (ho' : OpR X (compareOp op') (rP T g)) (ha : PE X a (tE T W ma)) (hb : PE X b (tE T W mb)) (hc : PE X c (tE T W mc)) (hm : lastMarks [op, op'] [b, c] = false := by with_unfolding_all rfl) :
    PT X (.Compare a [op, op'] [b, c] pos) (tT T W (mChain f g ma mb mc)) := pt_mono (pt_chain ho ho' ha hb hc hm) fun σ H Q h => chain_red h
theorem v_chain {op op' : CmpOp} (ho : OpR X (compareOp op) (rP T f)) (ho' : OpR X (compareOp op') (rP T g)) (ha : PE X a (tE T W ma)) (hb : PE X b (tE T W mb)) (hc : PE X c (tE T W mc)) (hm : lastMarks [op, op'] [b, c] = false := by with_unfolding_all rfl) :
    PE X (.Compare a [op, op'] [b, c] pos) (tE T W (mV (mChain f g ma mb mc))) := v_of_bl (pe_chain ho ho' ha hb hc hm) fun σ H Q h => by
  have q := chain_red h
  obtain ⟨ρ, st, env, S, E, h⟩ := q
  refine ⟨ρ, st, env, S, E, h.imp fun x H1 q1 => ?_⟩
  obtain ⟨ρ1, st1, env1, S1, E1, h1⟩ := q1
  refine ⟨ρ1, st1, env1, S1, E1, h1.imp fun y H2 q2 => ?_⟩
  obtain ⟨ρ2, st2, a, b, k, S2, r1, r2, e, k', ek, q3⟩ := q2
  refine ⟨ρ2, st2, a, b, k, S2, r1, r2, e, k', ek, ?_⟩
  split at q3
  · rename_i hk
    rw [if_pos hk]
    obtain ⟨ρ3, st3, env3, S3, E3, h3⟩ := q3
    refine ⟨ρ3, st3, env3, S3, E3, h3.imp fun z H4 q4 => ?_⟩
    obtain ⟨ρ4, st4, c, d, k4, S4, r4, r5, e4, k5, ek5, q5⟩ := q4
    cases ek5
    exact ⟨ρ4, st4, c, d, k4, S4, r4, r5, e4, q5⟩
  · rename_i hk
    rw [if_neg hk]
    obtain ⟨k5, ek5, q5⟩ := q3
    cases ek5
    exact q5
/-! tests: and, or, not, truth -/
def mAnd (m m' : Ev → M Bool) : Ev → M Bool := fun env => M.bnd (m env) fun k => if k = true then m' env else M.ret false
def mOr (m m' : Ev → M Bool) : Ev → M Bool := fun env => M.bnd (m env) fun k => if k = true then M.ret true else m' env
def mNot (m : Ev → M Bool) : Ev → M Bool := fun env => M.bnd (m env) fun k => M.ret (!k)
theorem not_red {σ : St} {H : Hp} {Q : Bool → Hp → Prop} (h : tT T W (mNot m) σ H Q) : tNot (tT T W m) σ H Q := by
  obtain ⟨ρ, st, env, S, E, h⟩ := h
  refine ⟨ρ, st, env, S, E, h.bnd.imp fun k H1 ⟨ρ1, s1, k', F1, r1, q1⟩ => ?_⟩
  subst r1
  exact q1 ρ1 H1 _ (Fut.refl F1.sim) rfl
theorem and_red {σ : St} {H : Hp} {Q : Bool → Hp → Prop} (h : tT T W (mAnd m m') σ H Q) : tAnd (tT T W m) (tT T W m') σ H Q := by
  obtain ⟨ρ, st, env, S, E, h⟩ := h
  refine ⟨ρ, st, env, S, E, h.bnd.imp fun k H1 ⟨ρ1, s1, k', F1, r1, q1⟩ => ?_⟩
  subst r1
  cases k' with
  | true =>
    rw [if_pos rfl] at q1
    exact ⟨ρ1, s1, env, F1.sim, E.later F1.lat, q1⟩
  | false =>
    rw [if_neg (by decide)] at q1
    exact q1 ρ1 H1 _ (Fut.refl F1.sim) rfl
theorem or_red {σ : St} {H : Hp} {Q : Bool → Hp → Prop} (h : tT T W (mOr m m') σ H Q) : tOr (tT T W m) (tT T W m') σ H Q := by
  obtain ⟨ρ, st, env, S, E, h⟩ := h
  refine ⟨ρ, st, env, S, E, h.bnd.imp fun k H1 ⟨ρ1, s1, k', F1, r1, q1⟩ => ?_⟩
  subst r1
  cases k' with
  | false =>
    rw [if_neg (by decide)] at q1
    exact ⟨ρ1, s1, env, F1.sim, E.later F1.lat, q1⟩
  | true =>
    rw [if_pos rfl] at q1
    exact q1 ρ1 H1 _ (Fut.refl F1.sim) rfl
theorem t_not (h : PT X a (tT T W m)) : PT X (.UnaryOp .Not a pos) (tT T W (mNot m)) := pt_mono (pt_not h) fun σ H Q h => not_red h
theorem w_and {rest : List Expr} (h : PT X a (tT T W m)) (h' : PW X (.BoolOp .And (b :: rest) pos) (tT T W m')) : PW X (.BoolOp .And (a :: b :: rest) pos) (tT T W (mAnd m m')) := pw_mono (pw_and h h') fun σ H Q h => and_red h
theorem w_or {rest : List Expr} (h : PT X a (tT T W m)) (h' : PW X (.BoolOp .Or (b :: rest) pos) (tT T W m')) : PW X (.BoolOp .Or (a :: b :: rest) pos) (tT T W (mOr m m')) := pw_mono (pw_or h h') fun σ H Q h => or_red h
/-- a value whose truth is asked -/
def truOf (s : Sto) : MV → Option Bool
  | .non => some false
  | .bl b => some b
  | .int i => some (i != 0)
  | .str x => if x.length ≤ line then some ((x.length : Int) != 0) else none
  | .tup xs => some (!xs.isEmpty)
  | .lst xs => some (!xs.isEmpty)
  | .frz xs => some (!xs.isEmpty)
  | .ref n => match s[n]? with
    | some (.lst xs) => some (!xs.isEmpty)
    | _ => none
  | _ => none
theorem RVs.isEmpty {ρ : List Addr} {H : Hp} {xs : List MV} {ys : List V} (r : RVs T ρ H xs ys) : xs.isEmpty = ys.isEmpty := by
  have := r.length
  cases xs <;> cases ys <;> first | rfl | (simp at this)
theorem tru_of {ρ : List Addr} {H : Hp} {st : Sto} {x : MV} {v : V} {k : Bool} (hK : T.K = X.K) (S : Sim T ρ st H) (r : RV T ρ H x v) (h : truOf st x = some k) : TruV X.K v H k := by
  cases x with
  | non => cases r; cases h; rfl
  | bl b => cases r; cases h; rfl
  | int i => cases r; cases h; rfl
  | str z =>
    cases r
    simp only [truOf] at h
    split at h
    · rename_i hl; cases h; exact ⟨line_le hl, rfl⟩
    · cases h
  | tup xs =>
    cases h
    obtain ⟨a, ys, rfl, z, r⟩ := r
    exact .inr (.inl ⟨ys, hK ▸ z.sq, by rw [r.isEmpty]⟩)
  | lst xs =>
    cases h
    obtain ⟨a, ys, rfl, _, z, r⟩ := r
    exact .inl ⟨ys, SqL.of z, by rw [r.isEmpty]⟩
  | frz xs =>
    cases h
    obtain ⟨a, ys, rfl, z, r⟩ := r
    exact .inl ⟨ys, hK ▸ z.sq, by rw [r.isEmpty]⟩
  | ref n =>
    have q : ∃ xs, st[n]? = some (.lst xs) ∧ k = !xs.isEmpty := by
      simp only [truOf] at h
      split at h
      · rename_i xs e; cases h; exact ⟨xs, e, rfl⟩
      · cases h
    obtain ⟨xs, e, rfl⟩ := q
    obtain ⟨a, e1, rfl⟩ := r
    obtain ⟨ys, e2, r⟩ := S.cell n a _ e1 e
    exact .inl ⟨ys, SqL.of e2, by rw [r.isEmpty]⟩
  | ins c xs => cases h
  | fn k => cases h
  | exc => cases h
def mTru (ma : Ev → M MV) : Ev → M Bool := fun env => M.bnd (ma env) fun x s => M.opt (truOf s x) s
theorem t_tru (hK : T.K = X.K) (ha : PE X a (tE T W ma)) (he : ∀ whole, isTrue a X.env whole = (do let v ← whole; standAt a.pos; holding [v] (truthy v)) := by intro _; rfl) : PT X a (tT T W (mTru ma)) :=
  pt_mono (pt_truth ha he) fun σ H Q h => by
    obtain ⟨ρ, st, env, S, E, h⟩ := h
    refine ⟨ρ, st, env, S, E, h.bnd.imp fun x H1 ⟨ρ1, s1, a, F1, r1, q1⟩ => ?_⟩
    obtain ⟨k, e, q2⟩ := opt_out q1
    exact ⟨k, tru_of hK F1.sim r1 e, q2 ρ1 H1 k (Fut.refl F1.sim) rfl⟩
/-! .. as values: what comes from the left must be a bool -/
def mAndV (ma mb : Ev → M MV) : Ev → M MV := fun env => M.bnd (ma env) fun x => match x with
  | .bl true => mb env
  | .bl false => M.ret (.bl false)
  | _ => fun _ => .bad
def mOrV (ma mb : Ev → M MV) : Ev → M MV := fun env => M.bnd (ma env) fun x => match x with
  | .bl true => M.ret (.bl true)
  | .bl false => mb env
  | _ => fun _ => .bad
def mNotV (ma : Ev → M MV) : Ev → M MV := fun env => M.bnd (ma env) fun x => match x with
  | .bl k => M.ret (.bl !k)
  | _ => fun _ => .bad
theorem v_and {rest : List Expr} (ha : PE X a (tE T W ma)) (hb : PE X (.BoolOp .And (b :: rest) pos) (tE T W mb)) : PE X (.BoolOp .And (a :: b :: rest) pos) (tE T W (mAndV ma mb)) :=
  pe_mono (pe_and ha hb) fun σ H Q h => by
    obtain ⟨ρ, st, env, S, E, h⟩ := h
    refine ⟨ρ, st, env, S, E, h.bnd.imp fun x H1 ⟨ρ1, s1, a, F1, r1, q1⟩ => ?_⟩
    cases a with
    | bl k =>
      cases r1
      refine ⟨k, rfl, ?_⟩
      cases k with
      | true => exact ⟨ρ1, s1, env, F1.sim, E.later F1.lat, q1⟩
      | false => exact q1 ρ1 H1 _ (Fut.refl F1.sim) rfl
    | _ => exact False.elim q1
theorem v_or {rest : List Expr} (ha : PE X a (tE T W ma)) (hb : PE X (.BoolOp .Or (b :: rest) pos) (tE T W mb)) : PE X (.BoolOp .Or (a :: b :: rest) pos) (tE T W (mOrV ma mb)) :=
  pe_mono (pe_or ha hb) fun σ H Q h => by
    obtain ⟨ρ, st, env, S, E, h⟩ := h
    refine ⟨ρ, st, env, S, E, h.bnd.imp fun x H1 ⟨ρ1, s1, a, F1, r1, q1⟩ => ?_⟩
    cases a with
    | bl k =>
      cases r1
      refine ⟨k, rfl, ?_⟩
      cases k with
      | false => exact ⟨ρ1, s1, env, F1.sim, E.later F1.lat, q1⟩
      | true => exact q1 ρ1 H1 _ (Fut.refl F1.sim) rfl
    | _ => exact False.elim q1
theorem v_one {op} (h : PE X a (tE T W ma)) : PE X (.BoolOp op [a] pos) (tE T W ma) := pe_one h
theorem v_not (ha : PE X a (tE T W ma)) : PE X (.UnaryOp .Not a pos) (tE T W (mNotV ma)) := pe_mono (pe_not ha) fun σ H Q h => by
  obtain ⟨ρ, st, env, S, E, h⟩ := h
  refine ⟨ρ, st, env, S, E, h.bnd.imp fun x H1 ⟨ρ1, s1, a, F1, r1, q1⟩ => ?_⟩
  cases a with
  | bl k =>
    cases r1
    exact ⟨k, rfl, q1 ρ1 H1 _ (Fut.refl F1.sim) rfl⟩
  | _ => exact False.elim q1
/-! a if t else b -/
def mIte (m : Ev → M Bool) (ma mb : Ev → M MV) : Ev → M MV := fun env => M.bnd (m env) fun k => if k = true then ma env else mb env
theorem v_ite (h : PT X c (tT T W m)) (ha : PE X a (tE T W ma)) (hb : PE X b (tE T W mb)) : PE X (.IfExp c a b pos) (tE T W (mIte m ma mb)) := pe_mono (pe_ifExp h ha hb) fun σ H Q h => by
  obtain ⟨ρ, st, env, S, E, h⟩ := h
  refine ⟨ρ, st, env, S, E, h.bnd.imp fun k H1 ⟨ρ1, s1, k', F1, r1, q1⟩ => ?_⟩
  subst r1
  cases k' with
  | true =>
    rw [if_pos rfl] at q1
    exact ⟨ρ1, s1, env, F1.sim, E.later F1.lat, q1⟩
  | false =>
    rw [if_neg (by decide)] at q1
    exact ⟨ρ1, s1, env, F1.sim, E.later F1.lat, q1⟩
end
end Z

namespace Z
open PySem L2

/-! ### data: what == looks at -/
def toPy (s : Sto) : Nat → MV → Option PyData
  | 0, _ => none
  | _ + 1, .non => some .none
  | _ + 1, .bl b => some (.bool b)
  | _ + 1, .int i => some (.int i)
  | _ + 1, .str x => some (.str x)
  | k + 1, .tup xs => (xs.mapM (toPy s k)).map .tuple
  | k + 1, .lst xs => (xs.mapM (toPy s k)).map .list
  | k + 1, .frz xs => (xs.mapM (toPy s k)).map .list
  | k + 1, .ref n => match s[n]? with
    | some (.lst xs) => (xs.mapM (toPy s k)).map .list
    | _ => none
  | _ + 1, .ins _ _ => none
  | _ + 1, .fn _ => none
  | _ + 1, .exc => none
theorem mapM_cons_some {α β : Type} {f : α → Option β} {x : α} {xs : List α} {ds : List β} (h : (x :: xs).mapM f = some ds) : ∃ d es, f x = some d ∧ xs.mapM f = some es ∧ ds = d :: es := by
  rw [List.mapM_cons] at h
  cases e : f x with
  | none => rw [e] at h; cases h
  | some d =>
    rw [e] at h
    cases e2 : xs.mapM f with
    | none => rw [e2] at h; cases h
    | some es => rw [e2] at h; cases h; exact ⟨d, es, rfl, rfl, rfl⟩
section
variable {T : Tx} {ρ : List Addr} {H : Hp} {st : Sto}
theorem dp_all {f : MV → Option PyData} (hf : ∀ m v d, RV T ρ H m v → f m = some d → Dp T.K H v d) : ∀ {xs : List MV} {vs : List V} {ds : List PyData}, RVs T ρ H xs vs → xs.mapM f = some ds → DpAll T.K H vs ds
  | [], vs, ds, r, h => by cases r; cases h; exact .nil
  | x :: xs, vs, ds, r, h => by
    obtain ⟨v, us, rfl, r1, r2⟩ := r
    obtain ⟨d, es, h1, h2, rfl⟩ := mapM_cons_some h
    exact .cons (hf x v d r1 h1) (dp_all hf r2 h2)
theorem dp_of (S : Sim T ρ st H) : ∀ (k : Nat) (m : MV) (v : V) (d : PyData), RV T ρ H m v → toPy st k m = some d → Dp T.K H v d := by
  intro k
  induction k with
  | zero => intro m v d _ h; cases h
  | succ k ih =>
    intro m v d r h
    have seq : ∀ {xs : List MV} {vs : List V} {g : List PyData → PyData}, RVs T ρ H xs vs → (xs.mapM (toPy st k)).map g = some d → ∃ ds, d = g ds ∧ DpAll T.K H vs ds := fun {xs vs g} r h => by
      cases e : xs.mapM (toPy st k) with
      | none => rw [e] at h; cases h
      | some ds => rw [e] at h; cases h; exact ⟨ds, rfl, dp_all ih r e⟩
    cases m with
    | non => cases h; cases r; exact .non
    | bl b => cases h; cases r; exact .bl b
    | int i => cases h; cases r; exact .int i
    | str x => cases h; cases r; exact .str x
    | tup xs =>
      obtain ⟨a, ys, rfl, z, r⟩ := r
      obtain ⟨ds, rfl, q⟩ := seq r h
      exact .tup z.sq q
    | lst xs =>
      obtain ⟨a, ys, rfl, _, z, r⟩ := r
      obtain ⟨ds, rfl, q⟩ := seq r h
      exact .lst (SqL.of z) q
    | frz xs =>
      obtain ⟨a, ys, rfl, z, r⟩ := r
      obtain ⟨ds, rfl, q⟩ := seq r h
      exact .lst z.sq q
    | ref n =>
      obtain ⟨a, e1, rfl⟩ := r
      have q : ∃ xs, st[n]? = some (.lst xs) ∧ (xs.mapM (toPy st k)).map .list = some d := by
        simp only [toPy] at h
        split at h
        · rename_i xs e; exact ⟨xs, e, h⟩
        · cases h
      obtain ⟨xs, e, h⟩ := q
      obtain ⟨ys, e2, r⟩ := S.cell n a _ e1 e
      obtain ⟨ds, rfl, q⟩ := seq r h
      exact .lst (SqL.of e2) q
    | ins c xs => cases h
    | fn k => cases h
    | exc => cases h
end
def deepEq (s : Sto) (x y : MV) : Option Bool := match toPy s 30 x, toPy s 30 y with
  | some d, some e => if SeqAt.shaped d = true ∧ SeqAt.shaped e = true then some (PyData.eqv d e) else none
  | _, _ => none
def cEq (s : Sto) : MV → MV → Option Bool
  | .int i, .int j => some (decide (i = j))
  | .str a, .str b => some (decide (a = b))
  | .bl a, .bl b => some (a == b)
  | .non, .non => some true
  | .non, .int _ => some false
  | .int _, .non => some false
  | .non, .str _ => some false
  | .str _, .non => some false
  | .int _, .str _ => some false
  | .str _, .int _ => some false
  | x, y => deepEq s x y
def cNe (s : Sto) (x y : MV) : Option Bool := (cEq s x y).map (!·)
def cLt (_ : Sto) : MV → MV → Option Bool
  | .int i, .int j => some (decide (i < j))
  | _, _ => none
def cLe (_ : Sto) : MV → MV → Option Bool
  | .int i, .int j => some (decide (i ≤ j))
  | _, _ => none
def cGt (_ : Sto) : MV → MV → Option Bool
  | .int i, .int j => some (decide (j < i))
  | _, _ => none
def cGe (_ : Sto) : MV → MV → Option Bool
  | .int i, .int j => some (decide (j ≤ i))
  | _, _ => none
def isN : MV → Bool
  | .non => true
  | _ => false
def cIs (_ : Sto) (x : MV) : MV → Option Bool
  | .non => some (isN x)
  | _ => none
def cNot (_ : Sto) (x : MV) : MV → Option Bool
  | .non => some (!isN x)
  | _ => none
def flatM : MV → Bool
  | .non => true
  | .bl _ => true
  | .int _ => true
  | .str _ => true
  | _ => false
def flatEq : MV → MV → Bool
  | .non, .non => true
  | .bl a, .bl b => a == b
  | .bl a, .int b => (if a then 1 else 0) == b
  | .int a, .bl b => a == (if b then 1 else 0)
  | .int a, .int b => a == b
  | .str a, .str b => a == b
  | _, _ => false
def deepIn (s : Sto) (x : MV) (ys : List MV) : Option Bool := match toPy s 30 x, ys.mapM (toPy s 30) with
  | some d, some es => if SeqAt.shaped d = true ∧ SeqAt.shaped (.list es) = true then some (es.any fun z => PyData.eqv z d) else none
  | _, _ => none
def cIn (s : Sto) (x y : MV) : Option Bool := match seqOf s y with
  | some ys => if flatM x && ys.all flatM then some (ys.any fun z => flatEq z x) else deepIn s x ys
  | none => match x, y with
    | .str a, .str b => some (!(Builtin.Str.occurrences b a 0 b.length 1).isEmpty)
    | _, _ => none
def cNin (s : Sto) (x y : MV) : Option Bool := (cIn s x y).map (!·)
section
variable {X : Cx} {T : Tx}
theorem flat_of {ρ : List Addr} {H : Hp} {m : MV} {v : V} (r : RV T ρ H m v) (h : flatM m = true) : flatV v = true := by
  cases m <;> (try (cases h; done)) <;> (cases r; rfl)
theorem flat_all {ρ : List Addr} {H : Hp} : ∀ {ms : List MV} {vs : List V}, RVs T ρ H ms vs → ms.all flatM = true → vs.all flatV = true
  | [], vs, r, _ => by cases r; rfl
  | m :: ms, vs, r, h => by
    obtain ⟨v, us, rfl, r1, r2⟩ := r
    rw [List.all_cons, Bool.and_eq_true] at h
    rw [List.all_cons, flat_of r1 h.1, flat_all r2 h.2]; rfl
theorem flat_eq {ρ : List Addr} {H : Hp} {m n : MV} {v u : V} (r : RV T ρ H m v) (r' : RV T ρ H n u) (h : flatM m = true) (h' : flatM n = true) : eqV v u = flatEq m n := by
  cases m <;> (try (cases h; done)) <;> cases n <;> (try (cases h'; done)) <;> (cases r; cases r'; rfl)
theorem flat_any {ρ : List Addr} {H : Hp} {x : MV} {v : V} (rx : RV T ρ H x v) (fx : flatM x = true) : ∀ {ms : List MV} {vs : List V}, RVs T ρ H ms vs → ms.all flatM = true → inV v vs = ms.any fun z => flatEq z x
  | [], vs, r, _ => by cases r; rfl
  | m :: ms, vs, r, h => by
    obtain ⟨u, us, rfl, r1, r2⟩ := r
    rw [List.all_cons, Bool.and_eq_true] at h
    have q : inV v us = ms.any fun z => flatEq z x := flat_any rx fx r2 h.2
    show (eqV u v || inV v us) = _
    rw [q, flat_eq r1 rx h.1 fx]; rfl
theorem deep_eq_ok (hK : T.K = X.K) (hu : X.A.units + 64 < cLine) {ρ : List Addr} {st : Sto} {H : Hp} {a b : MV} {x y : V} {k : Bool} (S : Sim T ρ st H) (ra : RV T ρ H a x) (rb : RV T ρ H b y) (e : deepEq st a b = some k) :
    ∃ d e', Dp X.K H x d ∧ Dp X.K H y e' ∧ SeqAt.shaped d = true ∧ SeqAt.shaped e' = true ∧ PyData.eqv d e' = k := by
  unfold deepEq at e
  split at e
  · rename_i d e' h1 h2
    split at e
    · rename_i hs
      cases e
      exact ⟨d, e', hK ▸ dp_of S 30 a x d ra h1, hK ▸ dp_of S 30 b y e' rb h2, hs.1, hs.2, rfl⟩
    · cases e
  · cases e
/-- == and != at once -/
theorem eq_cases (hK : T.K = X.K) (hu : X.A.units + 64 < cLine) {ρ : List Addr} {st : Sto} {H : Hp} {a b : MV} {x y : V} {k : Bool} (S : Sim T ρ st H) (ra : RV T ρ H a x) (rb : RV T ρ H b y) (e : cEq st a b = some k) :
    (scal x y = true ∧ decide (x = y) = k) ∨ ∃ d e', Dp X.K H x d ∧ Dp X.K H y e' ∧ SeqAt.shaped d = true ∧ SeqAt.shaped e' = true ∧ PyData.eqv d e' = k := by
  unfold cEq at e
  split at e
  · cases e; cases ra; cases rb
    exact .inl ⟨rfl, by rw [dec_int]; rfl⟩
  · cases e; cases ra; cases rb
    refine .inl ⟨rfl, ?_⟩
    rename_i p q
    by_cases h : p = q
    · subst h; simp
    · rw [decide_eq_false h, decide_eq_false (fun z => h (V.str.inj z))]
  · cases e; cases ra; cases rb; exact .inl ⟨rfl, dec_bl⟩
  · cases e; cases ra; cases rb; exact .inl ⟨rfl, by simp⟩
  · cases e; cases ra; cases rb; exact .inl ⟨rfl, by simp⟩
  · cases e; cases ra; cases rb; exact .inl ⟨rfl, by simp⟩
  · cases e; cases ra; cases rb; exact .inl ⟨rfl, by simp⟩
  · cases e; cases ra; cases rb; exact .inl ⟨rfl, by simp⟩
  · cases e; cases ra; cases rb; exact .inl ⟨rfl, by simp⟩
  · cases e; cases ra; cases rb; exact .inl ⟨rfl, by simp⟩
  · exact .inr (deep_eq_ok hK hu S ra rb e)
theorem oc_eq (hK : T.K = X.K) (hu : X.A.units + 64 < cLine) : OpR X (compareOp .Eq) (rP T cEq) := by
  intro pins s σ H x y v u Q I rx ry ⟨ρ, st, a, b, k, S, ra, rb, e, q⟩
  rcases eq_cases hK hu S ra rb e with ⟨h1, h2⟩ | ⟨d, e', h1, h2, h3, h4, h5⟩
  · exact op_eq pins s σ H x y v u Q I rx ry ⟨h1, by rw [h2]; exact q⟩
  · exact op_eqD hu pins s σ H x y v u Q I rx ry ⟨d, e', h1, h2, h3, h4, by rw [h5]; exact q⟩
theorem oc_ne (hK : T.K = X.K) (hu : X.A.units + 64 < cLine) : OpR X (compareOp .NotEq) (rP T cNe) := by
  intro pins s σ H x y v u Q I rx ry ⟨ρ, st, a, b, k, S, ra, rb, e, q⟩
  unfold cNe at e
  cases e1 : cEq st a b with
  | none => rw [e1] at e; cases e
  | some k' =>
    rw [e1] at e; cases e
    rcases eq_cases hK hu S ra rb e1 with ⟨h1, h2⟩ | ⟨d, e', h1, h2, h3, h4, h5⟩
    · exact op_ne pins s σ H x y v u Q I rx ry ⟨h1, by rw [h2]; exact q⟩
    · exact op_neD hu pins s σ H x y v u Q I rx ry ⟨d, e', h1, h2, h3, h4, by rw [h5]; exact q⟩
theorem oc_lt : OpR X (compareOp .Lt) (rP T cLt) := by
  intro pins s σ H x y v u Q I rx ry ⟨ρ, st, a, b, k, S, ra, rb, e, q⟩
  unfold cLt at e
  split at e
  · cases e; exact op_lt pins s σ H x y v u Q I rx ry ⟨_, _, ra, rb, q⟩
  · cases e
theorem oc_le : OpR X (compareOp .LtE) (rP T cLe) := by
  intro pins s σ H x y v u Q I rx ry ⟨ρ, st, a, b, k, S, ra, rb, e, q⟩
  unfold cLe at e
  split at e
  · cases e; exact op_le pins s σ H x y v u Q I rx ry ⟨_, _, ra, rb, q⟩
  · cases e
theorem oc_gt : OpR X (compareOp .Gt) (rP T cGt) := by
  intro pins s σ H x y v u Q I rx ry ⟨ρ, st, a, b, k, S, ra, rb, e, q⟩
  unfold cGt at e
  split at e
  · cases e; exact op_gt pins s σ H x y v u Q I rx ry ⟨_, _, ra, rb, q⟩
  · cases e
theorem oc_ge : OpR X (compareOp .GtE) (rP T cGe) := by
  intro pins s σ H x y v u Q I rx ry ⟨ρ, st, a, b, k, S, ra, rb, e, q⟩
  unfold cGe at e
  split at e
  · cases e; exact op_ge pins s σ H x y v u Q I rx ry ⟨_, _, ra, rb, q⟩
  · cases e
theorem isN_of {ρ : List Addr} {H : Hp} {m : MV} {v : V} (r : RV T ρ H m v) : decide (v = .non) = isN m := by
  cases m with
  | non => cases r; rfl
  | bl _ => cases r; rfl
  | int _ => cases r; rfl
  | str _ => cases r; rfl
  | fn _ => cases r; rfl
  | exc => exact r.elim
  | ref n => obtain ⟨a, _, rfl⟩ := r; rfl
  | tup _ => obtain ⟨a, _, rfl, _⟩ := r; rfl
  | lst _ => obtain ⟨a, _, rfl, _⟩ := r; rfl
  | frz _ => obtain ⟨a, _, rfl, _⟩ := r; rfl
  | ins _ _ => obtain ⟨a, _, _, rfl, _⟩ := r; rfl
theorem oc_is : OpR X (compareOp .Is) (rP T cIs) := by
  intro pins s σ H x y v u Q I rx ry ⟨ρ, st, a, b, k, S, ra, rb, e, q⟩
  unfold cIs at e
  split at e
  · cases e; exact op_isN pins s σ H x y v u Q I rx ry ⟨rb, by rw [isN_of ra]; exact q⟩
  · cases e
theorem oc_not : OpR X (compareOp .IsNot) (rP T cNot) := by
  intro pins s σ H x y v u Q I rx ry ⟨ρ, st, a, b, k, S, ra, rb, e, q⟩
  unfold cNot at e
  split at e
  · cases e; exact op_notN pins s σ H x y v u Q I rx ry ⟨rb, by rw [isN_of ra]; exact q⟩
  · cases e
theorem deep_in {hu : X.A.units + 65 < cLine} {pins : List (Addr × Obj)} {s : Shared} {σ : St} {H : Hp} {x y : V} {v u : Value} {d : PyData} {ds : List PyData} {ys : List V} {p : Addr} (neg : Bool) {Q : VK} (I : Inv X pins σ H s) (rx : RelV x v) (ry : RelV y u) (hp : y = .ref p) (hq : SqL X.K H p ys ∨ SqT X.K H p ys)
    (hx : Dp X.K H x d) (hys : DpAll X.K H ys ds) (sd : SeqAt.shaped d = true) (se : SeqAt.shaped (.list ds) = true) (q : Q (.bl (if neg then !(ds.any fun z => PyData.eqv z d) else (ds.any fun z => PyData.eqv z d))) H) :
    wpAny (model X.prog X.w) X.A (compareOp (if neg then .NotIn else .In) v u) (EP X pins σ Q) X.xe s := by
  subst hp
  cases ry
  obtain ⟨bs, r1⟩ := Dp.reads I d x v hx rx
  have hxs : PyData.canLayAll0 ds = true := SeqAt.canLay_of_shaped se
  have hroom : X.A.units + 1 + min (PyData.depthAll ds) d.depth < cLine := PyProof.Rows.room_in_shaped sd hu
  rcases hq with hq | hq
  · obtain ⟨its, r, pl, hz⟩ := I.list hq
    obtain ⟨as, h4⟩ := Dp.readsAll I ds ys its hys r
    have he := SeqAt.items_eqAt (A := X.A) (s := s) (vs := its.toArray) (show ReadsAll s.heap its.toArray.toList ds as from h4) r1 hxs (SeqAt.canLay_of_shaped sd) hroom
    have ha := SeqAt.any_by_data (s := s) (vs := its.toArray) (d := d) (show ReadsAll s.heap its.toArray.toList ds as from h4) hxs
    cases neg with
    | false => exact SeqAt.in_listAt _ pl.isList he ⟨.bl _, H, I, rfl, by rw [ha]; exact q⟩
    | true => exact SeqAt.notIn_listAt _ pl.isList he ⟨.bl _, H, I, rfl, by rw [ha]; exact q⟩
  · obtain ⟨its, r, pl, hz⟩ := I.tuple hq
    obtain ⟨as, h4⟩ := Dp.readsAll I ds ys its hys r
    have he := SeqAt.items_eqAt (A := X.A) (s := s) (vs := its.toArray) (show ReadsAll s.heap its.toArray.toList ds as from h4) r1 hxs (SeqAt.canLay_of_shaped sd) hroom
    have ha := SeqAt.any_by_data (s := s) (vs := its.toArray) (d := d) (show ReadsAll s.heap its.toArray.toList ds as from h4) hxs
    cases neg with
    | false => exact SeqAt.in_tupleAt _ pl he ⟨.bl _, H, I, rfl, by rw [ha]; exact q⟩
    | true => exact SeqAt.notIn_tupleAt _ pl he ⟨.bl _, H, I, rfl, by rw [ha]; exact q⟩
theorem in_cases (hK : T.K = X.K) {ρ : List Addr} {st : Sto} {H : Hp} {a b : MV} {x y : V} {k : Bool} (S : Sim T ρ st H) (ra : RV T ρ H a x) (rb : RV T ρ H b y) (e : cIn st a b = some k) :
    (∃ p xs, y = .ref p ∧ (SqL X.K H p xs ∨ SqT X.K H p xs) ∧ flatV x = true ∧ xs.all flatV = true ∧ inV x xs = k) ∨
    (∃ p ys d ds, y = .ref p ∧ (SqL X.K H p ys ∨ SqT X.K H p ys) ∧ Dp X.K H x d ∧ DpAll X.K H ys ds ∧ SeqAt.shaped d = true ∧ SeqAt.shaped (.list ds) = true ∧ (ds.any fun z => PyData.eqv z d) = k) ∨
    ∃ i j, x = .str i ∧ y = .str j ∧ (!(Builtin.Str.occurrences j i 0 j.length 1).isEmpty) = k := by
  unfold cIn at e
  split at e
  · rename_i ys h
    obtain ⟨p, us, rfl, hq, r⟩ := seq_of S rb h
    rw [hK] at hq
    split at e
    · rename_i hf
      rw [Bool.and_eq_true] at hf
      cases e
      exact .inl ⟨p, us, rfl, hq, flat_of ra hf.1, flat_all r hf.2, flat_any ra hf.1 r hf.2⟩
    · unfold deepIn at e
      split at e
      · rename_i d es h1 h2
        split at e
        · rename_i hs
          cases e
          exact .inr (.inl ⟨p, us, d, es, rfl, hq, hK ▸ dp_of S 30 a x d ra h1, hK ▸ dp_all (dp_of S 30) r h2, hs.1, hs.2, rfl⟩)
        · cases e
      · cases e
  · split at e
    · cases e
      cases ra; cases rb
      exact .inr (.inr ⟨_, _, rfl, rfl, rfl⟩)
    · cases e
theorem oc_in (hK : T.K = X.K) (hu : X.A.units + 65 < cLine) : OpR X (compareOp .In) (rP T cIn) := by
  intro pins s σ H x y v u Q I rx ry ⟨ρ, st, a, b, k, S, ra, rb, e, q⟩
  rcases in_cases (X := X) hK S ra rb e with ⟨p, xs, h1, h2, h3, h4, rfl⟩ | ⟨p, ys, d, ds, h1, h2, h3, h4, h5, h6, rfl⟩ | ⟨i, j, h1, h2, rfl⟩
  · exact op_in_seq pins s σ H x y v u Q I rx ry ⟨p, xs, h1, h2, h3, h4, q⟩
  · exact deep_in (hu := hu) false I rx ry h1 h2 h3 h4 h5 h6 q
  · exact op_in_str pins s σ H x y v u Q I rx ry ⟨i, j, h1, h2, q⟩
theorem oc_nin (hK : T.K = X.K) (hu : X.A.units + 65 < cLine) : OpR X (compareOp .NotIn) (rP T cNin) := by
  intro pins s σ H x y v u Q I rx ry ⟨ρ, st, a, b, k, S, ra, rb, e, q⟩
  unfold cNin at e
  cases e1 : cIn st a b with
  | none => rw [e1] at e; cases e
  | some k' =>
    rw [e1] at e; cases e
    rcases in_cases (X := X) hK S ra rb e1 with ⟨p, xs, h1, h2, h3, h4, rfl⟩ | ⟨p, ys, d, ds, h1, h2, h3, h4, h5, h6, rfl⟩ | ⟨i, j, h1, h2, rfl⟩
    · exact op_notIn_seq pins s σ H x y v u Q I rx ry ⟨p, xs, h1, h2, h3, h4, q⟩
    · exact deep_in (hu := hu) true I rx ry h1 h2 h3 h4 h5 h6 q
    · exact L2.op_notin_str pins s σ H x y v u Q I rx ry ⟨i, j, h1, h2, q⟩
end
end Z

namespace Z
open PySem L2

/-! ### lists made: inline (fr), or a new cell -/
def mkList (fr : Bool) (xs : List MV) : M MV := fun s => if fr = true then .ok (.lst xs) s else .ok (.ref s.length) (s ++ [.lst xs])
section
variable {X : Cx} {T : Tx} {W : WX} {ρ : List Addr} {H : Hp} {st : Sto} {σ : St}
theorem mk_out {fr : Bool} {xs : List MV} {vs : List V} {Q : VK} (S : Sim T ρ st H) (h : Out T W (RV T) ρ H σ (mkList fr xs st) Q) (r : RVs T ρ H xs vs) : ∀ p, H p = none → Q (.ref p) (upd H p (.lst vs)) := fun p hp => by
  unfold mkList at h
  cases fr with
  | true =>
    rw [if_pos rfl] at h
    have F := S.fresh (o := .lst vs) hp
    exact h _ _ _ F ⟨p, vs, rfl, S.free hp, upd_same, r.later F.lat⟩
  | false =>
    rw [if_neg (by decide)] at h
    have F := S.push (c := .lst xs) (o := .lst vs) hp fun ρ' H' L => ⟨vs, rfl, r.later L⟩
    refine h _ _ _ F ⟨p, ?_, rfl⟩
    rw [← S.len]; simp
theorem tup_out {xs : List MV} {vs : List V} {Q : VK} (S : Sim T ρ st H) (h : Out T W (RV T) ρ H σ (M.ret (.tup xs) st) Q) (r : RVs T ρ H xs vs) : ∀ p, H p = none → Q (.ref p) (upd H p (.tup vs)) := fun p hp => by
  have F := S.fresh (o := .tup vs) hp
  exact h _ _ _ F ⟨p, vs, rfl, .inl ⟨S.free hp, .inl upd_same⟩, r.later F.lat⟩
end

/-! ### displays -/
def mNil : Ev → M (List MV) := fun _ => M.ret []
def mCons (m : Ev → M MV) (r : Ev → M (List MV)) : Ev → M (List MV) := fun env => M.bnd (m env) fun x => M.bnd (r env) fun xs => M.ret (x :: xs)
def mTup (as : Ev → M (List MV)) : Ev → M MV := fun env => M.bnd (as env) fun xs => if xs.length ≤ line then M.ret (.tup xs) else fun _ => .bad
def mLst (fr : Bool) (as : Ev → M (List MV)) : Ev → M MV := fun env => M.bnd (as env) fun xs => if xs.length ≤ line then mkList fr xs else fun _ => .bad
section
variable {X : Cx} {T : Tx} {W : WX} {ma mb mc : Ev → M MV} {as : Ev → M (List MV)} {a b c e : Expr} {es : List Expr} {pos : Pos}
theorem a_nil : PA X [] (tA T W mNil) := pa_mono pa_nil fun σ H Q h => by
  obtain ⟨ρ, st, env, S, E, h⟩ := h
  exact h ρ H [] (Fut.refl S) rfl
theorem a_cons (ha : PE X e (tE T W ma)) (hr : PA X es (tA T W as)) (hs : starEach (e :: es) X.env = (false, eval e X.env) :: starEach es X.env := by rfl) : PA X (e :: es) (tA T W (mCons ma as)) :=
  pa_mono (pa_cons ha hr hs) fun σ H Q h => by
    obtain ⟨ρ, st, env, S, E, h⟩ := h
    refine ⟨ρ, st, env, S, E, h.bnd.imp fun x H1 ⟨ρ1, s1, a, F1, r1, q1⟩ => ?_⟩
    refine ⟨ρ1, s1, env, F1.sim, E.later F1.lat, (Out.bnd q1).imp fun xs H2 ⟨ρ2, s2, as, F2, r2, q2⟩ => ?_⟩
    exact q2 ρ2 H2 _ (Fut.refl F2.sim) ⟨x, xs, rfl, r1.later F2.lat, r2⟩
theorem v_tup {k : Nat} (h : PA X es (tA T W as)) : PE X (.Tuple es k pos) (tE T W (mTup as)) := pe_mono (pe_tup h) fun σ H Q h => by
  obtain ⟨ρ, st, env, S, E, h⟩ := h
  refine ⟨ρ, st, env, S, E, h.bnd.imp fun vs H1 ⟨ρ1, s1, xs, F1, r1, q1⟩ => ?_⟩
  split at q1
  · rename_i hl
    exact ⟨by rw [← r1.length]; exact line_le hl, tup_out F1.sim q1 r1⟩
  · exact q1.elim
theorem v_lst (fr : Bool) (h : PA X es (tA T W as)) : PE X (.List es pos) (tE T W (mLst fr as)) := pe_mono (pe_lst h) fun σ H Q h => by
  obtain ⟨ρ, st, env, S, E, h⟩ := h
  refine ⟨ρ, st, env, S, E, h.bnd.imp fun vs H1 ⟨ρ1, s1, xs, F1, r1, q1⟩ => ?_⟩
  split at q1
  · rename_i hl
    exact ⟨by rw [← r1.length]; exact line_le hl, mk_out F1.sim q1 r1⟩
  · exact q1.elim
end

/-! ### places -/
def ixF (s : Sto) : MV → MV → Option MV
  | .str z, .int i => if z.length ≤ line then (atI z.cps.toList i).map fun c => .str ⟨#[c]⟩ else none
  | x, .int i => match seqOf s x with
    | some xs => atI xs i
    | none => none
  | _, _ => none
theorem atI_rel {T : Tx} {ρ : List Addr} {H : Hp} {xs : List MV} {vs : List V} {i : Int} {m : MV} (r : RVs T ρ H xs vs) (h : atI xs i = some m) : ∃ v, atI vs i = some v ∧ RV T ρ H m v := by
  unfold atI at h ⊢
  rw [← r.length]
  cases e : ixN xs.length i with
  | none => rw [e] at h; cases h
  | some j =>
    rw [e] at h
    exact r.get h
section
variable {X : Cx} {T : Tx} {W : WX} {ma mb mc : Ev → M MV} {a b c e : Expr} {pos p2 : Pos}
theorem ix_ok (hK : T.K = X.K) : IxR X (rB T ixF) := by
  intro value slice pins s σ H x y v u Q I rx ry ⟨ρ, st, a, b, w, S, ra, rb, e, q⟩ hp
  have seq : ∀ {xs : List MV} {i : Int}, seqOf st a = some xs → b = .int i → atI xs i = some w → wpAny (model X.prog X.w) X.A (PyProof.Rows.subscriptTail value slice v u) (EP X pins σ Q) X.xe s := fun {xs i} h1 h2 h3 => by
    subst h2
    obtain ⟨p, ys, rfl, hq, r⟩ := seq_of S ra h1
    obtain ⟨z, hz, rz⟩ := atI_rel r h3
    rw [hK] at hq
    rcases hq with hq | hq
    · exact ix_list value slice pins s σ H _ y v u Q I rx ry ⟨p, ys, i, z, rfl, rb, hq, hz, q H z (Fut.refl S) rz⟩ hp
    · exact ix_tup value slice pins s σ H _ y v u Q I rx ry ⟨p, ys, i, z, rfl, rb, hq, hz, q H z (Fut.refl S) rz⟩ hp
  unfold ixF at e
  split at e
  · split at e
    · rename_i z i hl
      cases h : atI z.cps.toList i with
      | none => rw [h] at e; cases e
      | some c =>
        rw [h] at e; cases e
        exact ix_str value slice pins s σ H x y v u Q I rx ry ⟨z, i, c, ra, rb, line_le hl, h, q H _ (Fut.refl S) rfl⟩ hp
    · cases e
  · split at e
    · rename_i xs h
      exact seq h rfl e
    · cases e
  · cases e
def mIx (ma mb : Ev → M MV) : Ev → M MV := mBin ixF ma mb
theorem v_ix (hK : T.K = X.K) (ha : PE X a (tE T W ma)) (hb : PE X b (tE T W mb)) (hs : PlainIx b := by intro _ _; rfl) : PE X (.Subscript a b pos) (tE T W (mIx ma mb)) := pe_mono (pe_ix (ix_ok hK) ha hb hs) fun σ H Q h => bin_red h
/-! slices -/
def mNoPart : Ev → M (Option Int) := fun _ => M.ret none
def mPart (m : Ev → M MV) : Ev → M (Option Int) := fun env => M.bnd (m env) fun x => match x with
  | .int i => M.ret (some i)
  | _ => fun _ => .bad
abbrev relO : List Addr → Hp → Option Int → Option Int → Prop := fun _ _ a b => a = b
abbrev tO (T : Tx) (W : WX) (m : Ev → M (Option Int)) : TO := tG T W relO m
theorem po_mono {o : Option Expr} {t t' : TO} (h : PO X o t) (q : ∀ σ H Q, t' σ H Q → t σ H Q) : PO X o t' := ⟨fun pins s σ H Q I z => h.run pins s σ H Q I (q σ H Q z)⟩
theorem o_none : PO X none (tO T W mNoPart) := po_mono po_none fun σ H Q h => by
  obtain ⟨ρ, st, env, S, E, h⟩ := h
  exact h ρ H none (Fut.refl S) rfl
theorem o_some (h : PE X e (tE T W ma)) : PO X (some e) (tO T W (mPart ma)) := po_mono (po_some h) fun σ H Q h => by
  obtain ⟨ρ, st, env, S, E, h⟩ := h
  refine ⟨ρ, st, env, S, E, h.bnd.imp fun x H1 ⟨ρ1, s1, a, F1, r1, q1⟩ => ?_⟩
  cases a with
  | int i => cases r1; exact ⟨i, rfl, q1 ρ1 H1 _ (Fut.refl F1.sim) rfl⟩
  | _ => exact False.elim q1
def cutM (xs : List MV) (lo hi : Option Int) : List MV := (xs.drop (HT.sIx xs.length 0 lo)).take (HT.sIx xs.length xs.length hi - HT.sIx xs.length 0 lo)
theorem cut_rel {ρ : List Addr} {H : Hp} {xs : List MV} {vs : List V} (r : RVs T ρ H xs vs) (lo hi : Option Int) : RVs T ρ H (cutM xs lo hi) (cutV vs lo hi) := by
  unfold cutM cutV
  rw [r.length]
  exact (r.drop _).take _
/-- a slice: of a text, a tuple, a list (fr: the new list inline) -/
def slF (fr : Bool) (x : MV) (lo hi : Option Int) : M MV := fun s => match x with
  | .str z => if z.length ≤ line then .ok (.str (cutS z lo hi)) s else .bad
  | .tup xs => .ok (.tup (cutM xs lo hi)) s
  | x => match seqOf s x with
    | some xs => mkList fr (cutM xs lo hi) s
    | none => .bad
def mSl (fr : Bool) (ma : Ev → M MV) (ml mh : Ev → M (Option Int)) : Ev → M MV := fun env => M.bnd (ma env) fun x => M.bnd (ml env) fun lo => M.bnd (mh env) fun hi => slF fr x lo hi
def rSl (T : Tx) (fr : Bool) : V → Option Int → Option Int → Hp → VK → Prop := fun x lo hi H Q => ∃ (W : WX) (σ : St) (ρ : List Addr) (st : Sto) (a : MV), Sim T ρ st H ∧ RV T ρ H a x ∧ Out T W (RV T) ρ H σ (slF fr a lo hi st) Q
theorem cut_whole {α : Type} {xs : List α} {lo hi : Option Int} (h : HT.sIx xs.length 0 lo = 0 ∧ HT.sIx xs.length xs.length hi = xs.length) : (xs.drop (HT.sIx xs.length 0 lo)).take (HT.sIx xs.length xs.length hi - HT.sIx xs.length 0 lo) = xs := by
  rw [h.1, h.2]; simp
theorem sl_ok (hK : T.K = X.K) {fr : Bool} : SlR X (rSl T fr) := by
  intro pins s σ H x v vl vu lo hi sl Q I rx hs pl pu ⟨W, σ', ρ, st, a, S, ra, h⟩
  have lst : ∀ {xs : List MV}, seqOf st a = some xs → Out T W (RV T) ρ H σ' (mkList fr (cutM xs lo hi) st) Q → (∀ ys, a ≠ .tup ys) → ∃ T id, typeLookup (.type T) "__getitem__" = pure (some (.builtin id)) ∧ s.TypeIs v T ∧ wpAny (model X.prog X.w) X.A (getItem v (.ref sl)) (EP X pins σ Q) X.xe s := fun {xs} e h nt => by
    have q : ∃ p ys, x = .ref p ∧ SqL T.K H p ys ∧ RVs T ρ H xs ys := by
      cases a with
      | tup zs => exact absurd rfl (nt zs)
      | frz zs =>
        cases e
        obtain ⟨p, ys, rfl, z, r⟩ := ra
        exact ⟨p, ys, rfl, z.sq, r⟩
      | lst zs =>
        obtain ⟨p, ys, rfl, z, r⟩ := list_of S ra e
        exact ⟨p, ys, rfl, SqL.of z, r⟩
      | ref n =>
        obtain ⟨p, ys, rfl, z, r⟩ := list_of S ra e
        exact ⟨p, ys, rfl, SqL.of z, r⟩
      | _ => cases e
    obtain ⟨p, ys, rfl, z, r⟩ := q
    exact sl_list pins s σ H _ v vl vu lo hi sl Q I rx hs pl pu ⟨p, ys, rfl, hK ▸ z, mk_out S h (cut_rel r lo hi)⟩
  unfold slF at h
  split at h
  · split at h
    · rename_i z hl
      exact sl_str pins s σ H x v vl vu lo hi sl Q I rx hs pl pu ⟨z, ra, line_le hl, h ρ H _ (Fut.refl S) rfl⟩
    · exact h.elim
  · rename_i xs
    obtain ⟨p, ys, rfl, z, r⟩ := ra
    refine sl_tupA pins s σ H _ v vl vu lo hi sl Q I rx hs pl pu ⟨p, ys, rfl, hK ▸ z.sq, fun hw => ?_, fun _ => tup_out (W := W) (σ := σ') S h (cut_rel r lo hi)⟩
    refine h ρ H _ (Fut.refl S) ⟨p, ys, rfl, z, ?_⟩
    have hw' : HT.sIx xs.length 0 lo = 0 ∧ HT.sIx xs.length xs.length hi = xs.length := by rw [r.length]; exact hw
    unfold cutM
    rw [cut_whole hw']
    exact r
  · rename_i n1 n2
    split at h
    · rename_i xs e
      exact lst e h (fun ys e2 => n2 ys e2)
    · exact h.elim
theorem v_sl (fr : Bool) (hK : T.K = X.K) {lo hi : Option Expr} {ml mh : Ev → M (Option Int)} (ha : PE X e (tE T W ma)) (hl : PO X lo (tO T W ml)) (hh : PO X hi (tO T W mh)) : PE X (.Subscript e (.Slice lo hi none p2) pos) (tE T W (mSl fr ma ml mh)) :=
  pe_mono (pe_slice (sl_ok (fr := fr) hK) ha hl hh) fun σ H Q h => by
    obtain ⟨ρ, st, env, S, E, h⟩ := h
    refine ⟨ρ, st, env, S, E, h.bnd.imp fun x H1 ⟨ρ1, s1, a, F1, r1, q1⟩ => ?_⟩
    refine ⟨ρ1, s1, env, F1.sim, E.later F1.lat, (Out.bnd q1).imp fun lo H2 ⟨ρ2, s2, lo', F2, r2, q2⟩ => ?_⟩
    subst r2
    refine ⟨ρ2, s2, env, F2.sim, E.later (F1.trans F2).lat, (Out.bnd q2).imp fun hi H3 ⟨ρ3, s3, hi', F3, r3, q3⟩ => ?_⟩
    subst r3
    exact ⟨W, σ, ρ3, s3, a, F3.sim, r1.later (F2.trans F3).lat, q3⟩
end

/-! ### calls of what is built in -/
def mCallF (f : Sto → List MV → Option MV) (as : Ev → M (List MV)) : Ev → M MV := fun env => M.bnd (as env) fun xs s => M.opt (f s xs) s
/-- .. that makes a list -/
def mCallL (fr : Bool) (f : Sto → List MV → Option (List MV)) (as : Ev → M (List MV)) : Ev → M MV := fun env => M.bnd (as env) fun xs s => match f s xs with
  | some ys => mkList fr ys s
  | none => .bad
def rF (T : Tx) (f : Sto → List MV → Option MV) : List V → Hp → VK → Prop := fun vs H Q => ∃ ρ st xs v, Sim T ρ st H ∧ RVs T ρ H xs vs ∧ f st xs = some v ∧ ∀ H' u, Fut T ρ H ρ st H' → RV T ρ H' v u → Q u H'
def rFL (T : Tx) (f : Sto → List MV → Option (List MV)) : List V → Hp → VK → Prop := fun vs H Q => ∃ ρ st xs ys, Sim T ρ st H ∧ RVs T ρ H xs vs ∧ f st xs = some ys ∧ ∀ us, RVs T ρ H ys us → ∀ p, H p = none → Q (.ref p) (upd H p (.lst us))
section
variable {X : Cx} {T : Tx} {W : WX} {as : Ev → M (List MV)} {e : Expr} {es : List Expr} {p pos : Pos} {x : Str} {id : String} {f : Sto → List MV → Option MV} {g : Sto → List MV → Option (List MV)}
theorem call_red {σ : St} {H : Hp} {Q : VK} (h : tE T W (mCallF f as) σ H Q) : tCB (rF T f) (tA T W as) σ H Q := by
  obtain ⟨ρ, st, env, S, E, h⟩ := h
  refine ⟨ρ, st, env, S, E, h.bnd.imp fun vs H1 ⟨ρ1, s1, xs, F1, r1, q1⟩ => ?_⟩
  obtain ⟨v, e, q⟩ := opt_out q1
  exact ⟨ρ1, s1, xs, v, F1.sim, r1, e, fun H' u F r => q ρ1 H' u F r⟩
theorem callL_red {fr : Bool} {σ : St} {H : Hp} {Q : VK} (h : tE T W (mCallL fr g as) σ H Q) : tCB (rFL T g) (tA T W as) σ H Q := by
  obtain ⟨ρ, st, env, S, E, h⟩ := h
  refine ⟨ρ, st, env, S, E, h.bnd.imp fun vs H1 ⟨ρ1, s1, xs, F1, r1, q1⟩ => ?_⟩
  split at q1
  · rename_i ys e
    exact ⟨ρ1, s1, xs, ys, F1.sim, r1, e, fun us r => mk_out F1.sim q1 r⟩
  · exact q1.elim
theorem v_callB (hc : CallR X (.builtin id) (rF T f)) (hv : bootBuiltins x = some (.builtin id)) (hm : X.mg x = none) (ha : PA X (e :: es) (tA T W as)) (hg : Gl X x := by rfl) (hn : x ≠ "__name__" := by decide) (hdb : (x == ("__debug__" : Str)) = false := by decide)
    (he : starEach (e :: es) X.env = (false, eval e X.env) :: starEach es X.env := by rfl) (hpl : (backTo pos (starEach es X.env)).any (·.1) = false := by rfl) : PE X (.Call (.Name x p) (e :: es) [] pos) (tE T W (mCallF f as)) :=
  pe_mono (pe_callB hc hg hm hv ha hn hdb he hpl) fun σ H Q h => call_red h
theorem v_callT (hc : CallR X (.type id) (rF T f)) (hv : bootBuiltins x = some (.type id)) (hm : X.mg x = none) (ha : PA X (e :: es) (tA T W as)) (hg : Gl X x := by rfl) (hn : x ≠ "__name__" := by decide) (hdb : (x == ("__debug__" : Str)) = false := by decide)
    (he : starEach (e :: es) X.env = (false, eval e X.env) :: starEach es X.env := by rfl) (hpl : (backTo pos (starEach es X.env)).any (·.1) = false := by rfl) : PE X (.Call (.Name x p) (e :: es) [] pos) (tE T W (mCallF f as)) :=
  pe_mono (pe_callTy hc hg hm hv ha hn hdb he hpl) fun σ H Q h => call_red h
theorem v_callBL (fr : Bool) (hc : CallR X (.builtin id) (rFL T g)) (hv : bootBuiltins x = some (.builtin id)) (hm : X.mg x = none) (ha : PA X (e :: es) (tA T W as)) (hg : Gl X x := by rfl) (hn : x ≠ "__name__" := by decide) (hdb : (x == ("__debug__" : Str)) = false := by decide)
    (he : starEach (e :: es) X.env = (false, eval e X.env) :: starEach es X.env := by rfl) (hpl : (backTo pos (starEach es X.env)).any (·.1) = false := by rfl) : PE X (.Call (.Name x p) (e :: es) [] pos) (tE T W (mCallL fr g as)) :=
  pe_mono (pe_callB hc hg hm hv ha hn hdb he hpl) fun σ H Q h => callL_red h
theorem v_callTL (fr : Bool) (hc : CallR X (.type id) (rFL T g)) (hv : bootBuiltins x = some (.type id)) (hm : X.mg x = none) (ha : PA X (e :: es) (tA T W as)) (hg : Gl X x := by rfl) (hn : x ≠ "__name__" := by decide) (hdb : (x == ("__debug__" : Str)) = false := by decide)
    (he : starEach (e :: es) X.env = (false, eval e X.env) :: starEach es X.env := by rfl) (hpl : (backTo pos (starEach es X.env)).any (·.1) = false := by rfl) : PE X (.Call (.Name x p) (e :: es) [] pos) (tE T W (mCallL fr g as)) :=
  pe_mono (pe_callTy hc hg hm hv ha hn hdb he hpl) fun σ H Q h => callL_red h
theorem v_callM (hc : CallR X (.builtin id) (rF T f)) (hm : X.mg x = some (.builtin id)) (ha : PA X (e :: es) (tA T W as)) (hg : Gl X x := by rfl) (hdb : (x == ("__debug__" : Str)) = false := by decide)
    (he : starEach (e :: es) X.env = (false, eval e X.env) :: starEach es X.env := by rfl) (hpl : (backTo pos (starEach es X.env)).any (·.1) = false := by rfl) : PE X (.Call (.Name x p) (e :: es) [] pos) (tE T W (mCallF f as)) :=
  pe_mono (pe_callBfun hc hg hm ha hdb he hpl) fun σ H Q h => call_red h
/-! what they do -/
def fLen (s : Sto) : List MV → Option MV
  | [.str z] => if z.length ≤ line then some (.int z.length) else none
  | [x] => (seqOf s x).map fun xs => .int xs.length
  | _ => none
theorem rvs1 {ρ : List Addr} {H : Hp} {m : MV} {vs : List V} (r : RVs T ρ H [m] vs) : ∃ v, vs = [v] ∧ RV T ρ H m v := by
  obtain ⟨v, us, rfl, r1, r2⟩ := r
  cases r2
  exact ⟨v, rfl, r1⟩
theorem rvs2 {ρ : List Addr} {H : Hp} {m n : MV} {vs : List V} (r : RVs T ρ H [m, n] vs) : ∃ v u, vs = [v, u] ∧ RV T ρ H m v ∧ RV T ρ H n u := by
  obtain ⟨v, us, rfl, r1, r2⟩ := r
  obtain ⟨u, rfl, r3⟩ := rvs1 r2
  exact ⟨v, u, rfl, r1, r3⟩
theorem ok_len (hK : T.K = X.K) : CallR X (.builtin "len") (rF T fLen) := by
  intro pins s σ H xs us Q I r ⟨ρ, st, ms, v, S, rm, e, q⟩
  unfold fLen at e
  split at e
  · split at e
    · rename_i hl
      cases e
      obtain ⟨w, rfl, r1⟩ := rvs1 rm
      cases r1
      exact call_len pins s σ H _ us Q I r ⟨_, _, rfl, ⟨line_le hl, rfl⟩, q H _ (Fut.refl S) rfl⟩
    · cases e
  · rename_i x _
    cases h : seqOf st x with
    | none => rw [h] at e; cases e
    | some ys =>
      rw [h] at e; cases e
      obtain ⟨w, rfl, r1⟩ := rvs1 rm
      obtain ⟨p, zs, rfl, hq, r2⟩ := seq_of S r1 h
      exact call_len_seq pins s σ H _ us Q I r ⟨p, zs, rfl, hK ▸ hq, by rw [← r2.length]; exact q H _ (Fut.refl S) rfl⟩
  · cases e
def fList (s : Sto) : List MV → Option (List MV)
  | [x] => seqOf s x
  | _ => none
theorem ok_list (hK : T.K = X.K) : CallR X (.type "list") (rFL T fList) := by
  intro pins s σ H xs us Q I r ⟨ρ, st, ms, ys, S, rm, e, q⟩
  unfold fList at e
  split at e
  · obtain ⟨w, rfl, r1⟩ := rvs1 rm
    obtain ⟨p, zs, rfl, hq, r2⟩ := seq_of S r1 e
    exact call_list_of pins s σ H _ us Q I r ⟨p, zs, rfl, hK ▸ hq, q zs r2⟩
  · cases e
def fTuple (s : Sto) : List MV → Option MV
  | [.tup xs] => some (.tup xs)
  | [x] => (seqOf s x).map .tup
  | _ => none
theorem ok_tuple (hK : T.K = X.K) : CallR X (.type "tuple") (rF T fTuple) := by
  intro pins s σ H xs us Q I r ⟨ρ, st, ms, v, S, rm, e, q⟩
  unfold fTuple at e
  split at e
  · cases e
    obtain ⟨w, rfl, r1⟩ := rvs1 rm
    obtain ⟨a, ys, rfl, z, r2⟩ := id r1
    exact call_tuple_of pins s σ H _ us Q I r ⟨a, ys, rfl, .inr ⟨hK ▸ z.sq, q H _ (Fut.refl S) r1⟩⟩
  · rename_i x nt
    cases h : seqOf st x with
    | none => rw [h] at e; cases e
    | some ys =>
      rw [h] at e; cases e
      obtain ⟨w, rfl, r1⟩ := rvs1 rm
      have z : ∃ p zs, w = .ref p ∧ SqL T.K H p zs ∧ RVs T ρ H ys zs := by
        cases x with
        | tup zs => exact absurd rfl (nt zs)
        | frz zs =>
          cases h
          obtain ⟨p, us, rfl, z, r⟩ := r1
          exact ⟨p, us, rfl, z.sq, r⟩
        | lst zs => obtain ⟨p, us, rfl, z, r⟩ := list_of S r1 h; exact ⟨p, us, rfl, SqL.of z, r⟩
        | ref n => obtain ⟨p, us, rfl, z, r⟩ := list_of S r1 h; exact ⟨p, us, rfl, SqL.of z, r⟩
        | _ => cases h
      obtain ⟨p, zs, rfl, hq, r2⟩ := z
      exact call_tuple_of pins s σ H _ us Q I r ⟨p, zs, rfl, .inl ⟨hK ▸ hq, q_new S q fun p' H' n hp L => ⟨p', _, rfl, .inl ⟨n, .inl hp⟩, r2.later L⟩⟩⟩
  · cases e
def fInt (_ : Sto) : List MV → Option MV
  | [.int i] => some (.int i)
  | [.bl b] => some (.int (if b then 1 else 0))
  | _ => none
theorem ok_int : CallR X (.type "int") (rF T fInt) := by
  intro pins s σ H xs us Q I r ⟨ρ, st, ms, v, S, rm, e, q⟩
  unfold fInt at e
  split at e
  · cases e
    obtain ⟨w, rfl, r1⟩ := rvs1 rm
    cases r1
    exact call_int1 pins s σ H _ us Q I r (.inl ⟨_, rfl, q H _ (Fut.refl S) rfl⟩)
  · cases e
    obtain ⟨w, rfl, r1⟩ := rvs1 rm
    cases r1
    exact call_int1 pins s σ H _ us Q I r (.inr ⟨_, rfl, q H _ (Fut.refl S) rfl⟩)
  · cases e
def fStrI (_ : Sto) : List MV → Option MV
  | [.int i] => if i.natAbs.log2 < 1920 then some (.str (toString i)) else none
  | _ => none
theorem ok_strI : CallR X (.type "str") (rF T fStrI) := by
  intro pins s σ H xs us Q I r ⟨ρ, st, ms, v, S, rm, e, q⟩
  unfold fStrI at e
  split at e
  · split at e
    · rename_i hl
      cases e
      obtain ⟨w, rfl, r1⟩ := rvs1 rm
      cases r1
      exact call_str_int pins s σ H _ us Q I r ⟨_, rfl, hl, q H _ (Fut.refl S) rfl⟩
    · cases e
  · cases e
def fAbs (_ : Sto) : List MV → Option MV
  | [.int i] => some (.int i.natAbs)
  | _ => none
theorem ok_abs : CallR X (.builtin "abs") (rF T fAbs) := by
  intro pins s σ H xs us Q I r ⟨ρ, st, ms, v, S, rm, e, q⟩
  unfold fAbs at e
  split at e
  · rename_i i
    cases e
    obtain ⟨w, rfl, r1⟩ := rvs1 rm
    cases r1
    have e1 : (if i < 0 then -i else i) = (i.natAbs : Int) := by split <;> omega
    exact call_abs pins s σ H _ us Q I r ⟨_, rfl, by rw [e1]; exact q H _ (Fut.refl S) rfl⟩
  · cases e
def fMax (_ : Sto) : List MV → Option MV
  | [.int i, .int j] => some (.int (if j > i then j else i))
  | _ => none
def fMin (_ : Sto) : List MV → Option MV
  | [.int i, .int j] => some (.int (if j < i then j else i))
  | _ => none
theorem ok_max (hc : X.calm = true) : CallR X (.builtin "max") (rF T fMax) := by
  intro pins s σ H xs us Q I r ⟨ρ, st, ms, v, S, rm, e, q⟩
  unfold fMax at e
  split at e
  · cases e
    obtain ⟨w, w', rfl, r1, r2⟩ := rvs2 rm
    cases r1; cases r2
    exact call_max2 hc pins s σ H _ us Q I r ⟨_, _, rfl, q H _ (Fut.refl S) rfl⟩
  · cases e
theorem ok_min (hc : X.calm = true) : CallR X (.builtin "min") (rF T fMin) := by
  intro pins s σ H xs us Q I r ⟨ρ, st, ms, v, S, rm, e, q⟩
  unfold fMin at e
  split at e
  · cases e
    obtain ⟨w, w', rfl, r1, r2⟩ := rvs2 rm
    cases r1; cases r2
    exact call_min2 hc pins s σ H _ us Q I r ⟨_, _, rfl, q H _ (Fut.refl S) rfl⟩
  · cases e
def fGcd (_ : Sto) : List MV → Option MV
  | [.int i, .int j] => some (.int (Nat.gcd i.natAbs j.natAbs : Nat))
  | _ => none
theorem ok_gcd : CallR X (.builtin "math.gcd") (rF T fGcd) := by
  intro pins s σ H xs us Q I r ⟨ρ, st, ms, v, S, rm, e, q⟩
  unfold fGcd at e
  split at e
  · cases e
    obtain ⟨w, w', rfl, r1, r2⟩ := rvs2 rm
    cases r1; cases r2
    exact cr_gcd pins s σ H _ us Q I r ⟨_, _, rfl, q H _ (Fut.refl S) rfl⟩
  · cases e
end
end Z

namespace Z
open PySem L2

/-! ### statements -/
inductive Fl where
  | nx (e : Ev) (s : Sto) | rt (v : MV) (s : Sto) | bk (e : Ev) (s : Sto) | ct (e : Ev) (s : Sto) | ex (e : Ev) (c : Nat) (fs : List (Nat × MV)) (s : Sto) | bad
abbrev MS := Ev → Sto → Fl
def OutS (T : Tx) (W : WX) (ρ : List Addr) (H : Hp) (D : Ends) : Fl → Prop
  | .nx e s => ∀ ρ' H' σ', Fut T ρ H ρ' s H' → REnv T ρ' H' e σ' → D.nx σ' H'
  | .rt v s => ∀ ρ' H' u, Fut T ρ H ρ' s H' → RV T ρ' H' v u → D.rt u H'
  | .bk e s => ∀ ρ' H' σ', Fut T ρ H ρ' s H' → REnv T ρ' H' e σ' → D.bk σ' H'
  | .ct e s => ∀ ρ' H' σ', Fut T ρ H ρ' s H' → REnv T ρ' H' e σ' → D.ct σ' H'
  | .ex e c fs s => ∀ ρ' H' σ' cl d, Fut T ρ H ρ' s H' → REnv T ρ' H' e σ' → RX T ρ' H' c fs cl d → W cl d σ' H'
  | .bad => False
def tS (T : Tx) (W : WX) (m : MS) : TS := fun D σ H => ∃ ρ st env, Sim T ρ st H ∧ REnv T ρ H env σ ∧ OutS T W ρ H D (m env st)
/-- an expression, then -/
def bndS {α : Type} (m : M α) (env : Ev) (f : α → Sto → Fl) : Sto → Fl := fun st => match m st with
  | .ok a t => f a t
  | .ex c fs t => .ex env c fs t
  | .bad => .bad
section
variable {T : Tx} {W : WX} {ρ ρ' ρ1 : List Addr} {H H' H1 : Hp} {σ : St} {st s1 : Sto} {α β : Type} {D : Ends} {env : Ev}
theorem OutS.fut {r : Fl} (F : Fut T ρ H ρ1 s1 H1) (h : OutS T W ρ H D r) : OutS T W ρ1 H1 D r := by
  cases r with
  | nx e s => exact fun ρ' H' σ' F' r => h ρ' H' σ' (F.trans F') r
  | rt v s => exact fun ρ' H' σ' F' r => h ρ' H' σ' (F.trans F') r
  | bk e s => exact fun ρ' H' σ' F' r => h ρ' H' σ' (F.trans F') r
  | ct e s => exact fun ρ' H' σ' F' r => h ρ' H' σ' (F.trans F') r
  | ex e c fs s => exact fun ρ' H' σ' cl d F' r => h ρ' H' σ' cl d (F.trans F') r
  | bad => exact h
theorem OutS.bnd {rel : List Addr → Hp → α → β → Prop} {m : M α} {f : α → Sto → Fl} (E : REnv T ρ H env σ) (h : OutS T W ρ H D (bndS m env f st)) :
    Out T W rel ρ H σ (m st) (fun b H1 => ∃ ρ1 s1 a, Fut T ρ H ρ1 s1 H1 ∧ rel ρ1 H1 a b ∧ OutS T W ρ1 H1 D (f a s1)) := by
  unfold bndS at h
  cases e : m st with
  | ok a t =>
    rw [e] at h
    exact fun ρ1 H1 b F r => ⟨ρ1, t, a, F, r, h.fut F⟩
  | ex c fs t =>
    rw [e] at h
    exact fun ρ' H' cl d F r => h ρ' H' σ cl d F (E.later F.lat) r
  | bad =>
    rw [e] at h
    exact h
/-- another end -/
theorem OutS.ends {r : Fl} {D' : Ends} (h : OutS T W ρ H D r) (h1 : ∀ e s ρ' H' σ', r = .nx e s → Fut T ρ H ρ' s H' → REnv T ρ' H' e σ' → D.nx σ' H' → D'.nx σ' H') (h2 : ∀ u H', D.rt u H' → D'.rt u H')
    (h3 : ∀ e s ρ' H' σ', r = .bk e s → Fut T ρ H ρ' s H' → REnv T ρ' H' e σ' → D.bk σ' H' → D'.bk σ' H') (h4 : ∀ e s ρ' H' σ', r = .ct e s → Fut T ρ H ρ' s H' → REnv T ρ' H' e σ' → D.ct σ' H' → D'.ct σ' H') : OutS T W ρ H D' r := by
  cases r with
  | nx e s => exact fun ρ' H' σ' F' r => h1 e s ρ' H' σ' rfl F' r (h ρ' H' σ' F' r)
  | rt v s => exact fun ρ' H' σ' F' r => h2 _ _ (h ρ' H' σ' F' r)
  | bk e s => exact fun ρ' H' σ' F' r => h3 e s ρ' H' σ' rfl F' r (h ρ' H' σ' F' r)
  | ct e s => exact fun ρ' H' σ' F' r => h4 e s ρ' H' σ' rfl F' r (h ρ' H' σ' F' r)
  | ex e c fs s => exact h
  | bad => exact h
end

def sSeq (a b : MS) : MS := fun env st => match a env st with
  | .nx e s => b e s
  | .rt v s => .rt v s
  | .bk e s => .bk e s
  | .ct e s => .ct e s
  | .ex e c fs s => .ex e c fs s
  | .bad => .bad
def sNil : MS := fun env st => .nx env st
def sBreak : MS := fun env st => .bk env st
def sCont : MS := fun env st => .ct env st
def sAsg (i : Nat) (m : Ev → M MV) : MS := fun env => bndS (m env) env fun v s => .nx (env.set i (some v)) s
def sExpr (m : Ev → M MV) : MS := fun env => bndS (m env) env fun _ s => .nx env s
def sRet (m : Ev → M MV) : MS := fun env => bndS (m env) env fun v s => .rt v s
def sRetN : MS := fun _ s => .rt .non s
def sIf (m : Ev → M Bool) (a b : MS) : MS := fun env => bndS (m env) env fun k s => if k = true then a env s else b env s
section
variable {X : Cx} {T : Tx} {W : WX} {ma mb mc : Ev → M MV} {m : Ev → M Bool} {a b : MS} {st : Stmt} {rest sa sb : List Stmt} {e c : Expr} {pos pos' : Pos}
theorem s_nil : PSs X [] (tS T W sNil) := pss_mono pss_nil fun D σ H ⟨ρ, st, env, S, E, h⟩ => h ρ H σ (Fut.refl S) E
theorem s_cons (h1 : PS X st (tS T W a)) (h2 : PSs X rest (tS T W b)) : PSs X (st :: rest) (tS T W (sSeq a b)) := pss_mono (pss_cons h1 h2) fun D σ H ⟨ρ, st, env, S, E, h⟩ => by
  refine ⟨ρ, st, env, S, E, ?_⟩
  unfold sSeq at h
  cases r : a env st with
  | nx e s =>
    rw [r] at h
    exact fun ρ' H' σ' F E' => ⟨ρ', s, e, F.sim, E', h.fut F⟩
  | rt v s => rw [r] at h; exact h
  | bk e s => rw [r] at h; exact h
  | ct e s => rw [r] at h; exact h
  | ex e c fs s => rw [r] at h; exact h
  | bad => rw [r] at h; exact h
theorem s_one (h1 : PS X st (tS T W a)) : PSs X [st] (tS T W a) := pss_one h1
theorem s_pass : PS X (.Pass pos) (tS T W sNil) := ps_mono ps_pass fun D σ H ⟨ρ, st, env, S, E, h⟩ => h ρ H σ (Fut.refl S) E
theorem s_break : PS X (.Break pos) (tS T W sBreak) := ps_mono ps_break fun D σ H ⟨ρ, st, env, S, E, h⟩ => h ρ H σ (Fut.refl S) E
theorem s_continue : PS X (.Continue pos) (tS T W sCont) := ps_mono ps_continue fun D σ H ⟨ρ, st, env, S, E, h⟩ => h ρ H σ (Fut.refl S) E
theorem s_set {x : Str} (i : Nat) (hN : X.N.Nodup) (he : PE X e (tE T W ma)) (hi : X.N[i]? = some x := by rfl) (hx : Loc X.env.scope x := by first | exact .inl rfl | exact .inr rfl) (hs : swapsWith e (some (.Name x pos')) pos.line X.env = pure false := by rfl)
    (hf : X.fn x = true ∨ X.env.scope.names.lookup x = some .local := by first | exact .inl rfl | exact .inr rfl | assumption) : PS X (.Assign [.Name x pos'] e pos) (tS T W (sAsg i ma)) :=
  ps_mono (ps_set hN hi hx he hs hf) fun D σ H ⟨ρ, st, env, S, E, h⟩ => ⟨ρ, st, env, S, E, (OutS.bnd E h).imp fun v H1 ⟨ρ1, s1, m, F1, r1, q1⟩ => q1 ρ1 H1 _ (Fut.refl F1.sim) ((E.later F1.lat).set r1 i)⟩
theorem s_expr (he : PE X e (tE T W ma)) (hs : swapsWith e none pos.line X.env = pure false := by rfl) : PS X (.Expr e pos) (tS T W (sExpr ma)) :=
  ps_mono (ps_expr he hs) fun D σ H ⟨ρ, st, env, S, E, h⟩ => ⟨ρ, st, env, S, E, (OutS.bnd E h).imp fun v H1 ⟨ρ1, s1, m, F1, r1, q1⟩ => q1 ρ1 H1 _ (Fut.refl F1.sim) (E.later F1.lat)⟩
theorem s_doc {x j} : PS X (.Expr (.Constant (.str x) j pos) pos') (tS T W sNil) := ps_mono ps_doc fun D σ H ⟨ρ, st, env, S, E, h⟩ => h ρ H σ (Fut.refl S) E
theorem s_ret (he : PE X e (tE T W ma)) : PS X (.Return (some e) pos) (tS T W (sRet ma)) :=
  ps_mono (ps_ret he) fun D σ H ⟨ρ, st, env, S, E, h⟩ => ⟨ρ, st, env, S, E, (OutS.bnd E h).imp fun v H1 ⟨ρ1, s1, m, F1, r1, q1⟩ => q1 ρ1 H1 _ (Fut.refl F1.sim) r1⟩
theorem s_retN : PS X (.Return none pos) (tS T W sRetN) := ps_mono ps_retN fun D σ H ⟨ρ, st, env, S, E, h⟩ => h ρ H .non (Fut.refl S) rfl
theorem s_if (hc : PT X c (tT T W m)) (ha : PSs X sa (tS T W a)) (hb : PSs X sb (tS T W b)) : PS X (.If c sa sb pos) (tS T W (sIf m a b)) :=
  ps_mono (ps_if hc ha hb) fun D σ H ⟨ρ, st, env, S, E, h⟩ => ⟨ρ, st, env, S, E, (OutS.bnd E h).imp fun k H1 ⟨ρ1, s1, k', F1, r1, q1⟩ => by
    subst r1
    cases k' with
    | true => rw [if_pos rfl] at q1; exact ⟨ρ1, s1, env, F1.sim, E.later F1.lat, q1⟩
    | false => rw [if_neg (by decide)] at q1; exact ⟨ρ1, s1, env, F1.sim, E.later F1.lat, q1⟩⟩
end

/-! ### targets -/
abbrev MG := MV → Ev → M Ev
abbrev MGs := List MV → Ev → M Ev
/-- vs: the slots that it may store -/
def OutG (T : Tx) (vs : List Nat) (σ : St) (ρ : List Addr) (H : Hp) (r : R Ev) (Q : St → Hp → Prop) : Prop := match r with
  | .ok e s => ∀ ρ' H' σ', Fut T ρ H ρ' s H' → REnv T ρ' H' e σ' → wipe σ' vs = wipe σ vs → Q σ' H'
  | _ => False
def tTg (T : Tx) (vs : List Nat) (g : MG) : TG := fun v σ H Q => ∃ ρ st env m, Sim T ρ st H ∧ REnv T ρ H env σ ∧ RV T ρ H m v ∧ OutG T vs σ ρ H (g m env st) Q
def tTgs (T : Tx) (vs : List Nat) (g : MGs) : TGs := fun us σ H Q => ∃ ρ st env ms, Sim T ρ st H ∧ REnv T ρ H env σ ∧ RVs T ρ H ms us ∧ OutG T vs σ ρ H (g ms env st) Q
theorem wipe_set {σ : St} {i : Nat} {o : Option V} : ∀ {vs : List Nat}, i ∈ vs → wipe (σ.set i o) vs = wipe σ vs
  | [], h => by simp at h
  | v :: vs, h => by
    show (wipe (σ.set i o) vs).set v none = (wipe σ vs).set v none
    by_cases hi : i ∈ vs
    · rw [wipe_set hi]
    · have e : i = v := by rcases List.mem_cons.mp h with h | h; exact h; exact absurd h hi
      subst e
      have go : ∀ us : List Nat, i ∉ us → wipe (σ.set i o) us = (wipe σ us).set i o := fun us => by
        induction us with
        | nil => intro _; rfl
        | cons u us ih =>
          intro hn
          have hu : i ≠ u := fun z => hn (z ▸ List.mem_cons_self)
          show (wipe (σ.set i o) us).set u none = ((wipe σ us).set u none).set i o
          rw [ih fun z => hn (List.mem_cons_of_mem _ z), List.set_comm _ _ hu]
      rw [go vs hi, List.set_set]
theorem wipe_wipe {σ : St} : ∀ {vs : List Nat}, wipe (wipe σ vs) vs = wipe σ vs := fun {vs} => by
  have go : ∀ us : List Nat, (∀ u ∈ us, u ∈ vs) → wipe (wipe σ us) vs = wipe σ vs := fun us => by
    induction us with
    | nil => intro _; rfl
    | cons u us ih =>
      intro h
      show wipe ((wipe σ us).set u none) vs = _
      rw [wipe_set (h u List.mem_cons_self)]
      exact ih fun x hx => h x (List.mem_cons_of_mem _ hx)
  exact go vs fun _ h => h
def tgName (i : Nat) : MG := fun v env s => .ok (env.set i (some v)) s
def tgNil : MGs := fun vs env s => match vs with
  | [] => .ok env s
  | _ => .bad
def tgCons (g : MG) (r : MGs) : MGs := fun vs env s => match vs with
  | v :: vs => match g v env s with
    | .ok e t => r vs e t
    | _ => .bad
  | [] => .bad
def tgTup (n : Nat) (g : MGs) : MG := fun v env s => match v with
  | .tup xs => if xs.length = n then g xs env s else .bad
  | _ => .bad
section
variable {X : Cx} {T : Tx} {W : WX} {ma mb mc : Ev → M MV} {e o i tg : Expr} {es : List Expr} {pos pos' : Pos} {g : MG} {gs : MGs} {ρ ρ1 : List Addr} {H H1 : Hp} {s1 : Sto} {vs : List Nat} {σ σ1 : St}
theorem OutG.fut {r : R Ev} {Q : St → Hp → Prop} (F : Fut T ρ H ρ1 s1 H1) (hw : wipe σ1 vs = wipe σ vs) (h : OutG T vs σ ρ H r Q) : OutG T vs σ1 ρ1 H1 r Q := by
  cases r with
  | ok e s => exact fun ρ' H' σ' F' r w => h ρ' H' σ' (F.trans F') r (w.trans hw)
  | ex c fs s => exact h
  | bad => exact h
theorem pg_mono {t t' : TG} (h : PG X tg t) (q : ∀ v σ H Q, t' v σ H Q → t v σ H Q) : PG X tg t' := ⟨fun pins s σ H v u Q I r z => h.run pins s σ H v u Q I r (q v σ H Q z)⟩
theorem pgs_mono {t t' : TGs} (h : PGs X es t) (q : ∀ v σ H Q, t' v σ H Q → t v σ H Q) : PGs X es t' := ⟨fun pins s σ H v u Q I r z => h.run pins s σ H v u Q I r (q v σ H Q z)⟩
theorem g_name {x : Str} (i : Nat) (hN : X.N.Nodup) (hi : X.N[i]? = some x := by rfl) (hx : Loc X.env.scope x := by first | exact .inl rfl | exact .inr rfl) (hf : X.fn x = true ∨ X.env.scope.names.lookup x = some .local := by first | exact .inl rfl | exact .inr rfl | assumption) (hv : i ∈ vs := by decide) :
    PG X (.Name x pos) (tTg T vs (tgName i)) := pg_mono (pg_name hN hi hx hf) fun v σ H Q ⟨ρ, st, env, m, S, E, r, h⟩ => h ρ H _ (Fut.refl S) (E.set r i) (wipe_set hv)
theorem gs_nil : PGs X [] (tTgs T vs tgNil) := pgs_mono pgs_nil fun us σ H Q ⟨ρ, st, env, ms, S, E, r, h⟩ => by
  cases ms with
  | nil => cases r; exact ⟨rfl, h ρ H _ (Fut.refl S) E rfl⟩
  | cons m ms => exact h.elim
theorem gs_cons (h1 : PG X e (tTg T vs g)) (h2 : PGs X es (tTgs T vs gs)) (hs : (assignEach (e :: es) X.env).map (·.2) = assign e X.env :: (assignEach es X.env).map (·.2) := by rfl) : PGs X (e :: es) (tTgs T vs (tgCons g gs)) :=
  pgs_mono (pgs_cons h1 h2 hs) fun ws σ H Q ⟨ρ, st, env, ms, S, E, r, h⟩ => by
    cases ms with
    | nil => exact h.elim
    | cons m ms =>
      obtain ⟨v, us, rfl, r1, r2⟩ := r
      refine ⟨v, us, rfl, ρ, st, env, m, S, E, r1, ?_⟩
      unfold tgCons at h
      cases q : g m env st with
      | ok e t =>
        simp only [q] at h
        exact fun ρ' H' σ' F E' w => ⟨ρ', t, e, ms, F.sim, E', r2.later F.lat, h.fut F w⟩
      | ex c fs s => simp only [q] at h; exact h
      | bad => simp only [q] at h; exact h
theorem g_tup {k n : Nat} (hK : T.K = X.K) (hc : X.calm = true) (h : PGs X es (tTgs T vs gs)) (hn : (assignEach es X.env).length = n := by rfl) (hst : (assignEach es X.env).findIdx? (·.1) = none := by rfl) : PG X (.Tuple es k pos) (tTg T vs (tgTup n gs)) :=
  pg_mono (pg_tup hc h hn hst) fun v σ H Q ⟨ρ, st, env, m, S, E, r, h⟩ => by
    cases m with
    | tup xs =>
      obtain ⟨a, ys, rfl, z, r⟩ := r
      unfold tgTup at h
      by_cases hl : xs.length = n
      · simp only [hl, if_true] at h
        exact ⟨a, ys, rfl, hK ▸ z.sq, by rw [← r.length]; exact hl, ρ, st, env, xs, S, E, r, h⟩
      · simp only [if_neg hl] at h; exact h.elim
    | _ => exact h.elim
/-- target = value -/
def sTg (g : MG) (m : Ev → M MV) : MS := fun env => bndS (m env) env fun v s => match g v env s with
  | .ok e t => .nx e t
  | _ => .bad
theorem outG_of {D : Ends} {ρ : List Addr} {H : Hp} {r : R Ev} (h : OutS T W ρ H D (match r with | .ok e t => Fl.nx e t | _ => .bad)) : OutG T vs σ ρ H r D.nx := by
  cases r with
  | ok e t => exact fun ρ' H' σ' F E _ => h ρ' H' σ' F E
  | ex c fs s => exact h
  | bad => exact h
theorem s_tg (he : PE X e (tE T W ma)) (hg : PG X tg (tTg T vs g)) (hs : swapsWithSole [tg] e pos.line X.env = pure false := by rfl) (hw : swappedStores [tg] e X.env = pure none := by rfl)
    (h1 : (assignEach [tg] X.env).map (·.2) = [assign tg X.env] := by rfl) : PS X (.Assign [tg] e pos) (tS T W (sTg g ma)) :=
  ps_mono (ps_asg he hg hs hw h1) fun D σ H ⟨ρ, st, env, S, E, h⟩ => ⟨ρ, st, env, S, E, (OutS.bnd E h).imp fun v H1 ⟨ρ1, s1, m, F1, r1, q1⟩ => ⟨ρ1, s1, env, m, F1.sim, E.later F1.lat, r1, outG_of q1⟩⟩
/-- a, b = x, y with plain local names -/
def sPar (i j : Nat) (as : Ev → M (List MV)) : MS := fun env => bndS (as env) env fun vs s => match vs with
  | [v, w] => .nx ((env.set i (some v)).set j (some w)) s
  | _ => .bad
theorem s_par {x y : Str} {a b : Expr} {as : Ev → M (List MV)} {px py pt : Pos} {kt k2 pt2} (i j : Nat) (hc : X.calm = true) (hN : X.N.Nodup) (ha : PA X [a, b] (tA T W as)) (hi : X.N[i]? = some x := by rfl) (hj : X.N[j]? = some y := by rfl) (hij : i ≠ j := by decide)
    (hx : X.env.scope.names.lookup x = some .local := by rfl) (hy : X.env.scope.names.lookup y = some .local := by rfl)
    (hw : swappedStores [.Tuple [.Name x px, .Name y py] kt pt] (.Tuple [a, b] k2 pt2) X.env = pure (some [x, y]) := by rfl)
    (hs : swapsWithSole [.Tuple [.Name x px, .Name y py] kt pt] (.Tuple [a, b] k2 pt2) pos.line X.env = pure false := by rfl) :
    PS X (.Assign [.Tuple [.Name x px, .Name y py] kt pt] (.Tuple [a, b] k2 pt2) pos) (tS T W (sPar i j as)) :=
  ps_mono (ps_par hc hN hi hj hij hx hy ha hw hs) fun D σ H ⟨ρ, st, env, S, E, h⟩ => ⟨ρ, st, env, S, E, (OutS.bnd E h).imp fun vs H1 ⟨ρ1, s1, ms, F1, r1, q1⟩ => by
    split at q1
    · rename_i v w
      obtain ⟨v', w', rfl, r2, r3⟩ := rvs2 r1
      exact ⟨v', w', rfl, q1 ρ1 H1 _ (Fut.refl F1.sim) (((E.later F1.lat).set r2 i).set r3 j)⟩
    · exact q1.elim⟩
/-- o[i] = v, o a list in a cell -/
def setL (o i v : MV) (s : Sto) : Option Sto := match o, i with
  | .ref n, .int k => match s[n]? with
    | some (.lst xs) => match ixN xs.length k with
      | some j => some (s.set n (.lst (xs.set j v)))
      | none => none
    | _ => none
  | _, _ => none
theorem setL_some {o i v : MV} {s t : Sto} (h : setL o i v s = some t) : ∃ n k xs j, o = .ref n ∧ i = .int k ∧ s[n]? = some (.lst xs) ∧ ixN xs.length k = some j ∧ t = s.set n (.lst (xs.set j v)) := by
  unfold setL at h
  cases o with
  | ref n =>
    cases i with
    | int k =>
      simp only at h
      cases e : s[n]? with
      | none => rw [e] at h; cases h
      | some c =>
        rw [e] at h
        cases c with
        | lst xs =>
          simp only at h
          cases e2 : ixN xs.length k with
          | none => rw [e2] at h; cases h
          | some j => rw [e2] at h; cases h; exact ⟨n, k, xs, j, rfl, rfl, e, e2, rfl⟩
        | _ => cases h
    | _ => cases h
  | _ => cases h
def sSub (mo mi mv : Ev → M MV) : MS := fun env => bndS (mv env) env fun v => bndS (mo env) env fun o => bndS (mi env) env fun i s => match setL o i v s with
  | some t => .nx env t
  | none => .bad
theorem s_sub (hv : PE X e (tE T W mc)) (ho : PE X o (tE T W ma)) (hi : PE X i (tE T W mb))
    (hs : swapsWithSole [.Subscript o i pos'] e pos.line X.env = pure false := by rfl) (hw : swappedStores [.Subscript o i pos'] e X.env = pure none := by rfl)
    (h1 : (assignEach [.Subscript o i pos'] X.env).map (·.2) = [assign (.Subscript o i pos') X.env] := by rfl)
    (hass : ∀ v, assign (.Subscript o i pos') X.env v = (do
      let ov ← holding [v] (eval o X.env)
      let iv ← holding [v, ov] (eval i X.env)
      standAt pos'
      holding [v, ov, iv] (setItem ov iv v)
      release [v, ov, iv] []) := by intro _; rfl) : PS X (.Assign [.Subscript o i pos'] e pos) (tS T W (sSub ma mb mc)) :=
  ps_mono (ps_asg hv (pg_sub ho hi set_list hass) hs hw h1) fun D σ H ⟨ρ, st, env, S, E, h⟩ => ⟨ρ, st, env, S, E, (OutS.bnd E h).imp fun v H1 ⟨ρ1, s1, m, F1, r1, q1⟩ => by
    refine ⟨ρ1, s1, env, F1.sim, E.later F1.lat, (OutS.bnd (E.later F1.lat) q1).imp fun o H2 ⟨ρ2, s2, mo, F2, r2, q2⟩ => ?_⟩
    refine ⟨ρ2, s2, env, F2.sim, E.later (F1.trans F2).lat, (OutS.bnd (E.later (F1.trans F2).lat) q2).imp fun i H3 ⟨ρ3, s3, mi, F3, r3, q3⟩ => ?_⟩
    have E3 := E.later (F1.trans (F2.trans F3)).lat
    have rv := r1.later (F2.trans F3).lat
    have ro := r2.later F3.lat
    cases e1 : setL mo mi m s3 with
    | none => rw [e1] at q3; exact q3.elim
    | some t =>
      rw [e1] at q3
      obtain ⟨n, k, xs, j, rfl, rfl, ex, ej, rfl⟩ := setL_some e1
      obtain ⟨a, ea, rfl⟩ := ro
      cases r3
      obtain ⟨ys, ey, r⟩ := F3.sim.cell n a _ ea ex
      refine ⟨a, ys, k, j, rfl, rfl, ey, by rw [← r.length]; exact ej, ?_⟩
      have F4 := F3.sim.set (c := .lst (xs.set j m)) (o := .lst (ys.set j v)) ea fun ρ' H' L => ⟨_, rfl, (r.later L).set (rv.later L) j⟩
      exact q3 _ _ _ F4 (E3.later F4.lat)⟩
end
end Z

namespace Z
open PySem L2

/-! ### defs -/
abbrev MF := List MV → M MV
def OutF (T : Tx) (ρ : List Addr) (H : Hp) (r : R MV) (Q : VK) (E : XK) : Prop := match r with
  | .ok v s => ∀ ρ' H' u, Fut T ρ H ρ' s H' → RV T ρ' H' v u → Q u H'
  | .ex c fs s => ∀ ρ' H' cl d, Fut T ρ H ρ' s H' → RX T ρ' H' c fs cl d → E cl d H'
  | .bad => False
/-- the promise of a def by its plain reading (p parameters) -/
def spM (T : Tx) (p : Nat) (mf : MF) : Sp := fun vs H Q E => ∃ ρ st ms, Sim T ρ st H ∧ RVs T ρ H ms vs ∧ ms.length = p ∧ OutF T ρ H (mf ms st) Q E
def flowR : Fl → R MV
  | .nx _ s => .ok .non s
  | .rt v s => .ok v s
  | .ex _ c fs s => .ex c fs s
  | _ => .bad
/-- a body with n names -/
def mFun (n : Nat) (mb : MS) : MF := fun args st => flowR (mb (args.map some ++ List.replicate (n - args.length) none) st)
/-- a def of the text as it stands behind the top -/
structure Df (K : PySem.W.Frag) (qual : Str) (st : Stmt) (f : Addr) (fd : FuncData) : Prop where
  ex : ∃ (x : Str) (oc : Value) (od : Option Addr) (dV kV doc pm : Value) (an : Option Addr) (cdv ct : Value) (osl : Array (Option Value)),
    fd = PySem.W.fnOf x qual (defArgs st) (defBody st) (defScope st) dV kV doc pm an cdv ct ∧ K.lookup f = some ⟨oc, od, .func fd, osl⟩ ∧ PySem.W.codeIn K cdv qual = true
  kp : PySem.W.keepIn K (.ref f) = true
section
variable {P : Program} {w : World} {K : PySem.W.Frag} {mg : Str → Option Value} {base : Heap} {T : Tx}
/-- what a body wants of exceptions -/
abbrev WB (E : XK) : WX := fun cl d _ H => E cl d H
theorem body_red {N : List Str} {ps : List Str} {mb : MS} {vs : List V} {H : Hp} {Q : VK} {E : XK} (h : spM T ps.length (mFun N.length mb) vs H Q E) : tS T (WB E) mb { nx := fun _ H' => Q .non H', rt := Q } (L2.start N vs) H := by
  obtain ⟨ρ, st, ms, S, r, hl, h⟩ := h
  refine ⟨ρ, st, ms.map some ++ List.replicate (N.length - ms.length) none, S, ?_, ?_⟩
  · unfold L2.start
    rw [← r.length]
    exact REnv.start r _
  · have h' : OutF T ρ H (flowR (mb (ms.map some ++ List.replicate (N.length - ms.length) none) st)) Q E := h
    revert h'
    generalize mb (ms.map some ++ List.replicate (N.length - ms.length) none) st = r
    intro h'
    cases r with
    | nx e s => exact fun ρ' H' σ' F _ => h' ρ' H' .non F rfl
    | rt v s => exact h'
    | bk e s => exact False.elim h'
    | ct e s => exact False.elim h'
    | ex e c fs s => exact fun ρ' H' σ' cl d F _ r => h' ρ' H' cl d F r
    | bad => exact False.elim h'
/-- THE RULE: a def by its body's plain reading -/
theorem fn_okM {qual : Str} {st : Stmt} {f : Addr} {fd : FuncData} {N ps : List Str} {k : Nat} {mb : MS} (F : Df K qual st f fd) (S : FnScope N ps (defScope st))
    (hb : ∀ (cdv : Value) (A : Around) (outer : List Env) (s : Shared) (H : Hp) (E : XK), Room k (A.deeper (PyProof.Rows.envOfC qual (defScope st) s.heap.objs.size f cdv)) →
      PSs (cxOf (L2.CX P w) P w K mg base N qual (defScope st) f cdv A outer s H E) (defBody st) (tS T (WB E) mb)) : FnOk P w K mg base (L2.CX P w) (k + 1) f fd ps (spM T ps.length (mFun N.length mb)) := by
  obtain ⟨x, oc, od, dV, kV, doc, pm, an, cdv, ct, osl, rfl, lk, hcd⟩ := F.ex
  refine fn_of lk hcd S (fun vs H Q E h => ?_) fun A outer s H vs Q E hr hsp => ⟨_, hb cdv A outer s H E hr, body_red hsp⟩
  obtain ⟨ρ, st, ms, _, r, hl, _⟩ := h
  rw [← r.length]; exact hl
theorem FnOk.to {k p : Nat} {f : Addr} {fd : FuncData} {ps : List Str} {mf mf' : MF} (F : FnOk P w K mg base (L2.CX P w) k f fd ps (spM T p mf)) (h : ∀ ms ρ st H Q E, Sim T ρ st H → ms.length = p → OutF T ρ H (mf' ms st) Q E → OutF T ρ H (mf ms st) Q E) :
    FnOk P w K mg base (L2.CX P w) k f fd ps (spM T p mf') := F.imp fun vs H Q E ⟨ρ, st, ms, S, r, hl, q⟩ => ⟨ρ, st, ms, S, r, hl, h ms ρ st H Q E S hl q⟩
end

/-! ### what a def leaves behind: nothing but its value -/
def frzM (s : Sto) (n : Nat) : Nat → MV → Option MV
  | 0, _ => none
  | k + 1, .tup xs => (xs.mapM (frzM s n k)).map .tup
  | k + 1, .lst xs => (xs.mapM (frzM s n k)).map .lst
  | k + 1, .frz xs => (xs.mapM (frzM s n k)).map .frz
  | k + 1, .ins c xs => (xs.mapM (frzM s n k)).map (.ins c)
  | k + 1, .ref m => if m < n then some (.ref m) else match s[m]? with
    | some (.lst xs) => (xs.mapM (frzM s n k)).map .lst
    | some (.ins c fs) => if fs.map (·.1) = fieldsOf c then ((fs.map (·.2)).mapM (frzM s n k)).map (.ins c) else none
    | _ => none
  | _ + 1, .non => some .non
  | _ + 1, .bl b => some (.bl b)
  | _ + 1, .int i => some (.int i)
  | _ + 1, .str x => some (.str x)
  | _ + 1, .fn k => some (.fn k)
  | _ + 1, .exc => none
section
variable {T : Tx} {ρ ρ' : List Addr} {H H' : Hp} {st s' : Sto} {n : Nat}
theorem mapM_len {α β : Type} {f : α → Option β} : ∀ {xs : List α} {ys : List β}, xs.mapM f = some ys → ys.length = xs.length
  | [], ys, h => by cases h; rfl
  | x :: xs, ys, h => by
    obtain ⟨d, es, _, h2, rfl⟩ := mapM_cons_some h
    rw [List.length_cons, List.length_cons, mapM_len h2]
theorem frz_all {f : MV → Option MV} {ρ' : List Addr} (hf : ∀ m v m', RV T ρ H m v → f m = some m' → RV T ρ' H m' v) : ∀ {xs : List MV} {vs : List V} {ys : List MV}, RVs T ρ H xs vs → xs.mapM f = some ys → RVs T ρ' H ys vs
  | [], vs, ys, r, h => by cases r; cases h; rfl
  | x :: xs, vs, ys, r, h => by
    obtain ⟨v, us, rfl, r1, r2⟩ := r
    obtain ⟨d, es, h1, h2, rfl⟩ := mapM_cons_some h
    exact ⟨v, us, rfl, hf x v d r1 h1, frz_all hf r2 h2⟩
theorem not_take {a : Addr} {ρ : List Addr} {n : Nat} (h : a ∉ ρ) : a ∉ ρ.take n := fun z => h (List.mem_of_mem_take z)
theorem frz_ok (S : Sim T ρ s' H) : ∀ (k : Nat) (m : MV) (v : V) (m' : MV), RV T ρ H m v → frzM s' n k m = some m' → RV T (ρ.take n) H m' v := by
  intro k
  induction k with
  | zero => intro m v m' _ h; cases h
  | succ k ih =>
    intro m v m' r h
    have seq : ∀ {xs : List MV} {vs : List V} {g : List MV → MV}, RVs T ρ H xs vs → (xs.mapM (frzM s' n k)).map g = some m' → ∃ ys, m' = g ys ∧ RVs T (ρ.take n) H ys vs ∧ ys.length = xs.length := fun {xs vs g} r h => by
      cases e : xs.mapM (frzM s' n k) with
      | none => rw [e] at h; cases h
      | some ys => rw [e] at h; cases h; exact ⟨ys, rfl, frz_all ih r e, mapM_len e⟩
    cases m with
    | non => cases h; exact r
    | bl b => cases h; exact r
    | int i => cases h; exact r
    | str x => cases h; exact r
    | fn j => cases h; exact r
    | exc => cases h
    | tup xs =>
      obtain ⟨a, ys, rfl, z, r⟩ := r
      obtain ⟨zs, rfl, q, _⟩ := seq r h
      refine ⟨a, ys, rfl, ?_, q⟩
      rcases z with ⟨z1, z2⟩ | z
      · exact .inl ⟨not_take z1, z2⟩
      · exact .inr z
    | lst xs =>
      obtain ⟨a, ys, rfl, z1, z, r⟩ := r
      obtain ⟨zs, rfl, q, _⟩ := seq r h
      exact ⟨a, ys, rfl, not_take z1, z, q⟩
    | frz xs =>
      obtain ⟨a, ys, rfl, z, r⟩ := r
      obtain ⟨zs, rfl, q, _⟩ := seq r h
      refine ⟨a, ys, rfl, ?_, q⟩
      rcases z with ⟨z1, z2⟩ | z
      · exact .inl ⟨not_take z1, z2⟩
      · exact .inr z
    | ins c xs =>
      obtain ⟨a, dx, vs, rfl, z1, z2, z3, z4, r⟩ := r
      obtain ⟨zs, rfl, q, hl⟩ := seq r h
      exact ⟨a, dx, vs, rfl, not_take z1, z2, by rw [hl]; exact z3, z4, q⟩
    | ref j =>
      obtain ⟨a, e1, rfl⟩ := r
      simp only [frzM] at h
      by_cases hj : j < n
      · rw [if_pos hj] at h
        cases h
        exact ⟨a, by rw [List.getElem?_take_of_lt hj]; exact e1, rfl⟩
      · rw [if_neg hj] at h
        have na : a ∉ ρ.take n := fun z => by
          obtain ⟨i, hi, e⟩ := List.mem_iff_getElem.mp z
          rw [List.length_take] at hi
          have e3 : ρ[i]? = some a := by
            rw [List.getElem_take] at e
            rw [List.getElem?_eq_getElem (by omega), e]
          have := S.inj e3 e1
          omega
        split at h
        · rename_i xs ex
          obtain ⟨ys, ey, r⟩ := S.cell j a _ e1 ex
          obtain ⟨zs, rfl, q, _⟩ := seq r h
          exact ⟨a, ys, rfl, na, ey, q⟩
        · rename_i c fs ex
          split at h
          · rename_i hf
            obtain ⟨dx, vs, ey, hc, _, _, r⟩ := S.cell j a _ e1 ex
            obtain ⟨zs, rfl, q, hl⟩ := seq r h
            refine ⟨a, dx, vs, rfl, na, hc, ?_, ?_, q⟩
            · rw [hl, List.length_map, ← hf, List.length_map]
            · rw [← hf, List.map_map]; exact ey
          · cases h
        · cases h
mutual
theorem RV.back {T : Tx} {ρ e : List Addr} {H H' : Hp} : ∀ (m : MV) (v v0 : V), RV T (ρ ++ e) H' m v → RV T ρ H m v0 → RV T ρ H' m v
  | .non, v, v0, h, _ => h
  | .bl _, v, v0, h, _ => h
  | .int _, v, v0, h, _ => h
  | .str _, v, v0, h, _ => h
  | .fn _, v, v0, h, _ => h
  | .exc, v, v0, h, _ => h
  | .tup xs, v, v0, h, h0 => by
    obtain ⟨a, ys, rfl, z, r⟩ := h
    obtain ⟨_, zs, _, _, r0⟩ := h0
    refine ⟨a, ys, rfl, ?_, RVs.back xs ys zs r r0⟩
    rcases z with ⟨z1, z2⟩ | z
    · exact .inl ⟨fun q => z1 (List.mem_append_left _ q), z2⟩
    · exact .inr z
  | .lst xs, v, v0, h, h0 => by
    obtain ⟨a, ys, rfl, z1, z, r⟩ := h
    obtain ⟨_, zs, _, _, _, r0⟩ := h0
    exact ⟨a, ys, rfl, fun q => z1 (List.mem_append_left _ q), z, RVs.back xs ys zs r r0⟩
  | .frz xs, v, v0, h, h0 => by
    obtain ⟨a, ys, rfl, z, r⟩ := h
    obtain ⟨_, zs, _, _, r0⟩ := h0
    refine ⟨a, ys, rfl, ?_, RVs.back xs ys zs r r0⟩
    rcases z with ⟨z1, z2⟩ | z
    · exact .inl ⟨fun q => z1 (List.mem_append_left _ q), z2⟩
    · exact .inr z
  | .ins c xs, v, v0, h, h0 => by
    obtain ⟨a, dx, vs, rfl, z1, z2, z3, z4, r⟩ := h
    obtain ⟨_, _, ws, _, _, _, _, _, r0⟩ := h0
    exact ⟨a, dx, vs, rfl, fun q => z1 (List.mem_append_left _ q), z2, z3, z4, RVs.back xs vs ws r r0⟩
  | .ref n, v, v0, h, h0 => by
    obtain ⟨a, e1, rfl⟩ := h
    obtain ⟨b, e2, _⟩ := h0
    have hi := (List.getElem?_eq_some_iff.mp e2).1
    rw [List.getElem?_append_left hi] at e1
    exact ⟨a, e1, rfl⟩
theorem RVs.back {T : Tx} {ρ e : List Addr} {H H' : Hp} : ∀ (ms : List MV) (vs vs0 : List V), RVs T (ρ ++ e) H' ms vs → RVs T ρ H ms vs0 → RVs T ρ H' ms vs
  | [], vs, vs0, h, _ => h
  | x :: xs, vs, vs0, h, h0 => by
    obtain ⟨y, ys, rfl, h1, h2⟩ := h
    obtain ⟨z, zs, _, k1, k2⟩ := h0
    exact ⟨y, ys, rfl, RV.back x y z h1 k1, RVs.back xs ys zs h2 k2⟩
end
theorem Fut.cut (F : Fut T ρ H ρ' s' H') (S : Sim T ρ st H) (h : s'.take st.length = st) : ρ'.take st.length = ρ ∧ Fut T ρ H ρ st H' := by
  obtain ⟨e, rfl, he⟩ := F.more
  have hl := S.len
  have ht : (ρ ++ e).take st.length = ρ := by rw [← hl]; simp
  refine ⟨ht, ⟨Lat.refl.more, ⟨hl, S.nd, fun c fs cl d a h => (S.exc c fs cl d a h).later ⟨Lat.refl.more, F.keep⟩, fun i a c e1 e2 => ?_⟩, F.keep⟩⟩
  have hi := (List.getElem?_eq_some_iff.mp e2).1
  have e1' : (ρ ++ e)[i]? = some a := by rw [List.getElem?_append_left (by omega)]; exact e1
  have e2' : s'[i]? = some c := by
    rw [← h] at e2
    rw [List.getElem?_take_of_lt hi] at e2
    exact e2
  have rc := F.sim.cell i a c e1' e2'
  have rc0 := S.cell i a c e1 e2
  have b : ∀ {m : MV} {v v0 : V}, RV T (ρ ++ e) H' m v → RV T ρ H m v0 → RV T ρ H' m v := fun {m v v0} r r0 => RV.back m v v0 r r0
  cases c with
  | lst xs =>
    obtain ⟨ys, e3, r⟩ := rc
    obtain ⟨zs, _, r0⟩ := rc0
    exact ⟨ys, e3, RVs.back xs ys zs r r0⟩
  | ins c fs =>
    obtain ⟨dx, vs, e3, h1, h2, h3, r⟩ := rc
    obtain ⟨dx0, vs0, _, _, _, _, r0⟩ := rc0
    exact ⟨dx, vs, e3, h1, h2, h3, RVs.back _ vs vs0 r r0⟩
  | dct kvs =>
    obtain ⟨u, e3, r⟩ := rc
    obtain ⟨u0, _, r0⟩ := rc0
    refine ⟨u, e3, ?_⟩
    have q0 : ∃ us, RVs T ρ H (kvs.map (·.2)) us := by
      rcases r0 with ⟨ys, _, _, r⟩ | ⟨ys, _, _, r⟩
      · exact ⟨_, r⟩
      · exact ⟨_, r⟩
    obtain ⟨us, q0⟩ := q0
    rcases r with ⟨ys, h1, h2, r⟩ | ⟨ys, h1, h2, r⟩
    · exact .inl ⟨ys, h1, h2, RVs.back _ _ us r q0⟩
    · exact .inr ⟨ys, h1, h2, RVs.back _ _ us r q0⟩
end
end Z

namespace Z
open PySem L2

open Classical in
/-- a def that leaves the store as it was -/
noncomputable def mPure (mf : MF) : MF := fun args st => match mf args st with
  | .ok v s => if s.take st.length = st then match frzM s st.length 40 v with
      | some v' => .ok v' st
      | none => .bad
    else .bad
  | .ex c fs s => if s.take st.length = st then match (fs.map (·.2)).mapM (frzM s st.length 40) with
      | some vs => .ex c ((fs.map (·.1)).zip vs) st
      | none => .bad
    else .bad
  | .bad => .bad
section
variable {T : Tx} {ρ ρ' : List Addr} {H H' : Hp} {st s' : Sto}
theorem zip_fst {α β : Type} : ∀ {xs : List α} {ys : List β}, ys.length = xs.length → (xs.zip ys).map (·.1) = xs
  | [], _, _ => by simp
  | x :: xs, [], h => by simp at h
  | x :: xs, y :: ys, h => by simp only [List.zip_cons_cons, List.map_cons]; rw [zip_fst (by simpa using h)]
theorem zip_snd {α β : Type} : ∀ {xs : List α} {ys : List β}, ys.length = xs.length → (xs.zip ys).map (·.2) = ys
  | [], [], _ => rfl
  | [], _ :: _, h => by simp at h
  | x :: xs, [], h => by simp at h
  | x :: xs, y :: ys, h => by simp only [List.zip_cons_cons, List.map_cons]; rw [zip_snd (by simpa using h)]
theorem rx_cut {n c : Nat} {fs : List (Nat × MV)} {vs : List MV} {cl : Value} {d : Option Addr} (S : Sim T ρ' s' H') (r : RX T ρ' H' c fs cl d) (h : (fs.map (·.2)).mapM (frzM s' n 40) = some vs) : RX T (ρ'.take n) H' c ((fs.map (·.1)).zip vs) cl d := by
  obtain ⟨e1, e2, e3, e4⟩ := r
  have hl : vs.length = (fs.map (·.1)).length := by rw [mapM_len h, List.length_map, List.length_map]
  have hf : ((fs.map (·.1)).zip vs).map (·.1) = fs.map (·.1) := zip_fst hl
  have hs : ((fs.map (·.1)).zip vs).map (·.2) = vs := zip_snd hl
  refine ⟨e1, e2, fun p hp => ?_, ?_⟩
  · have : p.1 ∈ ((fs.map (·.1)).zip vs).map (·.1) := List.mem_map_of_mem hp
    rw [hf] at this
    obtain ⟨q, hq, e⟩ := List.mem_map.mp this
    rw [← e]; exact e3 q hq
  · rcases e4 with ⟨rfl, rfl⟩ | ⟨dd, us, rfl, nn, n1, e5, r⟩
    · left; simp
    · refine .inr ⟨dd, us, rfl, fun z => nn ?_, not_take n1, ?_, ?_⟩
      · rw [z] at hf
        exact List.map_eq_nil_iff.mp hf.symm
      · have : (((fs.map (·.1)).zip vs).map fun p => fnm p.1) = fs.map fun p => fnm p.1 := by
          have q : (((fs.map (·.1)).zip vs).map fun p => fnm p.1) = (((fs.map (·.1)).zip vs).map (·.1)).map fnm := by rw [List.map_map]; rfl
          rw [q, hf, List.map_map]; rfl
        rw [this]; exact e5
      · rw [hs]
        exact frz_all (frz_ok S 40) r h
theorem pure_out {mf : MF} {ms : List MV} {Q : VK} {E : XK} (S : Sim T ρ st H) (h : OutF T ρ H (mPure mf ms st) Q E) : OutF T ρ H (mf ms st) Q E := by
  unfold mPure at h
  cases e : mf ms st with
  | ok v s =>
    simp only [e] at h
    by_cases ht : s.take st.length = st
    · rw [if_pos ht] at h
      cases e2 : frzM s st.length 40 v with
      | none => rw [e2] at h; exact h.elim
      | some v' =>
        rw [e2] at h
        intro ρ' H' u F r
        obtain ⟨q1, q2⟩ := F.cut S ht
        have r2 := frz_ok (n := st.length) F.sim 40 v u v' r e2
        rw [q1] at r2
        exact h ρ H' u q2 r2
    · rw [if_neg ht] at h; exact h.elim
  | ex c fs s =>
    simp only [e] at h
    by_cases ht : s.take st.length = st
    · rw [if_pos ht] at h
      cases e2 : (fs.map (·.2)).mapM (frzM s st.length 40) with
      | none => rw [e2] at h; exact h.elim
      | some vs =>
        rw [e2] at h
        intro ρ' H' cl d F r
        obtain ⟨q1, q2⟩ := F.cut S ht
        have r2 := rx_cut F.sim r e2
        rw [q1] at r2
        exact h ρ H' cl d q2 r2
    · rw [if_neg ht] at h; exact h.elim
  | bad => simp only [e] at h; exact h.elim
theorem FnOk.pure {P : Program} {w : World} {K : PySem.W.Frag} {mg : Str → Option Value} {base : Heap} {k p : Nat} {f : Addr} {fd : FuncData} {ps : List Str} {mf : MF} (F : FnOk P w K mg base (L2.CX P w) k f fd ps (spM T p mf)) :
    FnOk P w K mg base (L2.CX P w) k f fd ps (spM T p (mPure mf)) := FnOk.to F fun ms ρ st H Q E S hl h => pure_out S h
end

/-! ### calls -/
def Len (as : Ev → M (List MV)) (p : Nat) : Prop := ∀ env s xs t, as env s = .ok xs t → xs.length = p
theorem len_nil : Len mNil 0 := fun env s xs t h => by cases h; rfl
theorem len_cons {m : Ev → M MV} {r : Ev → M (List MV)} {p : Nat} (h : Len r p) : Len (mCons m r) (p + 1) := fun env s xs t q => by
  unfold mCons M.bnd at q
  cases e : m env s with
  | ok x s1 =>
    simp only [e] at q
    cases e2 : r env s1 with
    | ok ys s2 =>
      simp only [e2] at q
      cases q
      rw [List.length_cons, h env s1 ys _ e2]
    | ex c fs s2 => simp only [e2] at q; cases q
    | bad => simp only [e2] at q; cases q
  | ex c fs s1 => simp only [e] at q; cases q
  | bad => simp only [e] at q; cases q
def mCall (mf : MF) (as : Ev → M (List MV)) : Ev → M MV := fun env => M.bnd (as env) mf
section
variable {X : Cx} {T : Tx} {W : WX} {ma : Ev → M MV} {as : Ev → M (List MV)} {k p : Nat} {f C : Addr} {fd : FuncData} {ps : List Str} {mf : MF} {x m : Str} {pp pos apos : Pos} {e o : Expr} {es : List Expr} {ds : List Value} {dvs : List V} {dms : List MV}
theorem outF_of {ρ : List Addr} {H : Hp} {σ : St} {r : R MV} {Q : VK} (h : Out T W (RV T) ρ H σ r Q) : OutF T ρ H r Q (WE W σ) := by
  cases r with
  | ok v s => exact h
  | ex c fs s => exact h
  | bad => exact h
/-- arguments, then what stands for the def -/
theorem args_red {σ : St} {H : Hp} {ρ : List Addr} {st : Sto} {env : Ev} {Q : VK} (hn : Len as p) (h : Out T W (RV T) ρ H σ (M.bnd (as env) mf st) Q) :
    Out T W (RVs T) ρ H σ (as env st) fun us H1 => ∃ ρ1 s1 ms, Fut T ρ H ρ1 s1 H1 ∧ RVs T ρ1 H1 ms us ∧ ms.length = p ∧ OutF T ρ1 H1 (mf ms s1) Q (WE W σ) := by
  unfold M.bnd at h
  cases q : as env st with
  | ok xs t =>
    simp only [q] at h
    intro ρ1 H1 vs F1 r1
    exact ⟨ρ1, t, xs, F1, r1, hn env st xs t q, outF_of (h.fut F1)⟩
  | ex c fs t => simp only [q] at h; exact h
  | bad => simp only [q] at h; exact h.elim
theorem v_call (tk : Takes X W) (F : FnOk X.prog X.w X.K X.mg X.base (L2.CX X.prog X.w) k f fd ps (spM T p mf)) (hr : Room k X.A) (hm : X.mg x = some (.ref f)) (hk : PySem.W.keepIn X.K (.ref f) = true) (hb : Binds X.K fd ps [])
    (ha : PA X (e :: es) (tA T W as)) (hn : Len as p := by repeat first | exact len_nil | apply len_cons) (hg : Gl X x := by rfl) (hdb : (x == ("__debug__" : Str)) = false := by decide)
    (he : starEach (e :: es) X.env = (false, eval e X.env) :: starEach es X.env := by rfl) (hpl : (backTo pos (starEach es X.env)).any (·.1) = false := by rfl) :
    PE X (.Call (.Name x pp) (e :: es) [] pos) (tE T W (mCall mf as)) :=
  pe_mono (pe_callS F hr hg hm hk hb (fun σ => passAt tk σ) ha hdb he hpl) fun σ H Q h => by
    obtain ⟨ρ, st, env, S, E, h⟩ := h
    exact ⟨ρ, st, env, S, E, (args_red hn h).imp fun us H1 ⟨ρ1, s1, ms, F, r, l, q⟩ => ⟨ρ1, s1, ms, F.sim, r, l, q⟩⟩
/-! instances -/
def clsOf (s : Sto) : MV → Option Nat
  | .ins c _ => some c
  | .ref n => match s[n]? with
    | some (.ins c _) => some c
    | _ => none
  | _ => none
def fldOf (s : Sto) (f : Nat) : MV → Option MV
  | .ins c xs => zipLook (fieldsOf c) xs f
  | .ref n => match s[n]? with
    | some (.ins _ fs) => lookN f fs
    | _ => none
  | _ => none
/-- what the written part says of the classes -/
structure ClsF (T : Tx) (c : Nat) : Prop where
  cls : Cls T.K (T.cls c)
  na : ∀ f ∈ fieldsOf c, NoAttr T.K (T.cls c) (fnm f)
abbrev ClsAll (T : Tx) : Prop := ∀ c, T.has c = true → ClsF T c
theorem zip_lookup {ρ : List Addr} {H : Hp} {f : Nat} (hf : f < 34) : ∀ {ids : List Nat} {xs : List MV} {vs : List V} {m : MV}, (∀ i ∈ ids, i < 34) → RVs T ρ H xs vs → zipLook ids xs f = some m → ∃ v, ((ids.map fnm).zip vs).lookup (fnm f) = some v ∧ RV T ρ H m v
  | [], xs, vs, m, _, _, h => by cases xs <;> cases h
  | i :: ids, [], vs, m, _, _, h => by cases h
  | i :: ids, x :: xs, vs, m, hi, r, h => by
    obtain ⟨v, us, rfl, r1, r2⟩ := r
    rw [List.map_cons, List.zip_cons_cons, List.lookup_cons]
    unfold zipLook at h
    by_cases e : i = f
    · rw [if_pos e] at h; cases h
      subst e
      exact ⟨v, by simp, r1⟩
    · rw [if_neg e] at h
      have ne : (fnm f == fnm i) = false := by
        rw [beq_eq_false_iff_ne]
        exact fun z => e (fnm_inj (hi i List.mem_cons_self) hf z.symm)
      obtain ⟨w, q1, q2⟩ := zip_lookup hf (fun j hj => hi j (List.mem_cons_of_mem _ hj)) r2 h
      exact ⟨w, by simp only [ne]; exact q1, q2⟩
theorem lookN_zip {f : Nat} : ∀ {fs : List (Nat × MV)}, lookN f fs = zipLook (fs.map (·.1)) (fs.map (·.2)) f
  | [] => rfl
  | (g, w) :: r => by
    show (if g = f then some w else lookN f r) = (if g = f then some w else zipLook (r.map (·.1)) (r.map (·.2)) f)
    rw [lookN_zip]
theorem zipLook_mem {f : Nat} : ∀ {ids : List Nat} {xs : List MV} {m : MV}, zipLook ids xs f = some m → f ∈ ids
  | [], xs, m, h => by cases xs <;> cases h
  | i :: ids, [], m, h => by cases h
  | i :: ids, x :: xs, m, h => by
    unfold zipLook at h
    by_cases e : i = f
    · subst e; exact List.mem_cons_self
    · rw [if_neg e] at h
      exact List.mem_cons_of_mem _ (zipLook_mem h)
/-- an instance, inline or in a cell -/
theorem ins_of {ρ : List Addr} {H : Hp} {st : Sto} {m : MV} {v : V} {c : Nat} (S : Sim T ρ st H) (r : RV T ρ H m v) (h : clsOf st m = some c) :
    ∃ a dx ids xs vs, v = .ref a ∧ T.has c = true ∧ H a = some (.ins (T.cls c) dx ((ids.map fnm).zip vs)) ∧ (∀ i ∈ ids, i ∈ fieldsOf c) ∧ RVs T ρ H xs vs ∧ ∀ f, fldOf st f m = zipLook ids xs f := by
  cases m with
  | ins d xs =>
    cases h
    obtain ⟨a, dx, vs, rfl, _, h1, _, h2, r⟩ := r
    exact ⟨a, dx, fieldsOf c, xs, vs, rfl, h1, h2, fun i hi => hi, r, fun f => rfl⟩
  | ref n =>
    obtain ⟨a, e1, rfl⟩ := r
    have q : ∃ fs, st[n]? = some (.ins c fs) := by
      simp only [clsOf] at h
      split at h
      · rename_i d fs e; cases h; exact ⟨fs, e⟩
      · cases h
    obtain ⟨fs, e⟩ := q
    obtain ⟨dx, vs, e2, h1, h2, _, r⟩ := S.cell n a _ e1 e
    refine ⟨a, dx, fs.map (·.1), fs.map (·.2), vs, rfl, h1, ?_, fun i hi => ?_, r, fun f => ?_⟩
    · rw [List.map_map]; exact e2
    · obtain ⟨p, hp, rfl⟩ := List.mem_map.mp hi
      exact h2 p hp
    · simp only [fldOf, e]; exact lookN_zip
  | _ => cases h
theorem cls_fld {st : Sto} {f : Nat} {m v : MV} (h : fldOf st f m = some v) : ∃ c, clsOf st m = some c := by
  cases m with
  | ins c xs => exact ⟨c, rfl⟩
  | ref n =>
    simp only [fldOf] at h
    split at h
    · rename_i c fs e; exact ⟨c, by simp only [clsOf, e]⟩
    · cases h
  | _ => cases h
def mFld (f : Nat) (ma : Ev → M MV) : Ev → M MV := mUn (fun s x => fldOf s f x) ma
theorem v_fld (hK : T.K = X.K) (hC : ClsAll T) (f : Nat) (he : PE X e (tE T W ma)) (hf : x = fnm f := by rfl) (hb : attributeBase e x X.env (eval e X.env) = eval e X.env := by rfl) : PE X (.Attribute e x pos) (tE T W (mFld f ma)) :=
  pe_mono (pe_fld he hb) fun σ H Q h => by
    subst hf
    obtain ⟨ρ, st, env, S, E, h⟩ := h
    refine ⟨ρ, st, env, S, E, h.bnd.imp fun v H1 ⟨ρ1, s1, m, F1, r1, q1⟩ => ?_⟩
    obtain ⟨w, e, q⟩ := opt_out q1
    replace e : fldOf s1 f m = some w := e
    obtain ⟨c, hc⟩ := cls_fld e
    obtain ⟨a, dx, ids, xs, vs, rfl, h1, h2, h3, r, hfl⟩ := ins_of F1.sim r1 hc
    rw [hfl] at e
    have hm := h3 f (zipLook_mem e)
    obtain ⟨u, q1, q2⟩ := zip_lookup (fieldsOf_lt hm) (fun i hi => fieldsOf_lt (h3 i hi)) r e
    exact ⟨a, T.cls c, dx, _, u, rfl, h2, hK ▸ (hC c h1).cls, hK ▸ (hC c h1).na f hm, q1, q ρ1 H1 u (Fut.refl F1.sim) q2⟩
/-! methods -/
/-- a method of class c by its plain reading -/
structure MetOk (X : Cx) (T : Tx) (m : Str) (p : Nat) (c : Nat) (mf : MF) : Prop where
  ok : ∃ (f : Addr) (fd : FuncData) (ps : List Str) (k : Nat), Meth X.K (T.cls c) m f ∧ FnOk X.prog X.w X.K X.mg X.base (L2.CX X.prog X.w) k f fd ps (spM T p mf) ∧ Room k X.A ∧ Binds X.K fd ps []
  nf : (fieldsOf c).all (fun i => !decide (fnm i = m)) = true
def metF (cs : List (Nat × MF)) (x : MV) (xs : List MV) : M MV := fun s => match clsOf s x with
  | some c => match cs.lookup c with
    | some mf => mf (x :: xs) s
    | none => .bad
  | none => .bad
def mMeth (cs : List (Nat × MF)) (ma : Ev → M MV) (as : Ev → M (List MV)) : Ev → M MV := fun env => M.bnd (ma env) fun x s => match clsOf s x with
  | some c => match cs.lookup c with
    | some mf => M.bnd (as env) (fun xs => mf (x :: xs)) s
    | none => .bad
  | none => .bad
theorem no_field {ids : List Nat} {vs : List V} {m : Str} : (∀ i ∈ ids, fnm i ≠ m) → ((ids.map fnm).zip vs).lookup m = none := by
  induction ids generalizing vs with
  | nil => intro _; simp
  | cons i ids ih =>
    intro h
    cases vs with
    | nil => simp
    | cons v vs =>
      rw [List.map_cons, List.zip_cons_cons, List.lookup_cons]
      have ne : (m == fnm i) = false := by
        rw [beq_eq_false_iff_ne]
        exact fun z => h i List.mem_cons_self z.symm
      simp only [ne]
      exact ih fun j hj => h j (List.mem_cons_of_mem _ hj)
theorem lookup_mem' {α : Type} {l : List (Nat × α)} {c : Nat} {x : α} (h : l.lookup c = some x) : (c, x) ∈ l := lookup_mem h
theorem met_none {cs : List (Nat × MF)} {c p : Nat} {mf : MF} (hK : T.K = X.K) (h : ∀ q ∈ cs, MetOk X T m p q.1 q.2) (hl : cs.lookup c = some mf) {ids : List Nat} {vs : List V} (hi : ∀ i ∈ ids, i ∈ fieldsOf c) : ((ids.map fnm).zip vs).lookup m = none := by
  refine no_field fun i hm => ?_
  have q := List.all_eq_true.mp (h _ (lookup_mem hl)).nf i (hi i hm)
  simpa using q
theorem v_meth {pl : Sem Bool} {cs : List (Nat × MF)} (hK : T.K = X.K) (hC : ClsAll T) (tk : Takes X W) (h : ∀ q ∈ cs, MetOk X T m (p + 1) q.1 q.2) (ho : PE X o (tE T W ma)) (ha : PA X (e :: es) (tA T W as))
    (hn : Len as p := by repeat first | exact len_nil | apply len_cons)
    (hst : starEach (e :: es) X.env = (false, eval e X.env) :: starEach es X.env := by rfl) (hpl : (backTo pos (starEach es X.env)).any (·.1) = false := by rfl)
    (ht : eval (.Call (.Attribute o m apos) (e :: es) [] pos) X.env = (do
      let ov ← eval o X.env
      standAt apos.atName
      let (f, first) ← holding [ov] (getMethod ov m pl)
      callWith pos f first (backTo pos (starEach (e :: es) X.env)) (backToKw pos (keywordEach [] X.env))) := by rfl) :
    PE X (.Call (.Attribute o m apos) (e :: es) [] pos) (tE T W (mMeth cs ma as)) := by
  refine ⟨fun pins s σ H Q I ⟨ρ, st, env, S, E, hh⟩ => ?_⟩
  refine methcall_of ho I ⟨ρ, st, env, S, E, hh.bnd.imp fun v H1 ⟨ρ1, s1, x, F1, r1, q1⟩ => ?_⟩ ht
  cases e1 : clsOf s1 x with
  | none => rw [e1] at q1; exact q1.elim
  | some c =>
    simp only [e1] at q1
    cases e2 : cs.lookup c with
    | none => rw [e2] at q1; exact q1.elim
    | some mf =>
      simp only [e2] at q1
      obtain ⟨a, dx, ids, xs, vs, rfl, h1, h2, h3, r, _⟩ := ins_of F1.sim r1 e1
      obtain ⟨f, fd, ps, k, hm, F, hr, hb⟩ := (h _ (lookup_mem e2)).ok
      refine ⟨a, T.cls c, dx, _, f, rfl, h2, hK ▸ (hC c h1).cls, hm, met_none hK h e2 h3, fun s2 I2 => ?_⟩
      have t2 : tA T W as σ H1 fun us H2 => ∃ ρ2 st2 ms, Sim T ρ2 st2 H2 ∧ RVs T ρ2 H2 (x :: ms) (.ref a :: us) ∧ (x :: ms).length = p + 1 ∧ OutF T ρ2 H2 (mf (x :: ms) st2) Q (WE W σ) := by
        refine ⟨ρ1, s1, env, F1.sim, E.later F1.lat, (args_red (mf := fun ms => mf (x :: ms)) hn q1).imp fun us H2 ⟨ρ2, s2, ms, F2, r2, l, q⟩ => ?_⟩
        exact ⟨ρ2, s2, ms, F2.sim, ⟨_, _, rfl, r1.later F2.lat, r2⟩, by rw [List.length_cons, l], q⟩
      refine PySem.W.callWith_K (first := [.ref a]) (h₀ := X.base) I2.ok.mod.kin hm.kp (thn (ha.run pos pins s2 σ H1 _ I2 t2) fun us s3 ⟨vs2, H2, I3, r3, ρ2, st2, ms, S2, r2, hl, z⟩ => ⟨I3.kIn, ?_⟩) hst hpl
      exact run_fnS (us := .ref a :: us) (vs := .ref a :: vs2) F hr hb (passAt tk σ) I3 (.cons rfl r3) ⟨ρ2, st2, _, S2, r2, hl, z⟩
end
end Z

namespace Z
open PySem L2

/-! ### what may be called -/
def CalM (X : Cx) (T : Tx) (W : WX) (u : Value) (p : Nat) (mf : MF) : Prop :=
  ∀ (pins : List (Addr × Obj)) (s : Shared) (σ : St) (H : Hp) (us : List Value) (vs : List V) (Q : VK) (ρ : List Addr) (st : Sto) (ms : List MV), Inv X pins σ H s → Vals vs us → Sim T ρ st H → RVs T ρ H ms vs → ms.length = p →
    OutF T ρ H (mf ms st) Q (WE W σ) → wpAny (model X.prog X.w) X.A (call u us) (EP X pins σ Q) X.xe s
def newC (c : Nat) (init : MF) : MF := fun args st => match init (.ref st.length :: args) (st ++ [.ins c []]) with
  | .ok .non s => .ok (.ref st.length) s
  | .ok _ _ => .bad
  | .ex c fs s => .ex c fs s
  | .bad => .bad
section
variable {X : Cx} {T : Tx} {W : WX} {ma : Ev → M MV} {as : Ev → M (List MV)} {k p c : Nat} {f C : Addr} {fd : FuncData} {ps : List Str} {mf init : MF} {x m : Str} {pp pos apos : Pos} {e o : Expr} {es : List Expr} {ds : List Value} {dvs : List V} {dms : List MV} {u : Value}
theorem CalM.pure (h : CalM X T W u p mf) : CalM X T W u p (mPure mf) := fun pins s σ H us vs Q ρ st ms I r S rm hl q => h pins s σ H us vs Q ρ st ms I r S rm hl (pure_out S q)
theorem cal_fn (tk : Takes X W) (F : FnOk X.prog X.w X.K X.mg X.base (L2.CX X.prog X.w) k f fd ps (spM T p mf)) (hr : Room k X.A) (hb : Binds X.K fd ps []) : CalM X T W (.ref f) p mf :=
  fun pins s σ H us vs Q ρ st ms I r S rm hl q => run_fnS F hr hb (passAt tk σ) I r ⟨ρ, st, ms, S, rm, hl, q⟩
/-- the defaults behind the arguments -/
def withD (dms : List MV) (mf : MF) : MF := fun args => mf (args ++ dms)
theorem sim_new (S : Sim T ρ st H) (hc : T.has c = true) {x dx : Addr} (hx : H x = none) (hd : H dx = none) (ne : dx ≠ x) : Fut T ρ H (ρ ++ [x]) (st ++ [.ins c []]) (upd (upd H dx (.own x)) x (.ins (T.cls c) dx [])) := by
  have F1 := S.fresh (o := .own x) hd
  have hx2 : (upd H dx (.own x)) x = none := by rw [upd_ne (Ne.symm ne)]; exact hx
  exact F1.trans (F1.sim.push (c := .ins c []) (o := .ins (T.cls c) dx []) hx2 fun ρ' H' L => ⟨dx, [], rfl, hc, by simp, by simp, rfl⟩)
theorem run_makeS {pins : List (Addr × Obj)} {σ : St} {H : Hp} {s : Shared} {Q : VK} {us : List Value} {vs : List V} {sp : Sp} {E : XK} (M : Mk X.K C f) (F : FnOk X.prog X.w X.K X.mg X.base (L2.CX X.prog X.w) k f fd ps sp) (hr : Room (k + 1) X.A) (hb : Binds X.K fd ps ds) (hd : Vals dvs ds)
    (hx : PassesAt (L2.CX X.prog X.w) X σ E) (I : Inv X pins σ H s) (r : Vals vs us)
    (h : ∀ x dx, H x = none → H dx = none → dx ≠ x → sp (.ref x :: (vs ++ dvs)) (upd (upd H dx (.own x)) x (.ins C dx [])) (fun v H2 => v = .non ∧ Q (.ref x) H2) E) :
    wpAny (model X.prog X.w) X.A (call (.ref C) us) (EP X pins σ Q) X.xe s := by
  have hq := h (s.heap.objs.size + 1) s.heap.objs.size (I.hok.fresh (Nat.le_succ _)) (I.hok.fresh (Nat.le_refl _)) (Nat.ne_of_lt (Nat.lt_succ_self _))
  have I2 := Inv.made (C := C) I
  have r2 : Vals (V.ref (s.heap.objs.size + 1) :: (vs ++ dvs)) (Value.ref (s.heap.objs.size + 1) :: (us ++ ds)) := .cons rfl (r.append hd)
  have hl : (Value.ref (s.heap.objs.size + 1) :: us ++ ds).length = ps.length := by
    have e := r2.length
    rw [F.len _ _ _ _ hq] at e
    exact e.symm
  refine wpAny_call (make_map (f := f) I.kIn M.makes M.init (beq_iff_eq.mp M.fn) (codeAny_mono (F.run _ X.stack _ _ ⟨Value.ref (s.heap.objs.size + 1) :: us, []⟩ (Value.ref (s.heap.objs.size + 1) :: (us ++ ds)) _ _ E (hr.make C us [])
    (I2.env0.make C us []) (hb _ (Value.ref (s.heap.objs.size + 1) :: us) I2.kIn hl) r2 hq) fun r s' hq' => ?_))
  cases r with
  | error e => exact hx pins _ _ e s' I2 hq'
  | ok fl =>
    cases fl with
    | ret u =>
      obtain ⟨v, H', I3, rv, ev, q3⟩ := I2.after hq'
      subst ev
      exact ⟨rv, ⟨V.ref (s.heap.objs.size + 1), H', I3, rfl, q3⟩⟩
    | next => exact False.elim hq'
    | brk => exact False.elim hq'
    | cont => exact False.elim hq'
/-- what newC does, by __init__'s promise -/
theorem new_red {H : Hp} {Q : VK} {ρ : List Addr} {st : Sto} {ms : List MV} {vs : List V} {E : XK} (hc : T.has c = true) (S : Sim T ρ st H) (rm : RVs T ρ H ms vs) (q : OutF T ρ H (newC c init ms st) Q E) (hl : ms.length + 1 = p) :
    ∀ x dx, H x = none → H dx = none → dx ≠ x → spM T p init (.ref x :: vs) (upd (upd H dx (.own x)) x (.ins (T.cls c) dx [])) (fun v H2 => v = .non ∧ Q (.ref x) H2) E := fun x dx hx hd ne => by
  have F := sim_new S hc hx hd ne
  have rx : RV T (ρ ++ [x]) (upd (upd H dx (.own x)) x (.ins (T.cls c) dx [])) (.ref st.length) (.ref x) := ⟨x, by rw [← S.len]; simp, rfl⟩
  refine ⟨ρ ++ [x], _, .ref st.length :: ms, F.sim, ⟨_, _, rfl, rx, rm.later F.lat⟩, by rw [List.length_cons]; exact hl, ?_⟩
  unfold newC at q
  cases e : init (.ref st.length :: ms) (st ++ [.ins c []]) with
  | ok v s =>
    simp only [e] at q
    cases v with
    | non =>
      intro ρ' H' u F' r
      cases r
      exact ⟨rfl, q ρ' H' (.ref x) (F.trans F') (rx.later F'.lat)⟩
    | _ => exact q.elim
  | ex c fs s =>
    simp only [e] at q
    exact fun ρ' H' cl d F' r => q ρ' H' cl d (F.trans F') r
  | bad => simp only [e] at q; exact q.elim
theorem cal_make (tk : Takes X W) (hc : T.has c = true) (M : Mk X.K (T.cls c) f) (F : FnOk X.prog X.w X.K X.mg X.base (L2.CX X.prog X.w) k f fd ps (spM T (p + 1) init)) (hr : Room (k + 1) X.A) (hb : Binds X.K fd ps []) : CalM X T W (.ref (T.cls c)) p (newC c init) :=
  fun pins s σ H us vs Q ρ st ms I r S rm hl q => run_makeS (dvs := []) M F hr hb .nil (passAt tk σ) I r (by rw [List.append_nil]; exact new_red hc S rm q (by rw [hl]))
theorem cal_makeD (tk : Takes X W) (hc : T.has c = true) (M : Mk X.K (T.cls c) f) (F : FnOk X.prog X.w X.K X.mg X.base (L2.CX X.prog X.w) k f fd ps (spM T (p + dms.length + 1) init)) (hr : Room (k + 1) X.A) (hb : Binds X.K fd ps ds) (hd : Vals dvs ds) (hm : ∀ ρ H, RVs T ρ H dms dvs) :
    CalM X T W (.ref (T.cls c)) p (withD dms (newC c init)) :=
  fun pins s σ H us vs Q ρ st ms I r S rm hl q => run_makeS M F hr hb hd (passAt tk σ) I r (new_red hc S (rm.append (hm ρ H)) q (by rw [List.length_append, hl]))
theorem v_cal (h : CalM X T W (.ref f) p mf) (hm : X.mg x = some (.ref f)) (hk : PySem.W.keepIn X.K (.ref f) = true)
    (ha : PA X (e :: es) (tA T W as)) (hn : Len as p := by repeat first | exact len_nil | apply len_cons) (hg : Gl X x := by rfl) (hdb : (x == ("__debug__" : Str)) = false := by decide)
    (he : starEach (e :: es) X.env = (false, eval e X.env) :: starEach es X.env := by rfl) (hpl : (backTo pos (starEach es X.env)).any (·.1) = false := by rfl) :
    PE X (.Call (.Name x pp) (e :: es) [] pos) (tE T W (mCall mf as)) := by
  refine ⟨fun pins s σ H Q I ⟨ρ, st, env, S, E, hh⟩ => ?_⟩
  refine wpAny_Call_Name_kw (ld_glob I hg hm ?_ hdb)
  have t2 : tA T W as σ H fun us H1 => ∃ ρ1 s1 ms, Fut T ρ H ρ1 s1 H1 ∧ RVs T ρ1 H1 ms us ∧ ms.length = p ∧ OutF T ρ1 H1 (mf ms s1) Q (WE W σ) := ⟨ρ, st, env, S, E, args_red hn hh⟩
  refine PySem.W.callWith_K (h₀ := X.base) I.ok.mod.kin hk (thn (ha.run pos pins s σ H _ I t2) fun us s1 ⟨vs, H1, I1, r, ρ1, st1, ms, F1, rm, hl, q⟩ => ⟨I1.kIn, ?_⟩) he hpl
  exact h pins s1 σ H1 us vs Q ρ1 st1 ms I1 r F1.sim rm hl q
theorem v_cal0 (h : CalM X T W (.ref f) 0 mf) (hm : X.mg x = some (.ref f)) (hk : PySem.W.keepIn X.K (.ref f) = true) (hg : Gl X x := by rfl) (hdb : (x == ("__debug__" : Str)) = false := by decide) :
    PE X (.Call (.Name x pp) [] [] pos) (tE T W (mCall mf mNil)) := by
  refine ⟨fun pins s σ H Q I ⟨ρ, st, env, S, E, hh⟩ => ?_⟩
  refine wpAny_Call_Name_kw (ld_glob I hg hm ?_ hdb)
  exact PySem.W.callWith_K0 I.kIn hk (h pins s σ H [] [] Q ρ st [] I .nil S rfl rfl (outF_of hh))
theorem v_meth0 {pl : Sem Bool} {cs : List (Nat × MF)} (hK : T.K = X.K) (hC : ClsAll T) (tk : Takes X W) (h : ∀ q ∈ cs, MetOk X T m 1 q.1 q.2) (ho : PE X o (tE T W ma))
    (ht : eval (.Call (.Attribute o m apos) [] [] pos) X.env = (do
      let ov ← eval o X.env
      standAt apos.atName
      let (f, first) ← holding [ov] (getMethod ov m pl)
      callWith pos f first (backTo pos (starEach [] X.env)) (backToKw pos (keywordEach [] X.env))) := by rfl) :
    PE X (.Call (.Attribute o m apos) [] [] pos) (tE T W (mMeth cs ma mNil)) := by
  refine ⟨fun pins s σ H Q I ⟨ρ, st, env, S, E, hh⟩ => ?_⟩
  refine methcall_of ho I ⟨ρ, st, env, S, E, hh.bnd.imp fun v H1 ⟨ρ1, s1, x, F1, r1, q1⟩ => ?_⟩ ht
  cases e1 : clsOf s1 x with
  | none => rw [e1] at q1; exact q1.elim
  | some c =>
    simp only [e1] at q1
    cases e2 : cs.lookup c with
    | none => rw [e2] at q1; exact q1.elim
    | some mf =>
      simp only [e2] at q1
      obtain ⟨a, dx, ids, xs, vs, rfl, h1, h2, h3, r, _⟩ := ins_of F1.sim r1 e1
      obtain ⟨f, fd, ps, k, hm, F, hr, hb⟩ := (h _ (lookup_mem e2)).ok
      refine ⟨a, T.cls c, dx, _, f, rfl, h2, hK ▸ (hC c h1).cls, hm, met_none hK h e2 h3, fun s2 I2 => ?_⟩
      refine PySem.W.callWith_K0 (first := [.ref a]) I2.kIn hm.kp ?_
      exact run_fnS (us := [.ref a]) (vs := [.ref a]) F hr hb (passAt tk σ) I2 (.cons rfl .nil) ⟨ρ1, s1, [x], F1.sim, ⟨_, _, rfl, r1, rfl⟩, rfl, outF_of q1⟩
end

/-! ### o.f = e -/
def setFld (f : Nat) (o v : MV) (s : Sto) : Option Sto := match o with
  | .ref n => match s[n]? with
    | some (.ins c fs) => if f ∈ fieldsOf c ∧ fs.length < 40 then some (s.set n (.ins c (putN f v fs))) else none
    | _ => none
  | _ => none
theorem setFld_some {f : Nat} {o v : MV} {s t : Sto} (h : setFld f o v s = some t) : ∃ n c fs, o = .ref n ∧ s[n]? = some (.ins c fs) ∧ f ∈ fieldsOf c ∧ fs.length < 40 ∧ t = s.set n (.ins c (putN f v fs)) := by
  unfold setFld at h
  cases o with
  | ref n =>
    simp only at h
    cases e : s[n]? with
    | none => rw [e] at h; cases h
    | some d =>
      rw [e] at h
      cases d with
      | ins c fs =>
        simp only at h
        by_cases q : f ∈ fieldsOf c ∧ fs.length < 40
        · rw [if_pos q] at h; cases h; exact ⟨n, c, fs, rfl, e, q.1, q.2, rfl⟩
        · rw [if_neg q] at h; cases h
      | _ => cases h
  | _ => cases h
def sFldM (f : Nat) (mo mv : Ev → M MV) : MS := fun env => bndS (mv env) env fun v => bndS (mo env) env fun o s => match setFld f o v s with
  | some t => .nx env t
  | none => .bad
theorem putN_len {f : Nat} {v : MV} : ∀ {fs : List (Nat × MV)}, (putN f v fs).length ≤ fs.length + 1
  | [] => by simp [putN]
  | (g, w) :: r => by
    unfold putN
    by_cases e : g = f
    · rw [if_pos e]; simp
    · rw [if_neg e, List.length_cons, List.length_cons]
      have := putN_len (f := f) (v := v) (fs := r)
      omega
theorem putN_ids {f : Nat} {v : MV} {P : Nat → Prop} (hf : P f) : ∀ {fs : List (Nat × MV)}, (∀ p ∈ fs, P p.1) → ∀ p ∈ putN f v fs, P p.1
  | [], _, p, hp => by
    rw [List.mem_singleton.mp hp]; exact hf
  | (g, w) :: r, h, p, hp => by
    unfold putN at hp
    by_cases e : g = f
    · rw [if_pos e] at hp
      rcases List.mem_cons.mp hp with rfl | hp
      · exact h (g, w) List.mem_cons_self
      · exact h p (List.mem_cons_of_mem _ hp)
    · rw [if_neg e] at hp
      rcases List.mem_cons.mp hp with rfl | hp
      · exact h (g, w) List.mem_cons_self
      · exact putN_ids hf (fun q hq => h q (List.mem_cons_of_mem _ hq)) p hp
theorem putN_rel {T : Tx} {ρ : List Addr} {H : Hp} {f : Nat} {m : MV} {v : V} (hf : f < 34) (r : RV T ρ H m v) : ∀ {fs : List (Nat × MV)} {vs : List V}, (∀ p ∈ fs, p.1 < 34) → RVs T ρ H (fs.map (·.2)) vs →
    ∃ us, putF (fnm f) v ((fs.map fun p => fnm p.1).zip vs) = ((putN f m fs).map fun p => fnm p.1).zip us ∧ RVs T ρ H ((putN f m fs).map (·.2)) us
  | [], vs, _, h => by cases h; exact ⟨[v], rfl, v, [], rfl, r, rfl⟩
  | (g, w) :: fs, vs, hi, h => by
    obtain ⟨u, us, rfl, r1, r2⟩ := h
    rw [List.map_cons, List.zip_cons_cons]
    unfold putN
    by_cases e : g = f
    · subst e
      rw [if_pos rfl]
      refine ⟨v :: us, ?_, v, us, rfl, r, r2⟩
      show (if fnm g = fnm g then (fnm g, v) :: (fs.map fun p => fnm p.1).zip us else _) = _
      rw [if_pos rfl]; rfl
    · rw [if_neg e]
      have ne : ¬ fnm g = fnm f := fun z => e (fnm_inj (hi (g, w) List.mem_cons_self) hf z)
      obtain ⟨zs, q1, q2⟩ := putN_rel hf r (fun p hp => hi p (List.mem_cons_of_mem _ hp)) r2
      refine ⟨u :: zs, ?_, u, zs, rfl, r1, q2⟩
      show (if fnm g = fnm f then _ else (fnm g, u) :: putF (fnm f) v ((fs.map fun p => fnm p.1).zip us)) = _
      rw [if_neg ne, q1]; rfl
section
variable {X : Cx} {T : Tx} {W : WX} {ma mb : Ev → M MV} {x : Str} {pos pos' : Pos} {e o : Expr}
theorem s_fld (hK : T.K = X.K) (hC : ClsAll T) (f : Nat) (ho : PE X o (tE T W ma)) (hv : PE X e (tE T W mb)) (hf : x = fnm f := by rfl) (hs : swapsWith e (some (.Attribute o x pos')) pos.line X.env = pure false := by rfl) :
    PS X (.Assign [.Attribute o x pos'] e pos) (tS T W (sFldM f ma mb)) :=
  ps_mono (ps_fld ho hv hs) fun D σ H ⟨ρ, st, env, S, E, h⟩ => ⟨ρ, st, env, S, E, (OutS.bnd E h).imp fun v H1 ⟨ρ1, s1, m, F1, r1, q1⟩ => by
    subst hf
    refine ⟨ρ1, s1, env, F1.sim, E.later F1.lat, (OutS.bnd (E.later F1.lat) q1).imp fun o H2 ⟨ρ2, s2, mo, F2, r2, q2⟩ => ?_⟩
    have rv := r1.later F2.lat
    have E2 := E.later (F1.trans F2).lat
    cases e1 : setFld f mo m s2 with
    | none => rw [e1] at q2; exact q2.elim
    | some t =>
      rw [e1] at q2
      obtain ⟨n, c, fs, rfl, ex, hm, hl, rfl⟩ := setFld_some e1
      obtain ⟨a, ea, rfl⟩ := r2
      obtain ⟨dx, vs, ey, hc, hi, h40, r⟩ := F2.sim.cell n a _ ea ex
      have lt : ∀ p ∈ fs, p.1 < 34 := fun p hp => fieldsOf_lt (hi p hp)
      obtain ⟨us0, q0, _⟩ := putN_rel (fieldsOf_lt hm) rv lt r
      refine ⟨a, T.cls c, dx, _, rfl, ey, hK ▸ (hC c hc).cls, hK ▸ (hC c hc).na f hm, ?_, ?_⟩
      · have hz : ((fs.map fun p => fnm p.1).zip vs).length ≤ (fs.map fun p => fnm p.1).length := by rw [List.length_zip]; omega
        rw [List.length_map] at hz
        omega
      · have F4 := F2.sim.set (c := .ins c (putN f m fs)) (o := .ins (T.cls c) dx (putF (fnm f) v ((fs.map fun p => fnm p.1).zip vs))) ea fun ρ' H' L => by
          obtain ⟨us, q3, q4⟩ := putN_rel (fieldsOf_lt hm) (rv.later L) lt (r.later L)
          exact ⟨dx, us, by rw [q3], hc, putN_ids (P := fun i => i ∈ fieldsOf c) hm hi, by have := putN_len (f := f) (v := m) (fs := fs); omega, q4⟩
        exact q2 _ _ _ F4 (E2.later F4.lat)⟩
end
end Z

namespace Z
open PySem L2

/-! ### what is walked -/
/-- the items, and what the store must keep meanwhile -/
structure IT where
  xs : List MV
  ok : Sto → Prop
structure WalkM (T : Tx) (J : It) (xs : List MV) (ok : Sto → Prop) (ρ0 : List Addr) (H0 : Hp) : Prop where
  goes : ∀ i ρ st H, i < xs.length → Fut T ρ0 H0 ρ st H → ok st → J.go i H
  stops : ∀ ρ st H, Fut T ρ0 H0 ρ st H → ok st → J.stop xs.length H
  yields : ∀ i ρ st H m x H', xs[i]? = some m → Fut T ρ0 H0 ρ st H → ok st → J.yld i H x H' → Fut T ρ H ρ st H' ∧ RV T ρ H' m x
abbrev MI := Ev → M IT
def OutI (T : Tx) (W : WX) (ρ : List Addr) (H : Hp) (σ : St) (r : R IT) (Q : It → Hp → Prop) : Prop := match r with
  | .ok it s => ∀ ρ' H' J, Fut T ρ H ρ' s H' → WalkM T J it.xs it.ok ρ' H' → Q J H'
  | .ex c fs s => ∀ ρ' H' cl d, Fut T ρ H ρ' s H' → RX T ρ' H' c fs cl d → W cl d σ H'
  | .bad => False
def tI (T : Tx) (W : WX) (m : MI) : TI := fun σ H Q => ∃ ρ st env, Sim T ρ st H ∧ REnv T ρ H env σ ∧ OutI T W ρ H σ (m env st) Q
/-- the list at a is that of xs -/
def LsAt (T : Tx) (a : Addr) (xs : List MV) (ok : Sto → Prop) (ρ0 : List Addr) (H0 : Hp) : Prop := ∀ ρ st H, Fut T ρ0 H0 ρ st H → ok st → ∃ ys, SqL T.K H a ys ∧ RVs T ρ H xs ys
def TpAt (T : Tx) (a : Addr) (xs : List MV) (ρ0 : List Addr) (H0 : Hp) : Prop := ∀ ρ st H, Fut T ρ0 H0 ρ st H → ∃ ys, SqT T.K H a ys ∧ RVs T ρ H xs ys
section
variable {X : Cx} {T : Tx} {W : WX} {ma mb : Ev → M MV} {as : Ev → M (List MV)} {e e2 tg : Expr} {x : Str} {p pos tpos : Pos} {ρ0 : List Addr} {H0 : Hp} {xs ys : List MV} {ok ok2 : Sto → Prop} {a b : Addr}
/-- what stands in a list's place: where it is, and what keeps it -/
def okOf : MV → List MV → Sto → Prop
  | .ref n, xs => fun s => s[n]? = some (.lst xs)
  | _, _ => fun _ => True
def lsOf (s : Sto) (x : MV) : Option IT := match x with
  | .tup _ => none
  | x => (seqOf s x).map fun xs => ⟨xs, okOf x xs⟩
theorem ls_at {st : Sto} {m : MV} {v : V} {it : IT} (S : Sim T ρ0 st H0) (r : RV T ρ0 H0 m v) (h : lsOf st m = some it) : ∃ a, v = .ref a ∧ LsAt T a it.xs it.ok ρ0 H0 ∧ ∃ zs, SqL T.K H0 a zs := by
  cases m with
  | lst xs =>
    cases h
    obtain ⟨a, us, rfl, n, z, r⟩ := r
    exact ⟨a, rfl, fun ρ st H F _ => ⟨us, SqL.of (F.keep a _ n z), r.later F.lat⟩, us, SqL.of z⟩
  | frz xs =>
    cases h
    obtain ⟨a, us, rfl, z, r⟩ := r
    refine ⟨a, rfl, fun ρ st H F _ => ⟨us, ?_, r.later F.lat⟩, us, z.sq⟩
    rcases z with ⟨z1, z2⟩ | z
    · exact .inl (F.lat.rd z1 z2).2
    · exact .inr z
  | ref n =>
    simp only [lsOf] at h
    cases e : seqOf st (.ref n) with
    | none => rw [e] at h; cases h
    | some xs =>
      rw [e] at h; cases h
      obtain ⟨a, us, rfl, z, r2⟩ := list_of S r e
      obtain ⟨a', e1, e2⟩ := r
      cases e2
      refine ⟨a, rfl, fun ρ st H F ho => ?_, us, SqL.of z⟩
      obtain ⟨ys, q1, q2⟩ := F.sim.cell n a _ (F.lat.ix e1) ho
      exact ⟨ys, SqL.of q1, q2⟩
  | _ => cases h
theorem sqL_inj (I : ∃ (pins : List (Addr × Obj)) (σ : St) (s : Shared), Inv X pins σ H0 s) {us ws : List V} (h : SqL X.K H0 a us) (h' : SqL X.K H0 a ws) : us = ws := by
  obtain ⟨pins, σ, s, I⟩ := I
  exact I.list_inj h h'
end

/-! the walks themselves: what is read at a turn is told by any reading of the list, so the reading of the relation serves -/
section
variable {X : Cx} {T : Tx} {W : WX} {ma mb : Ev → M MV} {as : Ev → M (List MV)} {e e2 tg : Expr} {x : Str} {p pos tpos : Pos} {ρ0 : List Addr} {H0 : Hp} {xs ys : List MV} {ok ok2 : Sto → Prop} {a b : Addr}
theorem wk_list (h : LsAt T a xs ok ρ0 H0) : WalkM T (Itl T.K a) xs ok ρ0 H0 where
  goes := fun i ρ st H hi F ho => by
    obtain ⟨us, q, r⟩ := h ρ st H F ho
    have hu : i < us.length := by rw [← r.length]; exact hi
    exact ⟨us, us[i], q, List.getElem?_eq_getElem hu⟩
  stops := fun ρ st H F ho => by
    obtain ⟨us, q, r⟩ := h ρ st H F ho
    exact ⟨us, q, by rw [r.length]; exact Nat.le_refl _⟩
  yields := fun i ρ st H m x H' hm F ho y => by
    obtain ⟨us, q, r⟩ := h ρ st H F ho
    obtain ⟨rfl, y2⟩ := y
    obtain ⟨v, e, rv⟩ := r.get hm
    have := y2 us q
    rw [e] at this; cases this
    exact ⟨Fut.refl F.sim, rv⟩
theorem wk_tup (h : TpAt T a xs ρ0 H0) : WalkM T (Itt T.K a) xs ok ρ0 H0 where
  goes := fun i ρ st H hi F ho => by
    obtain ⟨us, q, r⟩ := h ρ st H F
    have hu : i < us.length := by rw [← r.length]; exact hi
    exact ⟨us, us[i], q, List.getElem?_eq_getElem hu⟩
  stops := fun ρ st H F ho => by
    obtain ⟨us, q, r⟩ := h ρ st H F
    exact ⟨us, q, by rw [r.length]; exact Nat.le_refl _⟩
  yields := fun i ρ st H m x H' hm F ho y => by
    obtain ⟨us, q, r⟩ := h ρ st H F
    obtain ⟨rfl, y2⟩ := y
    obtain ⟨v, e, rv⟩ := r.get hm
    have := y2 us q
    rw [e] at this; cases this
    exact ⟨Fut.refl F.sim, rv⟩
theorem tp_at {st : Sto} {v : V} (S : Sim T ρ0 st H0) (r : RV T ρ0 H0 (.tup xs) v) : ∃ a, v = .ref a ∧ TpAt T a xs ρ0 H0 ∧ ∃ zs, SqT T.K H0 a zs := by
  obtain ⟨a, us, rfl, z, r⟩ := r
  refine ⟨a, rfl, fun ρ st H F => ⟨us, ?_, r.later F.lat⟩, us, z.sq⟩
  rcases z with ⟨z1, z2⟩ | z
  · exact .inl (F.lat.rd z1 z2).2
  · exact .inr z
def intsM (lo : Int) (n : Nat) : List MV := (List.range n).map fun (i : Nat) => .int (lo + i)
theorem ints_get {lo : Int} {n i : Nat} {m : MV} (h : (intsM lo n)[i]? = some m) : m = .int (lo + i) := by
  unfold intsM at h
  rw [List.getElem?_map] at h
  cases e : (List.range n)[i]? with
  | none => rw [e] at h; cases h
  | some j =>
    rw [e] at h; cases h
    obtain ⟨hi, e'⟩ := List.getElem?_eq_some_iff.mp e
    rw [List.getElem_range] at e'
    rw [e']
theorem ints_len {lo : Int} {n : Nat} : (intsM lo n).length = n := by unfold intsM; simp
theorem wk_range {lo : Int} {n : Nat} : WalkM T (Itr lo n) (intsM lo n) ok ρ0 H0 where
  goes := fun i ρ st H hi F ho => by rw [ints_len] at hi; exact hi
  stops := fun ρ st H F ho => by rw [ints_len]; exact Nat.le_refl _
  yields := fun i ρ st H m x H' hm F ho y => by
    obtain ⟨rfl, rfl⟩ := y
    rw [ints_get hm]
    exact ⟨Fut.refl F.sim, rfl⟩
def pairs (xs ys : List MV) : List MV := List.zipWith (fun x y => .tup [x, y]) xs ys
theorem pairs_get {i : Nat} {m : MV} (h : (pairs xs ys)[i]? = some m) : ∃ x y, xs[i]? = some x ∧ ys[i]? = some y ∧ m = .tup [x, y] := by
  unfold pairs at h
  rw [List.getElem?_zipWith] at h
  split at h
  · rename_i x y e1 e2; cases h; exact ⟨x, y, e1, e2, rfl⟩
  · cases h
theorem pairs_len : (pairs xs ys).length = min xs.length ys.length := by unfold pairs; simp
/-- a new pair -/
theorem new_pair {ρ : List Addr} {st : Sto} {H : Hp} {x y : MV} {v w : V} {t : Addr} (S : Sim T ρ st H) (ht : H t = none) (r1 : RV T ρ H x v) (r2 : RV T ρ H y w) : Fut T ρ H ρ st (upd H t (.tup [v, w])) ∧ RV T ρ (upd H t (.tup [v, w])) (.tup [x, y]) (.ref t) := by
  have F := S.fresh (o := .tup [v, w]) ht
  exact ⟨F, t, [v, w], rfl, .inl ⟨S.free ht, .inl upd_same⟩, v, [w], rfl, r1.later F.lat, w, [], rfl, r2.later F.lat, rfl⟩
theorem wk_enum (h : LsAt T a xs ok ρ0 H0) : WalkM T (Ite T.K a) (pairs (intsM 0 xs.length) xs) ok ρ0 H0 where
  goes := fun i ρ st H hi F ho => by
    rw [pairs_len, ints_len, Nat.min_self] at hi
    obtain ⟨us, q, r⟩ := h ρ st H F ho
    have hu : i < us.length := by rw [← r.length]; exact hi
    exact ⟨us, us[i], q, List.getElem?_eq_getElem hu⟩
  stops := fun ρ st H F ho => by
    obtain ⟨us, q, r⟩ := h ρ st H F ho
    exact ⟨us, q, by rw [pairs_len, ints_len, Nat.min_self, r.length]; exact Nat.le_refl _⟩
  yields := fun i ρ st H m x H' hm F ho y => by
    obtain ⟨us, q, r⟩ := h ρ st H F ho
    obtain ⟨t, w, rfl, ht, rfl, y2⟩ := y
    obtain ⟨m1, m2, e1, e2, rfl⟩ := pairs_get hm
    have e3 := ints_get e1
    subst e3
    obtain ⟨v, e, rv⟩ := r.get e2
    have := y2 us q
    rw [e] at this; cases this
    exact new_pair F.sim ht (by show V.int (i : Nat) = V.int (0 + (i : Int)); rw [Int.zero_add]) rv
theorem wk_zip (h : LsAt T a xs ok ρ0 H0) (h2 : LsAt T b ys ok2 ρ0 H0) : WalkM T (Itz T.K a b) (pairs xs ys) (fun s => ok s ∧ ok2 s) ρ0 H0 where
  goes := fun i ρ st H hi F ho => by
    rw [pairs_len] at hi
    obtain ⟨us, q, r⟩ := h ρ st H F ho.1
    obtain ⟨ws, q2, r2⟩ := h2 ρ st H F ho.2
    have hu : i < us.length := by rw [← r.length]; omega
    have hw : i < ws.length := by rw [← r2.length]; omega
    exact ⟨us, ws, us[i], ws[i], q, q2, List.getElem?_eq_getElem hu, List.getElem?_eq_getElem hw⟩
  stops := fun ρ st H F ho => by
    obtain ⟨us, q, r⟩ := h ρ st H F ho.1
    obtain ⟨ws, q2, r2⟩ := h2 ρ st H F ho.2
    exact ⟨us, ws, q, q2, by rw [pairs_len, ← r.length, ← r2.length]; omega⟩
  yields := fun i ρ st H m x H' hm F ho y => by
    obtain ⟨us, q, r⟩ := h ρ st H F ho.1
    obtain ⟨ws, q2, r2⟩ := h2 ρ st H F ho.2
    obtain ⟨t, x1, x2, rfl, ht, rfl, y1, y2⟩ := y
    obtain ⟨m1, m2, e1, e2, rfl⟩ := pairs_get hm
    obtain ⟨v, e, rv⟩ := r.get e1
    obtain ⟨v2, e', rv2⟩ := r2.get e2
    have := y1 us q
    rw [e] at this; cases this
    have := y2 ws q2
    rw [e'] at this; cases this
    exact new_pair F.sim ht rv rv2
theorem wk_zipT (h : TpAt T a xs ρ0 H0) (h2 : TpAt T b ys ρ0 H0) : WalkM T (RZ.ItzT T.K a b) (pairs xs ys) ok ρ0 H0 where
  goes := fun i ρ st H hi F ho => by
    rw [pairs_len] at hi
    obtain ⟨us, q, r⟩ := h ρ st H F
    obtain ⟨ws, q2, r2⟩ := h2 ρ st H F
    have hu : i < us.length := by rw [← r.length]; omega
    have hw : i < ws.length := by rw [← r2.length]; omega
    exact ⟨us, ws, us[i], ws[i], q, q2, List.getElem?_eq_getElem hu, List.getElem?_eq_getElem hw⟩
  stops := fun ρ st H F ho => by
    obtain ⟨us, q, r⟩ := h ρ st H F
    obtain ⟨ws, q2, r2⟩ := h2 ρ st H F
    exact ⟨us, ws, q, q2, by rw [pairs_len, ← r.length, ← r2.length]; omega⟩
  yields := fun i ρ st H m x H' hm F ho y => by
    obtain ⟨us, q, r⟩ := h ρ st H F
    obtain ⟨ws, q2, r2⟩ := h2 ρ st H F
    obtain ⟨t, x1, x2, rfl, ht, rfl, y1, y2⟩ := y
    obtain ⟨m1, m2, e1, e2, rfl⟩ := pairs_get hm
    obtain ⟨v, e, rv⟩ := r.get e1
    obtain ⟨v2, e', rv2⟩ := r2.get e2
    have := y1 us q
    rw [e] at this; cases this
    have := y2 ws q2
    rw [e'] at this; cases this
    exact new_pair F.sim ht rv rv2
theorem pi_mono {t t' : TI} (h : PI X tg e t) (q : ∀ σ H R, t' σ H R → t σ H R) : PI X tg e t' := ⟨fun pins s σ H R I z => h.run pins s σ H R I (q σ H R z)⟩
theorem OutI.bnd {α β : Type} {rel : List Addr → Hp → α → β → Prop} {ρ : List Addr} {H : Hp} {σ : St} {st : Sto} {m : M α} {f : α → M IT} {Q : It → Hp → Prop} (h : OutI T W ρ H σ (M.bnd m f st) Q) :
    Out T W rel ρ H σ (m st) (fun b H1 => ∃ ρ1 s1 a, Fut T ρ H ρ1 s1 H1 ∧ rel ρ1 H1 a b ∧ OutI T W ρ1 H1 σ (f a s1) Q) := by
  unfold M.bnd at h
  cases e : m st with
  | ok a t =>
    rw [e] at h
    refine fun ρ1 H1 b F r => ⟨ρ1, t, a, F, r, ?_⟩
    have h' : OutI T W ρ H σ (f a t) Q := h
    revert h'
    cases f a t with
    | ok it s => exact fun h' ρ' H' J F' w => h' ρ' H' J (F.trans F') w
    | ex c fs s => exact fun h' ρ' H' cl d F' w => h' ρ' H' cl d (F.trans F') w
    | bad => exact fun h' => h'
  | ex c fs t => rw [e] at h; exact h
  | bad => rw [e] at h; exact h
/-! lists, tuples -/
def itOf (s : Sto) : MV → Option IT
  | .tup xs => some ⟨xs, fun _ => True⟩
  | x => lsOf s x
def miSeq (ma : Ev → M MV) : MI := fun env => M.bnd (ma env) fun x s => M.opt (itOf s x) s
def iSeq (K : PySem.W.Frag) (tl : TE) : TI := fun σ H R => tl σ H fun x H1 => ∃ a, x = .ref a ∧ (((∃ xs, SqL K H1 a xs) ∧ R (Itl K a) H1) ∨ ((∃ xs, SqT K H1 a xs) ∧ R (Itt K a) H1))
theorem pi_seq {l : Expr} {tl : TE} (hl : PE X l tl) : PI X tg l (iSeq X.K tl) := by
  refine ⟨fun pins s σ H R I h => ?_⟩
  refine thn (hl.run pins s σ H _ I h) fun v s1 ⟨x, H1, I1, r1, q1⟩ => ?_
  obtain ⟨a, e, q⟩ := q1
  subst e
  cases r1
  have fresh : ∀ b, b ∈ [s1.heap.objs.size] → FpOk X pins H1 b := fun b hb => by
    have e : b = s1.heap.objs.size := by simpa using hb
    subst e
    exact I1.fpOk (Nat.le_refl _) (I1.hok.fresh (Nat.le_refl _))
  rcases q with ⟨⟨xs, hq⟩, q⟩ | ⟨⟨xs, hq⟩, q⟩
  · obtain ⟨its, rv, p, hz⟩ := I1.list hq
    exact wpAny_pyIter_list p.isList ⟨s1.heap.objs.size, [s1.heap.objs.size], _, _, H1, rfl, I1.kept (t' := s1.toks) fun b o e => Heap.get?_push_of_some _ e, turn_list a _, ⟨_, Heap.get?_push_size _ rfl, rfl, rfl⟩, fresh, q⟩
  · obtain ⟨its, rv, p, hz⟩ := I1.tuple hq
    exact wpAny_pyIter_tuple (show s1.heap.IsTuple a its.toArray from p) ⟨s1.heap.objs.size, [s1.heap.objs.size], _, _, H1, rfl, I1.kept (t' := s1.toks) fun b o e => Heap.get?_push_of_some _ e, turn_tuple a _, ⟨_, Heap.get?_push_size _ rfl, rfl, rfl⟩, fresh, q⟩
theorem i_seq (hK : T.K = X.K) (he : PE X e (tE T W ma)) : PI X tg e (tI T W (miSeq ma)) := pi_mono (pi_seq he) fun σ H R ⟨ρ, st, env, S, E, h⟩ => by
  refine ⟨ρ, st, env, S, E, (OutI.bnd h).imp fun v H1 ⟨ρ1, s1, m, F1, r1, q1⟩ => ?_⟩
  cases e1 : itOf s1 m with
  | none => rw [e1] at q1; exact q1.elim
  | some it =>
    rw [e1] at q1
    by_cases ht : ∃ xs, m = .tup xs
    · obtain ⟨xs, rfl⟩ := ht
      cases e1
      obtain ⟨a, rfl, h1, zs, h2⟩ := tp_at F1.sim r1
      exact ⟨a, rfl, .inr ⟨⟨zs, hK ▸ h2⟩, hK ▸ q1 ρ1 H1 _ (Fut.refl F1.sim) (wk_tup h1)⟩⟩
    · have e2 : lsOf s1 m = some it := by
        cases m with
        | tup xs => exact absurd ⟨xs, rfl⟩ ht
        | _ => exact e1
      obtain ⟨a, rfl, h1, zs, h2⟩ := ls_at F1.sim r1 e2
      exact ⟨a, rfl, .inl ⟨⟨zs, hK ▸ h2⟩, hK ▸ q1 ρ1 H1 _ (Fut.refl F1.sim) (wk_list h1)⟩⟩
/-! range -/
def small (i : Int) : Bool := decide (-1000000000 ≤ i ∧ i ≤ 1000000000)
def miRange (ma : Ev → M MV) : MI := fun env => M.bnd (ma env) fun x => match x with
  | .int j => if small j then M.ret ⟨intsM 0 j.toNat, fun _ => True⟩ else fun _ => .bad
  | _ => fun _ => .bad
def miRange2 (ma mb : Ev → M MV) : MI := fun env => M.bnd (ma env) fun x => M.bnd (mb env) fun y => match x, y with
  | .int i, .int j => if small i && small j then M.ret ⟨intsM i (j - i).toNat, fun _ => True⟩ else fun _ => .bad
  | _, _ => fun _ => .bad
theorem small_of {i : Int} (h : small i = true) : -(2 ^ 62) ≤ i ∧ i < 2 ^ 62 := by
  have := of_decide_eq_true h
  omega
theorem a_one (he : PE X e (tE T W ma)) (hs : starEach (e :: []) X.env = (false, eval e X.env) :: starEach [] X.env := by rfl) : PA X [e] (tA T W (mCons ma mNil)) := a_cons he a_nil hs
theorem i_range (hm : X.mg "range" = none) (he : PE X e (tE T W ma)) (hg : Gl X "range" := by rfl) (hs : starEach [e] X.env = [(false, eval e X.env)] := by rfl) : PI X tg (.Call (.Name "range" p) [e] [] pos) (tI T W (miRange ma)) :=
  pi_mono (pi_range1 hg hm (pa_cons he pa_nil hs) hs) fun σ H R ⟨ρ, st, env, S, E, h⟩ => by
    refine ⟨ρ, st, env, S, E, (OutI.bnd h).imp fun v H1 ⟨ρ1, s1, m, F1, r1, q1⟩ => ?_⟩
    cases m with
    | int j =>
      cases r1
      simp only at q1
      by_cases hj : small j = true
      · rw [if_pos hj] at q1
        exact ⟨j, rfl, (small_of hj).1, (small_of hj).2, q1 ρ1 H1 _ (Fut.refl F1.sim) wk_range⟩
      · rw [if_neg hj] at q1; exact q1.elim
    | _ => exact False.elim q1
theorem i_range2 (hm : X.mg "range" = none) (he : PE X e (tE T W ma)) (he2 : PE X e2 (tE T W mb)) (hg : Gl X "range" := by rfl) (hs : starEach [e, e2] X.env = [(false, eval e X.env), (false, eval e2 X.env)] := by rfl) (hs2 : starEach [e2] X.env = [(false, eval e2 X.env)] := by rfl) :
    PI X tg (.Call (.Name "range" p) [e, e2] [] pos) (tI T W (miRange2 ma mb)) :=
  pi_mono (pi_range2 hg hm (pa_cons he (pa_cons he2 pa_nil hs2) (by rw [hs, hs2])) hs hs2) fun σ H R ⟨ρ, st, env, S, E, h⟩ => by
    refine ⟨ρ, st, env, S, E, (OutI.bnd h).imp fun v H1 ⟨ρ1, s1, m, F1, r1, q1⟩ => ?_⟩
    refine ⟨ρ1, s1, env, F1.sim, E.later F1.lat, (OutI.bnd q1).imp fun w H2 ⟨ρ2, s2, m2, F2, r2, q2⟩ => ?_⟩
    cases m with
    | int i =>
      cases m2 with
      | int j =>
        cases r1; cases r2
        simp only at q2
        by_cases hj : (small i && small j) = true
        · rw [if_pos hj] at q2
          rw [Bool.and_eq_true] at hj
          exact ⟨i, j, rfl, ⟨(small_of hj.1).1, (small_of hj.1).2, (small_of hj.2).1, (small_of hj.2).2⟩, q2 ρ2 H2 _ (Fut.refl F2.sim) wk_range⟩
        · rw [if_neg hj] at q2; exact q2.elim
      | _ => exact False.elim q2
    | _ => exact False.elim q2
/-! enumerate, zip (of lists; of tuples) -/
def miEnum (ma : Ev → M MV) : MI := fun env => M.bnd (ma env) fun x s => M.opt ((lsOf s x).map fun it => ⟨pairs (intsM 0 it.xs.length) it.xs, it.ok⟩) s
theorem i_enum {elts : List Expr} {kk : Nat} (hK : T.K = X.K) (hm : X.mg "enumerate" = none) (he : PE X e (tE T W ma)) (hg : Gl X "enumerate" := by rfl) (hs : starEach [e] X.env = [(false, eval e X.env)] := by rfl) :
    PI X (.Tuple elts kk tpos) (.Call (.Name "enumerate" p) [e] [] pos) (tI T W (miEnum ma)) :=
  pi_mono (pi_enum hg hm (pa_cons he pa_nil hs) hs) fun σ H R ⟨ρ, st, env, S, E, h⟩ => by
    refine ⟨ρ, st, env, S, E, (OutI.bnd h).imp fun v H1 ⟨ρ1, s1, m, F1, r1, q1⟩ => ?_⟩
    cases e1 : lsOf s1 m with
    | none => rw [e1] at q1; exact q1.elim
    | some it =>
      rw [e1] at q1
      obtain ⟨a, rfl, h1, zs, h2⟩ := ls_at F1.sim r1 e1
      exact ⟨a, zs, rfl, hK ▸ h2, hK ▸ q1 ρ1 H1 _ (Fut.refl F1.sim) (wk_enum h1)⟩
def zipOf (s : Sto) : MV → MV → Option IT
  | .tup xs, .tup ys => some ⟨pairs xs ys, fun _ => True⟩
  | x, y => match lsOf s x, lsOf s y with
    | some i, some j => some ⟨pairs i.xs j.xs, fun s => i.ok s ∧ j.ok s⟩
    | _, _ => none
def miZip (ma mb : Ev → M MV) : MI := fun env => M.bnd (ma env) fun x => M.bnd (mb env) fun y s => M.opt (zipOf s x y) s
theorem i_zip {elts : List Expr} {kk : Nat} (hK : T.K = X.K) (hm : X.mg "zip" = none) (he : PE X e (tE T W ma)) (he2 : PE X e2 (tE T W mb)) (hg : Gl X "zip" := by rfl)
    (hs : starEach [e, e2] X.env = (false, eval e X.env) :: starEach [e2] X.env := by rfl) (hpl : (backTo pos (starEach [e2] X.env)).any (·.1) = false := by rfl) (hs2 : starEach [e2] X.env = (false, eval e2 X.env) :: starEach [] X.env := by rfl) :
    PI X (.Tuple elts kk tpos) (.Call (.Name "zip" p) [e, e2] [] pos) (tI T W (miZip ma mb)) :=
  pi_mono (RZ.pi_zipA hg hm (pa_cons he (pa_cons he2 pa_nil hs2) hs) hs hpl) fun σ H R ⟨ρ, st, env, S, E, h⟩ => by
    refine ⟨ρ, st, env, S, E, (OutI.bnd h).imp fun v H1 ⟨ρ1, s1, m, F1, r1, q1⟩ => ?_⟩
    refine ⟨ρ1, s1, env, F1.sim, E.later F1.lat, (OutI.bnd q1).imp fun w H2 ⟨ρ2, s2, m2, F2, r2, q2⟩ => ?_⟩
    have r1' := r1.later F2.lat
    cases e1 : zipOf s2 m m2 with
    | none => rw [e1] at q2; exact q2.elim
    | some it =>
      rw [e1] at q2
      have q3 := fun J w => q2 ρ2 H2 J (Fut.refl F2.sim) w
      by_cases ht : ∃ xs ys, m = .tup xs ∧ m2 = .tup ys
      · obtain ⟨xs, ys, rfl, rfl⟩ := ht
        cases e1
        obtain ⟨a, rfl, h1, zs, h2⟩ := tp_at F2.sim r1'
        obtain ⟨b, rfl, h3, ws, h4⟩ := tp_at F2.sim r2
        exact ⟨a, b, zs, ws, rfl, .inr ⟨hK ▸ h2, hK ▸ h4, hK ▸ q3 _ (wk_zipT h1 h3)⟩⟩
      · have e2 : ∃ i j, lsOf s2 m = some i ∧ lsOf s2 m2 = some j ∧ it = ⟨pairs i.xs j.xs, fun s => i.ok s ∧ j.ok s⟩ := by
          unfold zipOf at e1
          split at e1
          · exact absurd ⟨_, _, rfl, rfl⟩ ht
          · split at e1
            · rename_i i j h1 h2; cases e1; exact ⟨i, j, h1, h2, rfl⟩
            · cases e1
        obtain ⟨i, j, g1, g2, rfl⟩ := e2
        obtain ⟨a, rfl, h1, zs, h2⟩ := ls_at F2.sim r1' g1
        obtain ⟨b, rfl, h3, ws, h4⟩ := ls_at F2.sim r2 g2
        exact ⟨a, b, zs, ws, rfl, .inl ⟨hK ▸ h2, hK ▸ h4, hK ▸ q3 _ (wk_zip h1 h3)⟩⟩
end
end Z

namespace Z
open PySem L2

/-! ### for -/
open Classical in
noncomputable def forL (g : MG) (b : MS) (ok : Sto → Prop) : List MV → MS
  | [], env, st => if ok st then .nx env st else .bad
  | x :: r, env, st => if ok st then match g x env st with
      | .ok e s => match b e s with
        | .nx e s => forL g b ok r e s
        | .ct e s => forL g b ok r e s
        | .bk e s => .nx e s
        | .rt v s => .rt v s
        | .ex e c fs s => .ex e c fs s
        | .bad => .bad
      | _ => .bad
    else .bad
noncomputable def sFor (mi : MI) (g : MG) (b : MS) : MS := fun env => bndS (mi env) env fun it s => forL g b it.ok it.xs env s
theorem for_nil {g : MG} {b : MS} {ok : Sto → Prop} {env : Ev} {st : Sto} (h : ok st) : forL g b ok [] env st = .nx env st := by
  unfold forL; rw [if_pos h]
section
variable {X : Cx} {T : Tx} {W : WX} {mi : MI} {g : MG} {b : MS} {tg iter c : Expr} {body : List Stmt} {pos : Pos} {vs : List Nat} {mt : Ev → M Bool}
theorem s_for (hp : PassesOwn (model X.prog X.w) X.A X.env X.xe) (hc : X.calm = true) (hi : PI X tg iter (tI T W mi)) (hg : PG X tg (tTg T vs g)) (hb : PSs X body (tS T W b)) (hs : ∀ x, foldedSetIterable iter X.env x = pure x := by intro _; rfl) :
    PS X (.For tg iter body [] pos) (tS T W (sFor mi g b)) := ps_mono (ps_for hp hc hi hg hb hs) fun D σ H ⟨ρ, st, env, S, E, h⟩ => by
  refine ⟨ρ, st, env, S, E, ?_⟩
  unfold sFor bndS at h
  cases e : mi env st with
  | bad => simp only [e] at h; exact h.elim
  | ex c fs s => simp only [e] at h; exact fun ρ' H' cl d F r => h ρ' H' σ cl d F (E.later F.lat) r
  | ok it s =>
    simp only [e] at h
    intro ρ0 H0 J F0 wk
    have h0 : OutS T W ρ0 H0 D (forL g b it.ok it.xs env s) := OutS.fut F0 h
    refine ⟨fun i m σ H => m = it.xs.length - i ∧ i ≤ it.xs.length ∧ ∃ ρ st env, Fut T ρ0 H0 ρ st H ∧ REnv T ρ H env σ ∧ OutS T W ρ H D (forL g b it.ok (it.xs.drop i) env st), ⟨_, rfl, Nat.zero_le _, ρ0, s, env, Fut.refl F0.sim, E.later F0.lat, h0⟩, ?_⟩
    rintro i m σ1 H1 ⟨rfl, hi, ρ1, st1, env1, F1, E1, h1⟩
    by_cases hlt : i < it.xs.length
    · right
      rw [List.drop_eq_getElem_cons hlt] at h1
      unfold forL at h1
      by_cases ho : it.ok st1
      · rw [if_pos ho] at h1
        refine ⟨wk.goes i ρ1 st1 H1 hlt F1 ho, fun σ H => ∃ ρ st env, Fut T ρ0 H0 ρ st H ∧ REnv T ρ H env σ ∧ OutS T W ρ H D (forL g b it.ok (it.xs.drop (i + 1)) env st), fun σ' H' p => ⟨it.xs.length - (i + 1), by omega, rfl, hlt, p⟩, fun x H2 y => ?_⟩
        obtain ⟨F2, rx⟩ := wk.yields i ρ1 st1 H1 it.xs[i] x H2 (List.getElem?_eq_getElem hlt) F1 ho y
        refine ⟨ρ1, st1, env1, it.xs[i], F2.sim, E1.later F2.lat, rx, ?_⟩
        cases q : g it.xs[i] env1 st1 with
        | ok e2 s2 =>
          simp only [q] at h1
          intro ρ3 H3 σ3 F3 E3 _
          refine ⟨ρ3, s2, e2, F3.sim, E3, ?_⟩
          have h3 := OutS.fut (F2.trans F3) h1
          have F13 := F1.trans (F2.trans F3)
          cases q2 : b e2 s2 with
          | nx e s => simp only [q2] at h3; exact fun ρ' H' σ' F' E' => ⟨ρ', s, e, F13.trans F', E', h3.fut F'⟩
          | ct e s => simp only [q2] at h3; exact fun ρ' H' σ' F' E' => ⟨ρ', s, e, F13.trans F', E', h3.fut F'⟩
          | bk e s => simp only [q2] at h3; exact h3
          | rt v s => simp only [q2] at h3; exact h3
          | ex e c fs s => simp only [q2] at h3; exact h3
          | bad => simp only [q2] at h3; exact h3
        | ex c fs s2 => simp only [q] at h1; exact h1
        | bad => simp only [q] at h1; exact h1
      · rw [if_neg ho] at h1; exact h1.elim
    · left
      have ei : i = it.xs.length := by omega
      subst ei
      rw [List.drop_length] at h1
      unfold forL at h1
      by_cases ho : it.ok st1
      · rw [if_pos ho] at h1
        exact ⟨wk.stops ρ1 st1 H1 F1 ho, h1 ρ1 H1 σ1 (Fut.refl F1.sim) E1⟩
      · rw [if_neg ho] at h1; exact h1.elim
end

/-! ### while -/
def whileN (mt : Ev → M Bool) (b : MS) : Nat → MS
  | 0, _, _ => .bad
  | n + 1, env, st => bndS (mt env) env (fun k s => if k = true then (match b env s with
      | .nx e s => whileN mt b n e s
      | .ct e s => whileN mt b n e s
      | .bk e s => .nx e s
      | .rt v s => .rt v s
      | .ex e c fs s => .ex e c fs s
      | .bad => .bad) else .nx env s) st
theorem while_more {mt : Ev → M Bool} {b : MS} : ∀ {n : Nat} {env : Ev} {st : Sto} {r : Fl}, whileN mt b n env st = r → r ≠ .bad → whileN mt b (n + 1) env st = r
  | 0, env, st, r, h, hr => absurd h.symm hr
  | n + 1, env, st, r, h, hr => by
    subst h
    conv => lhs; unfold whileN
    conv at hr => lhs; unfold whileN
    conv => rhs; unfold whileN
    unfold bndS at hr ⊢
    cases e : mt env st with
    | bad => rfl
    | ex c fs s => rfl
    | ok k s =>
      simp only [e] at hr ⊢
      cases k with
      | false => rfl
      | true =>
        simp only [if_true] at hr ⊢
        cases e2 : b env s with
        | nx e3 s3 => simp only [e2] at hr ⊢; exact while_more rfl hr
        | ct e3 s3 => simp only [e2] at hr ⊢; exact while_more rfl hr
        | bk e3 s3 => rfl
        | rt v s3 => rfl
        | ex e3 c fs s3 => rfl
        | bad => rfl
open Classical in
noncomputable def sWhile (mt : Ev → M Bool) (b : MS) : MS := fun env st => if h : ∃ n, whileN mt b n env st ≠ .bad then whileN mt b h.choose env st else .bad
theorem while_add {mt : Ev → M Bool} {b : MS} {n : Nat} {env : Ev} {st : Sto} {r : Fl} (h : whileN mt b n env st = r) (hr : r ≠ .bad) : ∀ k, whileN mt b (n + k) env st = r
  | 0 => h
  | k + 1 => while_more (while_add h hr k) hr
theorem while_eq {mt : Ev → M Bool} {b : MS} {n : Nat} {env : Ev} {st : Sto} {r : Fl} (h : whileN mt b n env st = r) (hr : r ≠ .bad) : sWhile mt b env st = r := by
  have hx : ∃ n, whileN mt b n env st ≠ .bad := ⟨n, by rw [h]; exact hr⟩
  unfold sWhile
  rw [dif_pos hx]
  have q := hx.choose_spec
  have e1 := while_add (r := _) rfl q n
  have e2 := while_add h hr hx.choose
  rw [Nat.add_comm] at e2
  rw [← e1, e2]
section
variable {X : Cx} {T : Tx} {W : WX} {b : MS} {c : Expr} {body : List Stmt} {pos : Pos} {mt : Ev → M Bool}
theorem s_while (hp : PassesOwn (model X.prog X.w) X.A X.env X.xe) (hc : PT X c (tT T W mt)) (hb : PSs X body (tS T W b)) : PS X (.While c body [] pos) (tS T W (sWhile mt b)) :=
  ps_mono (ps_while hp hc hb) fun D σ H ⟨ρ, st, env, S, E, h⟩ => by
    unfold sWhile at h
    split at h
    · rename_i hx
      refine ⟨fun m σ H => ∃ ρ st env, Sim T ρ st H ∧ REnv T ρ H env σ ∧ OutS T W ρ H D (whileN mt b m env st), ⟨_, ρ, st, env, S, E, h⟩, ?_⟩
      rintro m σ1 H1 ⟨ρ1, st1, env1, S1, E1, h1⟩
      cases m with
      | zero => exact h1.elim
      | succ n =>
        unfold whileN at h1
        refine ⟨ρ1, st1, env1, S1, E1, (OutS.bnd E1 h1).imp fun k H2 ⟨ρ2, s2, k', F2, rk, q2⟩ => ?_⟩
        subst rk
        have E2 := E1.later F2.lat
        cases k' with
        | false =>
          rw [if_neg (by decide)]
          rw [if_neg (by decide)] at q2
          exact q2 ρ2 H2 σ1 (Fut.refl F2.sim) E2
        | true =>
          rw [if_pos rfl]
          rw [if_pos rfl] at q2
          refine ⟨fun σ H => ∃ ρ st env, Sim T ρ st H ∧ REnv T ρ H env σ ∧ OutS T W ρ H D (whileN mt b n env st), fun σ' H' p => ⟨n, Nat.lt_succ_self _, p⟩, ρ2, s2, env1, F2.sim, E2, ?_⟩
          cases q3 : b env1 s2 with
          | nx e s => simp only [q3] at q2; exact fun ρ' H' σ' F' E' => ⟨ρ', s, e, F'.sim, E', q2.fut F'⟩
          | ct e s => simp only [q3] at q2; exact fun ρ' H' σ' F' E' => ⟨ρ', s, e, F'.sim, E', q2.fut F'⟩
          | bk e s => simp only [q3] at q2; exact q2
          | rt v s => simp only [q3] at q2; exact q2
          | ex e c fs s => simp only [q3] at q2; exact q2
          | bad => simp only [q3] at q2; exact q2
    · exact h.elim
end

/-! ### comprehensions -/
def wipeM (env : Ev) : List Nat → Ev
  | [] => env
  | v :: vs => (wipeM env vs).set v none
theorem REnv.wipe {T : Tx} {ρ : List Addr} {H : Hp} {env : Ev} {σ : St} (E : REnv T ρ H env σ) : ∀ vs : List Nat, REnv T ρ H (wipeM env vs) (L2.wipe σ vs)
  | [] => E
  | v :: vs => (REnv.wipe E vs).unset v
abbrev WF : WX := fun _ _ _ _ => False
mutual
/-- it speaks of cells below n alone -/
def blw (n : Nat) : MV → Bool
  | .ref m => decide (m < n)
  | .tup xs => blws n xs
  | .lst xs => blws n xs
  | .frz xs => blws n xs
  | .ins _ xs => blws n xs
  | .non => true
  | .bl _ => true
  | .int _ => true
  | .str _ => true
  | .fn _ => true
  | .exc => true
def blws (n : Nat) : List MV → Bool
  | [] => true
  | x :: xs => blw n x && blws n xs
end
def cellB (n : Nat) : Cell → Bool
  | .lst xs => blws n xs
  | .ins _ fs => blws n (fs.map (·.2))
  | .dct kvs => blws n (kvs.map (·.2))
mutual
theorem blw_back {T : Tx} {ρ e : List Addr} {H : Hp} : ∀ (m : MV) (v : V), blw ρ.length m = true → RV T (ρ ++ e) H m v → RV T ρ H m v
  | .non, v, _, h => h
  | .bl _, v, _, h => h
  | .int _, v, _, h => h
  | .str _, v, _, h => h
  | .fn _, v, _, h => h
  | .exc, v, _, h => h
  | .tup xs, v, b, h => by
    obtain ⟨a, ys, rfl, z, r⟩ := h
    refine ⟨a, ys, rfl, ?_, blws_back xs ys (by simpa [blw] using b) r⟩
    rcases z with ⟨z1, z2⟩ | z
    · exact .inl ⟨fun q => z1 (List.mem_append_left _ q), z2⟩
    · exact .inr z
  | .lst xs, v, b, h => by
    obtain ⟨a, ys, rfl, z1, z, r⟩ := h
    exact ⟨a, ys, rfl, fun q => z1 (List.mem_append_left _ q), z, blws_back xs ys (by simpa [blw] using b) r⟩
  | .frz xs, v, b, h => by
    obtain ⟨a, ys, rfl, z, r⟩ := h
    refine ⟨a, ys, rfl, ?_, blws_back xs ys (by simpa [blw] using b) r⟩
    rcases z with ⟨z1, z2⟩ | z
    · exact .inl ⟨fun q => z1 (List.mem_append_left _ q), z2⟩
    · exact .inr z
  | .ins c xs, v, b, h => by
    obtain ⟨a, dx, vs, rfl, z1, z2, z3, z4, r⟩ := h
    exact ⟨a, dx, vs, rfl, fun q => z1 (List.mem_append_left _ q), z2, z3, z4, blws_back xs vs (by simpa [blw] using b) r⟩
  | .ref n, v, b, h => by
    obtain ⟨a, e1, rfl⟩ := h
    have hn : n < ρ.length := by simpa [blw] using b
    rw [List.getElem?_append_left hn] at e1
    exact ⟨a, e1, rfl⟩
theorem blws_back {T : Tx} {ρ e : List Addr} {H : Hp} : ∀ (ms : List MV) (vs : List V), blws ρ.length ms = true → RVs T (ρ ++ e) H ms vs → RVs T ρ H ms vs
  | [], vs, _, h => h
  | x :: xs, vs, b, h => by
    obtain ⟨y, ys, rfl, h1, h2⟩ := h
    have b' : blw ρ.length x = true ∧ blws ρ.length xs = true := by simpa [blws] using b
    exact ⟨y, ys, rfl, blw_back x y b'.1 h1, blws_back xs ys b'.2 h2⟩
end
theorem cellB_back {T : Tx} {ρ e : List Addr} {H : Hp} {o : Option HO} : ∀ {c : Cell}, cellB ρ.length c = true → RC T (ρ ++ e) H c o → RC T ρ H c o
  | .lst xs, b, h => by obtain ⟨ys, e1, r⟩ := h; exact ⟨ys, e1, blws_back xs ys b r⟩
  | .ins c fs, b, h => by obtain ⟨dx, vs, e1, h1, h2, h3, r⟩ := h; exact ⟨dx, vs, e1, h1, h2, h3, blws_back _ vs b r⟩
  | .dct kvs, b, h => by
    obtain ⟨u, e1, r⟩ := h
    refine ⟨u, e1, ?_⟩
    rcases r with ⟨ys, h1, h2, r⟩ | ⟨ys, h1, h2, r⟩
    · exact .inl ⟨ys, h1, h2, blws_back _ _ b r⟩
    · exact .inr ⟨ys, h1, h2, blws_back _ _ b r⟩
open Classical in
/-- the turns: the new list stands in cell n -/
noncomputable def lcL (g : MG) (mt : Ev → M Bool) (me : Ev → M MV) (ok : Sto → Prop) (n : Nat) (env : Ev) : List MV → Sto → Option Sto
  | [], s => if ok s then some s else none
  | x :: r, s => if ok s then match g x env s with
      | .ok e s1 => match mt e s1 with
        | .ok true s2 => match me e s2 with
          | .ok y s3 => match s3[n]? with
            | some (.lst acc) => if acc.length < line then lcL g mt me ok n env r (s3.set n (.lst (acc ++ [y]))) else none
            | _ => none
          | _ => none
        | .ok false s2 => lcL g mt me ok n env r s2
        | _ => none
      | _ => none
    else none
open Classical in
noncomputable def mLc (fr : Bool) (mi : MI) (g : MG) (mt : Ev → M Bool) (me : Ev → M MV) (vs : List Nat) : Ev → M MV := fun env => M.bnd (mi env) fun it s =>
  match lcL g mt me it.ok s.length (wipeM env vs) it.xs (s ++ [.lst []]) with
  | some t => if fr = true then match t[s.length]? with
      | some (.lst acc) => if t.length = s.length + 1 ∧ (t.take s.length = s ∨ (t.take s.length).all (cellB s.length) = true) then match acc.mapM (frzM t s.length 40) with
          | some acc' => .ok (.lst acc') (t.take s.length)
          | none => .bad
        else .bad
      | _ => .bad
    else .ok (.ref s.length) t
  | none => .bad
def mYes : Ev → M Bool := fun _ => M.ret true
section
variable {X : Cx} {T : Tx} {W : WX} {mi : MI} {g : MG} {mt : Ev → M Bool} {me : Ev → M MV} {vs : List Nat} {own : List (Str × Nat)} {scope : Scope} {elt tg iter : Expr} {ifs : List Expr} {pos : Pos}
theorem pts_mono {X : Cx} {t t' : TT} (h : PTs X ifs t) (q : ∀ σ H Q, t' σ H Q → t σ H Q) : PTs X ifs t' := ⟨fun pins s σ H Q I z => h.run pins s σ H Q I (q σ H Q z)⟩
theorem ts_nil {X : Cx} : PTs X [] (tT T W mYes) := pts_mono pts_nil fun σ H Q ⟨ρ, st, env, S, E, h⟩ => h ρ H true (Fut.refl S) rfl
theorem ts_one {X : Cx} {c : Expr} (h : PT X c (tT T W mt)) : PTs X [c] (tT T W mt) := pts_one h
/-- the last cell is let go: its object is inline from then on -/
theorem Fut.pop {ρ : List Addr} {H H' : Hp} {s t : Sto} {ρ1 : List Addr} {D : Addr} (S : Sim T ρ s H) (hD : H D = none) (F : Fut T ρ H ρ1 t H') (hi : ρ1[s.length]? = some D) (hl : t.length = s.length + 1) (hc : t.take s.length = s ∨ (t.take s.length).all (cellB s.length) = true) :
    ρ1.take s.length = ρ ∧ Fut T ρ H ρ (t.take s.length) H' := by
  rcases hc with hc | hc
  · obtain ⟨q1, q2⟩ := F.cut S hc
    rw [hc]
    exact ⟨q1, q2⟩
  · obtain ⟨e, rfl, he⟩ := F.more
    have hlen := S.len
    have ht : (ρ ++ e).take s.length = ρ := by rw [← hlen]; simp
    refine ⟨ht, ⟨Lat.refl.more, ⟨by rw [List.length_take, hl, hlen]; omega, S.nd, fun c fs cl d a h => (S.exc c fs cl d a h).later ⟨Lat.refl.more, F.keep⟩, fun i a c e1 e2 => ?_⟩, F.keep⟩⟩
    have hi' := (List.getElem?_eq_some_iff.mp e2).1
    rw [List.length_take] at hi'
    have e1' : (ρ ++ e)[i]? = some a := by rw [List.getElem?_append_left (by omega)]; exact e1
    have e2' : t[i]? = some c := by rw [List.getElem?_take_of_lt (by omega)] at e2; exact e2
    have hb : cellB ρ.length c = true := by
      rw [hlen]
      exact List.all_eq_true.mp hc c (List.mem_of_getElem? e2)
    exact cellB_back hb (F.sim.cell i a c e1' e2')
theorem lc_red {fr : Bool} {σ : St} {H : Hp} {Q : VK} (h : tE T W (mLc fr mi g mt me vs) σ H Q) : tLc (tI T W mi) (tTg T vs g) (tT T WF mt) (tE T WF me) vs σ H Q := by
  obtain ⟨ρ, st, env, S, E, h⟩ := h
  refine ⟨ρ, st, env, S, E, ?_⟩
  unfold mLc M.bnd at h
  cases e : mi env st with
  | bad => simp only [e] at h; exact h.elim
  | ex c fs s => simp only [e] at h; exact h
  | ok it s =>
    simp only [e] at h
    intro ρ0 H0 J F0 wk D hD
    have h0 := Out.fut F0 h
    have FD := F0.sim.push (c := .lst []) (o := .lst []) hD fun ρ' H' L => ⟨[], rfl, rfl⟩
    have nD : (ρ0 ++ [D])[s.length]? = some D := by rw [← F0.sim.len]; simp
    cases hl : lcL g mt me it.ok s.length (wipeM env vs) it.xs (s ++ [.lst []]) with
    | none => rw [hl] at h0; exact h0.elim
    | some t =>
      rw [hl] at h0
      refine ⟨fun i m H => m = it.xs.length - i ∧ i ≤ it.xs.length ∧ ∃ ρ st, Fut T (ρ0 ++ [D]) (upd H0 D (.lst [])) ρ st H ∧ lcL g mt me it.ok s.length (wipeM env vs) (it.xs.drop i) st = some t, ⟨_, rfl, Nat.zero_le _, _, _, Fut.refl FD.sim, hl⟩, ?_⟩
      rintro i m H1 ⟨rfl, hi, ρ1, st1, F1, h1⟩
      have F01 : Fut T ρ0 H0 ρ1 st1 H1 := FD.trans F1
      by_cases hlt : i < it.xs.length
      · right
        rw [List.drop_eq_getElem_cons hlt] at h1
        unfold lcL at h1
        by_cases ho : it.ok st1
        · rw [if_pos ho] at h1
          refine ⟨wk.goes i ρ1 st1 H1 hlt F01 ho, fun H => ∃ ρ st, Fut T (ρ0 ++ [D]) (upd H0 D (.lst [])) ρ st H ∧ lcL g mt me it.ok s.length (wipeM env vs) (it.xs.drop (i + 1)) st = some t, fun H' p => ⟨it.xs.length - (i + 1), by omega, rfl, hlt, p⟩, fun x H2 y => ?_⟩
          obtain ⟨F2, rx⟩ := wk.yields i ρ1 st1 H1 it.xs[i] x H2 (List.getElem?_eq_getElem hlt) F01 ho y
          have E2 : REnv T ρ1 H2 (wipeM env vs) (L2.wipe σ vs) := (E.later (F0.trans (F01.trans F2)).lat).wipe vs
          refine ⟨ρ1, st1, wipeM env vs, it.xs[i], F2.sim, E2, rx, ?_⟩
          cases q1 : g it.xs[i] (wipeM env vs) st1 with
          | ok e2 s2 =>
            simp only [q1] at h1
            intro ρ3 H3 σ3 F3 E3 w3
            refine ⟨by rw [w3, wipe_wipe], ρ3, s2, e2, F3.sim, E3, ?_⟩
            cases q2 : mt e2 s2 with
            | ok k s4 =>
              simp only [q2] at h1
              intro ρ4 H4 b F4 rb
              subst rb
              cases k with
              | false =>
                rw [if_neg (by decide)]
                simp only at h1
                exact ⟨ρ4, s4, F1.trans (F2.trans (F3.trans F4)), h1⟩
              | true =>
                rw [if_pos rfl]
                simp only at h1
                refine ⟨ρ4, s4, e2, F4.sim, E3.later F4.lat, ?_⟩
                cases q3 : me e2 s4 with
                | ok y s5 =>
                  simp only [q3] at h1
                  intro ρ5 H5 v F5 rv
                  have F15 := F1.trans (F2.trans (F3.trans (F4.trans F5)))
                  have nD5 := F15.lat.ix nD
                  cases q4 : s5[s.length]? with
                  | none => simp only [q4] at h1; cases h1
                  | some cl =>
                    simp only [q4] at h1
                    cases cl with
                    | lst acc =>
                      simp only at h1
                      by_cases hz : acc.length < line
                      · rw [if_pos hz] at h1
                        obtain ⟨us, eu, ru⟩ := F5.sim.cell _ D _ nD5 q4
                        refine ⟨us, eu, by rw [← ru.length]; exact line_lt hz, ρ5, _, ?_, h1⟩
                        exact F15.trans (F5.sim.set (c := .lst (acc ++ [y])) (o := .lst (us ++ [v])) nD5 fun ρ' H' L => ⟨_, rfl, (ru.later L).append (RVs.one (rv.later L))⟩)
                      · rw [if_neg hz] at h1; cases h1
                    | _ => cases h1
                | ex c fs s5 => simp only [q3] at h1; cases h1
                | bad => simp only [q3] at h1; cases h1
            | ex c fs s4 => simp only [q2] at h1; cases h1
            | bad => simp only [q2] at h1; cases h1
          | ex c fs s2 => simp only [q1] at h1; cases h1
          | bad => simp only [q1] at h1; cases h1
        · rw [if_neg ho] at h1; cases h1
      · left
        have ei : i = it.xs.length := by omega
        subst ei
        rw [List.drop_length] at h1
        unfold lcL at h1
        by_cases ho : it.ok st1
        · rw [if_pos ho] at h1
          have e1 : st1 = t := Option.some.inj h1
          subst e1
          refine ⟨wk.stops ρ1 st1 H1 F01 ho, ?_⟩
          have nD1 := F1.lat.ix nD
          cases fr with
          | false => exact h0 ρ1 H1 (.ref D) F01 ⟨D, nD1, rfl⟩
          | true =>
            simp only [if_true] at h0
            cases q4 : st1[s.length]? with
            | none => simp only [q4] at h0; exact h0.elim
            | some cl =>
              simp only [q4] at h0
              cases cl with
              | lst acc =>
                simp only at h0
                by_cases hz : st1.length = s.length + 1 ∧ (st1.take s.length = s ∨ (st1.take s.length).all (cellB s.length) = true)
                · rw [if_pos hz] at h0
                  obtain ⟨us, eu, ru⟩ := F1.sim.cell _ D _ nD1 q4
                  cases q5 : acc.mapM (frzM st1 s.length 40) with
                  | none => rw [q5] at h0; exact h0.elim
                  | some acc' =>
                    rw [q5] at h0
                    obtain ⟨p1, p2⟩ := Fut.pop F0.sim hD F01 nD1 hz.1 hz.2
                    have rz := frz_all (frz_ok (n := s.length) F1.sim 40) ru q5
                    rw [p1] at rz
                    exact h0 ρ0 H1 (.ref D) p2 ⟨D, us, rfl, F0.sim.free hD, eu, rz⟩
                · rw [if_neg hz] at h0; exact h0.elim
              | _ => exact h0.elim
        · rw [if_neg ho] at h1; cases h1
end
end Z

namespace Z
open PySem L2

section
variable {X : Cx} {T : Tx} {W : WX} {mi : MI} {g : MG} {mt : Ev → M Bool} {me : Ev → M MV} {vs : List Nat} {own : List (Str × Nat)} {scope : Scope} {elt tg iter : Expr} {ifs : List Expr} {pos : Pos}
abbrev Blk (X : Cx) (scope : Scope) (s : Shared) (H : Hp) (C : Addr) (cl : List (Str × Addr)) (fp : List Addr) : Cx := X.blk s H scope (compEnvC scope cl C X.env) fp
/-- [elt for tg in iter if ..] -/
theorem v_lc (fr : Bool) (own : List (Str × Nat)) (hc : X.calm = true) (hN : X.N.Nodup) (hi : PI X tg iter (tI T W mi)) (ok : BlkOk X.N X.env.scope scope own)
    (hg : ∀ s H C cl fp, PG (Blk X scope s H C cl fp) tg (tTg T (own.map (·.2)) g)) (ht : ∀ s H C cl fp, PTs (Blk X scope s H C cl fp) ifs (tT T WF mt))
    (he : ∀ s H C cl fp, PE (Blk X scope s H C cl fp) elt (tE T WF me)) (hs : ∀ x, foldedSetIterable iter X.env x = pure x := by intro _; rfl) :
    PE X (.ListComp elt [⟨tg, iter, ifs, 0⟩] scope pos) (tE T W (mLc fr mi g mt me (own.map (·.2)))) := pe_mono (pe_lc hc hN hi ok hg ht he hs) fun σ H Q h => lc_red h
theorem s_setLc {y : Str} {py spos : Pos} (i : Nat) (fr : Bool) (own : List (Str × Nat)) (hc : X.calm = true) (hN : X.N.Nodup) (hi : PI X tg iter (tI T W mi)) (ok : BlkOk X.N X.env.scope scope own)
    (hg : ∀ s H C cl fp, PG (Blk X scope s H C cl fp) tg (tTg T (own.map (·.2)) g)) (ht : ∀ s H C cl fp, PTs (Blk X scope s H C cl fp) ifs (tT T WF mt))
    (he : ∀ s H C cl fp, PE (Blk X scope s H C cl fp) elt (tE T WF me)) (hy : X.N[i]? = some y := by rfl) (hyl : X.env.scope.names.lookup y = some .local := by rfl)
    (hsw : swapsWith (.ListComp elt [⟨tg, iter, ifs, 0⟩] scope pos) (some (.Name y py)) spos.line X.env = pure true := by exact sw_true rfl rfl rfl (by decide +kernel))
    (hs : ∀ x, foldedSetIterable iter X.env x = pure x := by intro _; rfl) :
    PS X (.Assign [.Name y py] (.ListComp elt [⟨tg, iter, ifs, 0⟩] scope pos) spos) (tS T W (sAsg i (mLc fr mi g mt me (own.map (·.2))))) :=
  ps_mono (ps_setLc hc hN hy hyl hsw hi ok hg ht he hs) fun D σ H ⟨ρ, st, env, S, E, h⟩ => by
    have h2 : tE T W (mLc fr mi g mt me (own.map (·.2))) σ H fun x H1 => gName i x σ H1 D.nx :=
      ⟨ρ, st, env, S, E, (OutS.bnd E h).imp fun v H1 ⟨ρ1, s1, m, F1, r1, q1⟩ => q1 ρ1 H1 _ (Fut.refl F1.sim) ((E.later F1.lat).set r1 i)⟩
    exact lc_red h2
end

/-! ### raise X('..'), X without an __init__ of its own -/
def sRaise (c : Nat) : MS := fun env st => .ex env c [] st
section
variable {X : Cx} {T : Tx} {W : WX} {c : Nat} {x m : Str} {p p2 pos pos2 : Pos} {j : Nat} {bmB : List Value} {B newId initId : String}
theorem s_raise (hc : X.calm = true) (tk : Takes X W) (F : ExcBaseFacts B newId initId bmB) (q : PySem.W.excIn X.K (T.cls c) bmB newId = true) (gC : X.mg x = some (.ref (T.cls c))) (kC : PySem.W.keepIn X.K (.ref (T.cls c)) = true) (r : Raises X (.ref (T.cls c))) (hx : T.hasX c = true)
    (hg : Gl X x := by rfl) (hdb : (x == ("__debug__" : Str)) = false := by decide) : PS X (.Raise (some (.Call (.Name x p) [.Constant (.str m) j p2] [] pos)) none pos2) (tS T W (sRaise c)) :=
  ps_mono (ps_raise hc tk (pmk_own F q gC kC r hg hdb)) fun D σ H ⟨ρ, st, env, S, E, h⟩ => h ρ H σ _ none (Fut.refl S) E ⟨rfl, hx, by simp, .inl ⟨rfl, rfl⟩⟩
end

/-! ### try -/
/-- is class c under class k? FrameError is 0 -/
def subX (c k : Nat) : Bool := k == 0 || c == k
def isExc : Option MV → Bool
  | some .exc => true
  | _ => false
/-- the clause's name goes -/
def leaveE (i : Nat) (e : Ev) : Option Ev := if (e.set i none).any isExc = true then none else some (e.set i none)
def unsetN (i : Nat) : Fl → Fl
  | .nx e s => match leaveE i e with
    | some e' => .nx e' s
    | none => .bad
  | .bk e s => match leaveE i e with
    | some e' => .bk e' s
    | none => .bad
  | .ct e s => match leaveE i e with
    | some e' => .ct e' s
    | none => .bad
  | .rt v s => .rt v s
  | .ex _ _ _ _ => .bad
  | .bad => .bad
def sTry (i k : Nat) (mb : MS) (ms : Nat → List (Nat × MV) → MS) : MS := fun env st => match mb env st with
  | .ex e c fs s => if subX c k = true then unsetN i (ms c fs (e.set i (some .exc)) s) else .ex e c fs s
  | r => r
abbrev Tx.on (T : Tx) (c : Nat) (fs : List (Nat × MV)) (cl : Value) (d : Option Addr) (a : Addr) : Tx := { T with exc := some (c, fs, cl, d, a) }
section
variable {X : Cx} {T : Tx} {W : WX} {k i : Nat} {x n : Str} {body suite : List Stmt} {b₀ : Stmt} {np pos pos' : Pos} {mb : MS} {ms : Nat → List (Nat × MV) → MS}
theorem REnv.on {ρ : List Addr} {H : Hp} {c : Nat} {fs : List (Nat × MV)} {cl : Value} {d : Option Addr} {a : Addr} (hT : T.exc = none) : ∀ {e : Ev} {σ : St}, REnv T ρ H e σ → REnv (T.on c fs cl d a) ρ H e σ
  | [], _, h => h
  | none :: e, _, h => by obtain ⟨o, σ', q, r⟩ := h; exact ⟨o, σ', q, REnv.on hT r⟩
  | some m :: e, _, h => by
    obtain ⟨v, σ', q, r1, r⟩ := h
    rcases r1 with r1 | ⟨_, _, _, _, _, _, z, _⟩
    · exact ⟨v, σ', q, .inl r1, REnv.on hT r⟩
    · rw [hT] at z; cases z
theorem REnv.off {ρ : List Addr} {H : Hp} {c : Nat} {fs : List (Nat × MV)} {cl : Value} {d : Option Addr} {a : Addr} : ∀ {e : Ev} {σ : St}, e.any isExc = false → REnv (T.on c fs cl d a) ρ H e σ → REnv T ρ H e σ
  | [], _, _, h => h
  | none :: e, _, b, h => by obtain ⟨o, σ', q, r⟩ := h; exact ⟨o, σ', q, REnv.off (by simpa [isExc] using b) r⟩
  | some m :: e, _, b, h => by
    obtain ⟨v, σ', q, r1, r⟩ := h
    have b' : isExc (some m) = false ∧ e.any isExc = false := by simpa [List.any_cons] using b
    rcases r1 with r1 | ⟨rfl, _⟩
    · exact ⟨v, σ', q, .inl r1, REnv.off b'.2 r⟩
    · exact absurd b'.1 (by decide)
theorem REnv.mark {ρ : List Addr} {H : Hp} {c : Nat} {fs : List (Nat × MV)} {cl : Value} {d : Option Addr} {a : Addr} : ∀ {e : Ev} {σ : St} (i : Nat), REnv (T.on c fs cl d a) ρ H e σ → REnv (T.on c fs cl d a) ρ H (e.set i (some .exc)) (σ.set i (some (.ref a)))
  | [], _, i, h => by cases h; exact rfl
  | none :: e, _, 0, h => by obtain ⟨o, σ', rfl, q⟩ := h; exact ⟨_, σ', rfl, .inr ⟨rfl, c, fs, cl, d, a, rfl, rfl⟩, q⟩
  | none :: e, _, i + 1, h => by obtain ⟨o, σ', rfl, q⟩ := h; exact ⟨o, σ'.set i _, rfl, REnv.mark i q⟩
  | some m' :: e, _, 0, h => by obtain ⟨o, σ', rfl, _, q⟩ := h; exact ⟨_, σ', rfl, .inr ⟨rfl, c, fs, cl, d, a, rfl, rfl⟩, q⟩
  | some m' :: e, _, i + 1, h => by obtain ⟨o, σ', rfl, r1, q⟩ := h; exact ⟨o, σ'.set i _, rfl, r1, REnv.mark i q⟩
theorem Sim.on {ρ : List Addr} {st : Sto} {H : Hp} {c : Nat} {fs : List (Nat × MV)} {cl : Value} {d : Option Addr} {a : Addr} (S : Sim T ρ st H) (r : RX T ρ H c fs cl d) : Sim (T.on c fs cl d a) ρ st H :=
  ⟨S.len, S.nd, fun c' fs' cl' d' a' h => by cases h; exact r, S.cell⟩
theorem Fut.off {ρ ρ' : List Addr} {st' : Sto} {H H' : Hp} {c : Nat} {fs : List (Nat × MV)} {cl : Value} {d : Option Addr} {a : Addr} {st : Sto} (S : Sim T ρ st H) (F : Fut (T.on c fs cl d a) ρ H ρ' st' H') : Fut T ρ H ρ' st' H' :=
  ⟨F.more, ⟨F.sim.len, F.sim.nd, fun c' fs' cl' d' a' h => (S.exc c' fs' cl' d' a' h).later F.lat, F.sim.cell⟩, F.keep⟩
theorem leave_off {ρ : List Addr} {H : Hp} {c : Nat} {fs : List (Nat × MV)} {cl : Value} {d : Option Addr} {a : Addr} {e e' : Ev} {σ : St} (h : leaveE i e = some e') (E : REnv (T.on c fs cl d a) ρ H e σ) : REnv T ρ H e' (σ.set i none) := by
  unfold leaveE at h
  by_cases q : (e.set i none).any isExc = true
  · rw [if_pos q] at h; cases h
  · rw [if_neg q] at h; cases h
    exact REnv.off (by simpa using q) (REnv.unset i E)
theorem try_red (hT : T.exc = none) (hex : ∀ c, T.hasX c = true → PySem.W.exmOne X.K (.ref (T.cls c)) (.ref (T.cls k)) = some (subX c k)) {D : Ends} {σ : St} {H : Hp} (h : tS T W (sTry i k mb ms) D σ H) :
    tS T (wAs X.K (.ref (T.cls k)) i (fun a cl d D σ H => ∃ c fs, tS (T.on c fs cl d a) WF (ms c fs) D σ H) W D) mb D σ H := by
  obtain ⟨ρ, st, env, S, E, h⟩ := h
  refine ⟨ρ, st, env, S, E, ?_⟩
  unfold sTry at h
  cases em : mb env st with
  | nx e s => simp only [em] at h; exact h
  | rt v s => simp only [em] at h; exact h
  | bk e s => simp only [em] at h; exact h
  | ct e s => simp only [em] at h; exact h
  | bad => simp only [em] at h; exact h
  | ex e c fs s =>
    simp only [em] at h
    intro ρ1 H1 σ1 cl d F1 E1 r1
    obtain ⟨e1, e2, _, _⟩ := id r1
    refine ⟨subX c k, by rw [e1]; exact hex c e2, fun hs a ha => ?_, fun hs => ?_⟩
    · rw [if_pos hs] at h
      have h1 := OutS.fut F1 h
      refine ⟨c, fs, ρ1, s, e.set i (some .exc), F1.sim.on r1, (E1.on hT).mark i, ?_⟩
      cases q : ms c fs (e.set i (some .exc)) s with
      | nx e3 s3 =>
        simp only [q, unsetN] at h1
        intro ρ' H' σ' F' E'
        cases q2 : leaveE i e3 with
        | none => rw [q2] at h1; exact h1.elim
        | some e4 => rw [q2] at h1; exact h1 ρ' H' (σ'.set i none) (F'.off F1.sim) (leave_off q2 E')
      | rt v s3 => simp only [q, unsetN] at h1; exact fun ρ' H' u F' r' => h1 ρ' H' u (F'.off F1.sim) r'
      | bk e3 s3 =>
        simp only [q, unsetN] at h1
        intro ρ' H' σ' F' E'
        cases q2 : leaveE i e3 with
        | none => rw [q2] at h1; exact h1.elim
        | some e4 => rw [q2] at h1; exact h1 ρ' H' (σ'.set i none) (F'.off F1.sim) (leave_off q2 E')
      | ct e3 s3 =>
        simp only [q, unsetN] at h1
        intro ρ' H' σ' F' E'
        cases q2 : leaveE i e3 with
        | none => rw [q2] at h1; exact h1.elim
        | some e4 => rw [q2] at h1; exact h1 ρ' H' (σ'.set i none) (F'.off F1.sim) (leave_off q2 E')
      | ex e3 c3 fs3 s3 => simp only [q, unsetN] at h1; exact h1.elim
      | bad => simp only [q, unsetN] at h1; exact h1.elim
    · have hs' : ¬ subX c k = true := by rw [hs]; decide
      rw [if_neg hs'] at h
      exact h ρ1 H1 σ1 cl d F1 E1 r1
theorem s_try (hT : T.exc = none) (hs : X.stack = X.env :: X.outer) (hf : X.env.frame = some X.env.locals) (hN : X.N.Nodup) (hc : Names X x (.ref (T.cls k))) (tk : Takes X W)
    (hex : ∀ c, T.hasX c = true → PySem.W.exmOne X.K (.ref (T.cls c)) (.ref (T.cls k)) = some (subX c k))
    (hb : ∀ (W : WX) (pn : List (Addr × Obj)) (xe : Value → Shared → Prop), Takes (X.tr pn xe) W → PassesOwn (model X.prog X.w) X.A X.env xe → PSs (X.tr pn xe) body (tS T W mb))
    (hsu : ∀ (a : Addr) (oe : Obj) (cl : Value) (d : Option Addr) (pn : List (Addr × Obj)) (c : Nat) (fs : List (Nat × MV)), Zc cl d oe → (∃ vs, oe.data = .fields vs) → PSs (X.suite a ((a, oe) :: pn)) (b₀ :: suite) (tS (T.on c fs cl d a) WF (ms c fs)))
    (hi : X.N[i]? = some n := by rfl) (hln : X.env.kindOf n = some .local := by rfl) :
    PS X (.Try body [.ExceptHandler (some (.Name x np)) (some n) (b₀ :: suite) pos'] [] [] pos) (tS T W (sTry i k mb ms)) :=
  ps_mono (ps_try_as (tb := fun W => tS T W mb) (ts := fun a cl d D σ H => ∃ c fs, tS (T.on c fs cl d a) WF (ms c fs) D σ H) (Wout := W) hs hf hN hi hln hc tk hb (fun a oe cl d pn hz hv => ⟨fun pins s σ H D I ⟨c, fs, h⟩ => (hsu a oe cl d pn c fs hz hv).run pins s σ H D I h⟩)) fun D σ H h => try_red hT hex h
end
end Z

namespace Z
open PySem L2

/-! ### operators that may be a class's own -/
def OpM (X : Cx) (T : Tx) (W : WX) (f : Value → Value → Sem Value) (g : MV → MV → M MV) : Prop :=
  ∀ (pins : List (Addr × Obj)) (s : Shared) (σ : St) (H : Hp) (x y : V) (v u : Value) (Q : VK) (ρ : List Addr) (st : Sto) (a b : MV), Inv X pins σ H s → RelV x v → RelV y u → Sim T ρ st H → RV T ρ H a x → RV T ρ H b y →
    OutF T ρ H (g a b st) Q (WE W σ) → wpAny (model X.prog X.w) X.A (f v u) (EP X pins σ Q) X.xe s
/-- a dunder of class c by its plain reading -/
structure OwnOk (X : Cx) (T : Tx) (nm : Str) (p c : Nat) (mf : MF) : Prop where
  ok : ∃ (f : Addr) (fd : FuncData) (ps : List Str) (k : Nat), PySem.W.findIn X.K (.ref (T.cls c)) nm = some (some (.ref f)) ∧ PySem.W.isFn X.K (.ref f) = true ∧ FnOk X.prog X.w X.K X.mg X.base (L2.CX X.prog X.w) k f fd ps (spM T p mf) ∧ Room (k + 2) X.A ∧ Binds X.K fd ps []
  sf : PySem.W.selfFirst X.K (T.cls c) = true
def ownM (cs : List (Nat × MF)) (g : MV → MV → M MV) : MV → MV → M MV := fun x y s => match clsOf s x, clsOf s y with
  | some c, some d => if c = d then match cs.lookup c with
      | some mf => mf [x, y] s
      | none => .bad
    else .bad
  | none, none => g x y s
  | _, _ => .bad
def optM (f : Sto → MV → MV → Option MV) : MV → MV → M MV := fun x y s => M.opt (f s x y) s
def mBinM (g : MV → MV → M MV) (ma mb : Ev → M MV) : Ev → M MV := fun env => M.bnd (ma env) fun x => M.bnd (mb env) fun y => g x y
def cmpB (f : Sto → MV → MV → Option Bool) : MV → MV → M MV := fun x y s => match f s x y with
  | some b => .ok (.bl b) s
  | none => .bad
def mCmpM (g : MV → MV → M MV) (ma mb : Ev → M MV) : Ev → M Bool := fun env => M.bnd (mBinM g ma mb env) fun x => match x with
  | .bl b => M.ret b
  | _ => fun _ => .bad
section
variable {X : Cx} {T : Tx} {W : WX} {ma mb : Ev → M MV} {a b : Expr} {pos : Pos} {cs : List (Nat × MF)} {g : MV → MV → M MV}
theorem om_prim {f : Value → Value → Sem Value} {h : Sto → MV → MV → Option MV} (ho : OpR X f (rB T h)) : OpM X T W f (optM h) := fun pins s σ H x y v u Q ρ st a b I rx ry S ra rb q => by
  unfold optM M.opt at q
  cases e : h st a b with
  | none => rw [e] at q; exact q.elim
  | some w =>
    rw [e] at q
    exact ho pins s σ H x y v u Q I rx ry ⟨ρ, st, a, b, w, S, ra, rb, e, fun H' z F r => q ρ H' z F r⟩
theorem om_cmp {f : Value → Value → Sem Value} {h : Sto → MV → MV → Option Bool} (ho : OpR X f (rP T h)) : OpM X T W f (cmpB h) := fun pins s σ H x y v u Q ρ st a b I rx ry S ra rb q => by
  unfold cmpB at q
  cases e : h st a b with
  | none => rw [e] at q; exact q.elim
  | some w =>
    rw [e] at q
    exact ho pins s σ H x y v u Q I rx ry ⟨ρ, st, a, b, w, S, ra, rb, e, q ρ H (.bl w) (Fut.refl S) rfl⟩
/-- an own def at two instances -/
theorem own_call {pins : List (Addr × Obj)} {s : Shared} {σ : St} {H : Hp} {Q : VK} {ρ : List Addr} {st : Sto} {f : Addr} {fd : FuncData} {ps : List Str} {k p : Nat} {mf : MF} {ms : List MV} {vs : List V} {us : List Value} (tk : Takes X W)
    (F : FnOk X.prog X.w X.K X.mg X.base (L2.CX X.prog X.w) k f fd ps (spM T p mf)) (hr : Room k X.A) (hb : Binds X.K fd ps []) (I : Inv X pins σ H s) (S : Sim T ρ st H) (r : RVs T ρ H ms vs) (rv : Vals vs us) (hl : ms.length = p) (q : OutF T ρ H (mf ms st) Q (WE W σ)) :
    wpAny (model X.prog X.w) X.A (call (.ref f) us) (EP X pins σ Q) X.xe s := run_fnS F hr hb (passAt tk σ) I rv ⟨ρ, st, ms, S, r, hl, q⟩
theorem back_of {pins : List (Addr × Obj)} {σ : St} {Q : VK} {v : Value} {s' : Shared} (h : EP X pins σ Q v s') : PySem.W.CmpBack (EP X pins σ Q) v s' := by
  cases v with
  | notImplemented =>
    obtain ⟨x, H, I, r, q⟩ := h
    cases x with
    | int i => obtain ⟨t, e⟩ := r; cases e
    | str i => obtain ⟨t, e⟩ := r; cases e
    | byt i => obtain ⟨t, e⟩ := r; cases e
    | flt i => obtain ⟨t, e⟩ := r; cases e
    | _ => cases r
  | _ => exact h
theorem own_split {x y : MV} {st : Sto} {ρ : List Addr} {H : Hp} {Q : VK} {E : XK} (h : OutF T ρ H (ownM cs g x y st) Q E) :
    (∃ c mf, clsOf st x = some c ∧ clsOf st y = some c ∧ cs.lookup c = some mf ∧ OutF T ρ H (mf [x, y] st) Q E) ∨ (clsOf st x = none ∧ clsOf st y = none ∧ OutF T ρ H (g x y st) Q E) := by
  unfold ownM at h
  cases e1 : clsOf st x with
  | none =>
    cases e2 : clsOf st y with
    | none => rw [e1, e2] at h; exact .inr ⟨rfl, rfl, h⟩
    | some d => rw [e1, e2] at h; exact h.elim
  | some c =>
    cases e2 : clsOf st y with
    | none => rw [e1, e2] at h; exact h.elim
    | some d =>
      rw [e1, e2] at h
      simp only at h
      by_cases hc : c = d
      · subst hc
        rw [if_pos rfl] at h
        cases e3 : cs.lookup c with
        | none => rw [e3] at h; exact h.elim
        | some mf => rw [e3] at h; exact .inl ⟨c, mf, rfl, rfl, e3, h⟩
      · rw [if_neg hc] at h; exact h.elim
theorem om_own {op : Operator} (tk : Takes X W) (h : ∀ q ∈ cs, OwnOk X T (PySem.dunder op.info.2) 2 q.1 q.2) (hg : OpM X T W (binaryOp op) g) : OpM X T W (binaryOp op) (ownM cs g) := fun pins s σ H x y v u Q ρ st a b I rx ry S ra rb q => by
  rcases own_split q with ⟨c, mf, e1, e2, e3, q⟩ | ⟨_, _, q⟩
  · obtain ⟨a1, dx, ids, xs, vs, rfl, _, h2, _, _, _⟩ := ins_of S ra e1
    obtain ⟨a2, dx', ids', xs', vs', rfl, _, h2', _, _, _⟩ := ins_of S rb e2
    cases rx
    cases ry
    obtain ⟨f, fd, ps, k, hs, hf, F, hr, hb⟩ := (h _ (lookup_mem e3)).ok
    obtain ⟨_, J, _⟩ := ins_get I.hok h2
    obtain ⟨_, J', _⟩ := ins_get I.hok h2'
    obtain ⟨od, J, _⟩ := J.look
    obtain ⟨od', J', _⟩ := J'.look
    obtain ⟨m, hF⟩ := I.fr
    refine PySem.W.binop_K hF I.ok.mod.kin J J'.type (h _ (lookup_mem e3)).sf hs hf ?_
    exact wpAny_mono (own_call (ms := [a, b]) (vs := [.ref a1, .ref a2]) tk F (hr.mono (by omega)) hb I S ⟨_, _, rfl, ra, _, _, rfl, rb, rfl⟩ (.cons rfl (.cons rfl .nil)) rfl q) (fun _ _ z => back_of z) fun _ _ z => z
  · exact hg pins s σ H x y v u Q ρ st a b I rx ry S ra rb q
theorem om_ownEq (tk : Takes X W) (hu : X.A.units < cLine) (h : ∀ q ∈ cs, OwnOk X T "__eq__" 2 q.1 q.2) (hg : OpM X T W (compareOp .Eq) g) : OpM X T W (compareOp .Eq) (ownM cs g) := fun pins s σ H x y v u Q ρ st a b I rx ry S ra rb q => by
  rcases own_split q with ⟨c, mf, e1, e2, e3, q⟩ | ⟨_, _, q⟩
  · obtain ⟨a1, dx, ids, xs, vs, rfl, _, h2, _, _, _⟩ := ins_of S ra e1
    obtain ⟨a2, dx', ids', xs', vs', rfl, _, h2', _, _, _⟩ := ins_of S rb e2
    cases rx
    cases ry
    obtain ⟨f, fd, ps, k, hs, hf, F, hr, hb⟩ := (h _ (lookup_mem e3)).ok
    obtain ⟨_, J, _⟩ := ins_get I.hok h2
    obtain ⟨_, J', _⟩ := ins_get I.hok h2'
    obtain ⟨od, J, _⟩ := J.look
    obtain ⟨od', J', _⟩ := J'.look
    obtain ⟨m, hF⟩ := I.fr
    refine PySem.W.cmp_K (op := .Eq) (tb := .ref (T.cls c)) hu hF I.ok.mod.kin J J'.type (by simp [PySem.W.notFirst]) hs hf ?_
    exact wpAny_mono (own_call (ms := [a, b]) (vs := [.ref a1, .ref a2]) tk F (hr.mono (by omega)) hb I S ⟨_, _, rfl, ra, _, _, rfl, rb, rfl⟩ (.cons rfl (.cons rfl .nil)) rfl q) (fun _ _ z => back_of z) fun _ _ z => z
  · exact hg pins s σ H x y v u Q ρ st a b I rx ry S ra rb q
theorem binM_red {f : Value → Value → Sem Value} (ho : OpM X T W f g) (ha : PE X a (tE T W ma)) (hb : PE X b (tE T W mb)) {pins : List (Addr × Obj)} {s : Shared} {σ : St} {H : Hp} {Q : VK} (I : Inv X pins σ H s) (h : tE T W (mBinM g ma mb) σ H Q) :
    wpAny (model X.prog X.w) X.A (eval a X.env) (fun v s₁ => wpAny (model X.prog X.w) X.A (eval b X.env) (fun u s₂ => wpAny (model X.prog X.w) X.A (f v u) (EP X pins σ Q) X.xe s₂) X.xe s₁) X.xe s := by
  refine binT (R := fun x y H2 => ∃ ρ st a b, Sim T ρ st H2 ∧ RV T ρ H2 a x ∧ RV T ρ H2 b y ∧ OutF T ρ H2 (g a b st) Q (WE W σ)) ha hb I ?_ fun v u s2 x y H2 I2 rx ry ⟨ρ, st, a, b, S, ra, rb, q⟩ => ho pins s2 σ H2 x y v u Q ρ st a b I2 rx ry S ra rb q
  obtain ⟨ρ, st, env, S, E, h⟩ := h
  refine ⟨ρ, st, env, S, E, h.bnd.imp fun x H1 ⟨ρ1, s1, a, F1, r1, q1⟩ => ?_⟩
  exact ⟨ρ1, s1, env, F1.sim, E.later F1.lat, (Out.bnd q1).imp fun y H2 ⟨ρ2, s2, b, F2, r2, q2⟩ => ⟨ρ2, s2, a, b, F2.sim, r1.later F2.lat, r2, outF_of q2⟩⟩
theorem v_binM {op : Operator} (ho : OpM X T W (binaryOp op) g) (ha : PE X a (tE T W ma)) (hb : PE X b (tE T W mb)) : PE X (.BinOp a op b pos) (tE T W (mBinM g ma mb)) :=
  ⟨fun pins s σ H Q I h => wpAny_BinOp (binM_red ho ha hb I h)⟩
theorem v_cmpM {op : CmpOp} (ho : OpM X T W (compareOp op) g) (ha : PE X a (tE T W ma)) (hb : PE X b (tE T W mb)) (hm : behindInMarks op b = false) : PE X (.Compare a [op] [b] pos) (tE T W (mBinM g ma mb)) :=
  ⟨fun pins s σ H Q I h => wpAny_Compare1 (binM_red ho ha hb I h) hm⟩
theorem t_cmpM {op : CmpOp} (ho : OpM X T W (compareOp op) g) (ha : PE X a (tE T W ma)) (hb : PE X b (tE T W mb)) (hm : behindInMarks op b = false) : PT X (.Compare a [op] [b] pos) (tT T W (mCmpM g ma mb)) := by
  refine ⟨fun pins s σ H Q I h => wpAny_isTrue_Compare1 ?_ hm⟩
  have h2 : tE T W (mBinM g ma mb) σ H fun x H1 => ∃ k, x = .bl k ∧ Q k H1 := by
    obtain ⟨ρ, st, env, S, E, h⟩ := h
    refine ⟨ρ, st, env, S, E, (Out.bnd h).imp fun x H1 ⟨ρ1, s1, m, F1, r1, q1⟩ => ?_⟩
    cases m with
    | bl k => cases r1; exact ⟨k, rfl, q1 ρ1 H1 k (Fut.refl F1.sim) rfl⟩
    | _ => exact False.elim q1
  refine wpAny_mono (binM_red ho ha hb I h2) (fun v s1 z => wpAny_mono z (fun u s2 z2 => wpAny_mono z2 (fun c s3 z3 => ?_) fun _ _ e => e) fun _ _ e => e) fun _ _ e => e
  obtain ⟨x, H3, I3, r3, k, e, q3⟩ := z3
  subst e
  cases r3
  exact wpAny_truthy_bool ⟨H3, I3, q3⟩
end

/-! ### str(x): a text, an int, an instance with its own __str__ -/
def strM (cs : List (Nat × MF)) : MF := fun args s => match args with
  | [x] => match clsOf s x with
    | some c => match cs.lookup c with
      | some mf => match mf [x] s with
        | .ok (.str y) t => .ok (.str y) t
        | .ok _ _ => .bad
        | r => r
      | none => .bad
    | none => match x with
      | .int i => if i.natAbs.log2 < 1920 then .ok (.str (toString i)) s else .bad
      | _ => .bad
  | _ => .bad
section
variable {X : Cx} {T : Tx} {W : WX} {as : Ev → M (List MV)} {e : Expr} {es : List Expr} {p pos : Pos} {x : Str} {Ty : String} {n : Nat} {mf : MF} {cs : List (Nat × MF)}
theorem v_calT (h : CalM X T W (.type Ty) n mf) (hv : bootBuiltins x = some (.type Ty)) (hm : X.mg x = none) (ha : PA X (e :: es) (tA T W as)) (hn : Len as n := by repeat first | exact len_nil | apply len_cons) (hg : Gl X x := by rfl) (hnn : x ≠ "__name__" := by decide) (hdb : (x == ("__debug__" : Str)) = false := by decide)
    (he : starEach (e :: es) X.env = (false, eval e X.env) :: starEach es X.env := by rfl) (hpl : (backTo pos (starEach es X.env)).any (·.1) = false := by rfl) : PE X (.Call (.Name x p) (e :: es) [] pos) (tE T W (mCall mf as)) := by
  refine ⟨fun pins s σ H Q I ⟨ρ, st, env, S, E, hh⟩ => ?_⟩
  refine wpAny_Call_Name_kw (ld_blt I hg hm hv ?_ hnn hdb)
  have t2 : tA T W as σ H fun us H1 => ∃ ρ1 s1 ms, Fut T ρ H ρ1 s1 H1 ∧ RVs T ρ1 H1 ms us ∧ ms.length = n ∧ OutF T ρ1 H1 (mf ms s1) Q (WE W σ) := ⟨ρ, st, env, S, E, args_red hn hh⟩
  exact PyProof.Rows.callWith_type1 (thn (ha.run pos pins s σ H _ I t2) fun us s1 ⟨vs, H1, I1, r1, ρ1, st1, ms, F1, rm, hl, q⟩ => h pins s1 σ H1 us vs Q ρ1 st1 ms I1 r1 F1.sim rm hl q) he hpl
theorem cal_str (tk : Takes X W) (hu : X.A.in1.in1.units < cLine) (h : ∀ q ∈ cs, OwnOk X T "__str__" 1 q.1 q.2) : CalM X T W (.type "str") 1 (strM cs) := fun pins s σ H us vs Q ρ st ms I r S rm hl q => by
  match ms, hl with
  | [a], _ =>
    obtain ⟨v, rfl, rv⟩ := rvs1 rm
    cases r with
    | cons r0 r9 =>
      cases r9
      rename_i u
      simp only [strM] at q
      cases e1 : clsOf st a with
      | some c =>
        simp only [e1] at q
        cases e3 : cs.lookup c with
        | none => rw [e3] at q; exact q.elim
        | some mf =>
          simp only [e3] at q
          obtain ⟨a1, dx, ids, xs, vs, rfl, _, h2, _, _, _⟩ := ins_of S rv e1
          cases r0
          obtain ⟨f, fd, ps, k, hs, hf, F, hr, hb⟩ := (h _ (lookup_mem e3)).ok
          obtain ⟨_, J, _⟩ := ins_get I.hok h2
          obtain ⟨od, J, _⟩ := J.look
          refine PySem.W.kso_call hu I.kIn J hs hf ?_
          have q2 : OutF T ρ H (mf [a] st) (fun w H' => (∃ y, w = .str y) ∧ Q w H') (WE W σ) := by
            cases em : mf [a] st with
            | ok w t =>
              rw [em] at q
              cases w with
              | str y => exact fun ρ' H' u F r => ⟨⟨y, r⟩, q ρ' H' u F r⟩
              | _ => exact q.elim
            | ex c fs t => rw [em] at q; exact q
            | bad => rw [em] at q; exact q.elim
          have b := hb s [.ref a1] I.kIn (by have := F.len [.ref a1] H _ _ ⟨ρ, st, [a], S, rm, rfl, q2⟩; simpa using this)
          rw [List.append_nil] at b
          have ev : Env0 X.prog X.w X.K X.mg X.base X.A.in1.in1 X.stack s H := by
            have e := I.env0
            exact ⟨e.frames, e.mod, e.bs, e.bsz, e.funs, e.frf, e.hok, e.bare⟩
          refine wpAny_call (codeAny_mono (F.run X.A.in1.in1 X.stack s H ⟨[.ref a1], []⟩ [.ref a1] [.ref a1] _ (WE W σ) hr.in1.in1 ev b (.cons rfl .nil) ⟨ρ, st, [a], S, rm, rfl, q2⟩) fun r s' hq => ?_)
          cases r with
          | error e => exact passAt tk σ pins H s e s' I hq
          | ok fl =>
            cases fl with
            | ret w =>
              obtain ⟨z, H', I', rz, ⟨y, ey⟩, qz⟩ := I.after hq
              subst ey
              obtain ⟨t, rfl⟩ := id rz
              exact ⟨_, H', I', rz, qz⟩
            | next => exact False.elim hq
            | brk => exact False.elim hq
            | cont => exact False.elim hq
      | none =>
        simp only [e1] at q
        cases a with
        | int i =>
          simp only at q
          by_cases hl : i.natAbs.log2 < 1920
          · rw [if_pos hl] at q
            cases rv
            exact call_str_int pins s σ H _ [u] Q I (.cons r0 .nil) ⟨_, rfl, hl, q ρ H _ (Fut.refl S) rfl⟩
          · rw [if_neg hl] at q; exact q.elim
        | _ => exact q.elim
end
end Z

namespace Z
open PySem L2

/-! ### isinstance -/
inductive TyM where
  | non | bl | int | str | tup | lst | own (c : Nat)
def TyM.nm : TyM → String
  | .non => "NoneType" | .bl => "bool" | .int => "int" | .str => "str" | .tup => "tuple" | .lst => "list" | .own _ => "object"
def tyM (s : Sto) : MV → Option TyM
  | .non => some .non
  | .bl _ => some .bl
  | .int _ => some .int
  | .str _ => some .str
  | .tup _ => some .tup
  | .lst _ => some .lst
  | .frz _ => some .lst
  | .ins c _ => some (.own c)
  | .ref n => match s[n]? with
    | some (.lst _) => some .lst
    | some (.ins c _) => some (.own c)
    | _ => none
  | _ => none
/-- what isinstance asks of the classes -/
structure InsTy (K : PySem.W.Frag) (C : Addr) : Prop where
  ha : PySem.W.findIn K (.ref C) "__class__" = some (some (.builtin "object.__class__"))
  hn : PySem.W.specialIn K (.builtin "object.__class__") "__get__" = some (some (.builtin "getset_descriptor.__get__"))
  ht : PySem.W.takesIn K (.builtin "object.__class__") = some true
  hm : PySem.W.mroIn K C (.type "object") = some true
def tyV (T : Tx) : TyM → Value
  | .own c => .ref (T.cls c)
  | t => .type t.nm
theorem ty_of {T : Tx} {K : PySem.W.Frag} {ρ : List Addr} {st : Sto} {H : Hp} {m : MV} {v : V} {t : TyM} (hK : T.K = K) (hC : ClsAll T) (hI : ∀ c, T.has c = true → InsTy K (T.cls c)) (S : Sim T ρ st H) (r : RV T ρ H m v) (h : tyM st m = some t) : TyX K H v (tyV T t) ∧ ∀ c, t = .own c → T.has c = true := by
  have nb : (∀ c, t ≠ .own c) → ∀ c, t = .own c → T.has c = true := fun e c e2 => absurd e2 (e c)
  have inst : ∀ {c : Nat}, clsOf st m = some c → TyX K H v (.ref (T.cls c)) ∧ T.has c = true := fun {c} e => by
    obtain ⟨a, dx, ids, xs, vs, rfl, h1, h2, _, _, _⟩ := ins_of S r e
    have z := hI c h1
    exact ⟨.base (.ins h2 (hK ▸ (hC c h1).cls) z.ha z.hn z.ht z.hm), h1⟩
  have lst : ∀ {p : Addr} {ys : List V}, SqL T.K H p ys → TyX K H (.ref p) (.type "list") := fun {p ys} q => by
    rcases q with (q | ⟨o, q⟩) | ⟨o, its, n, e1, e2, _⟩
    · exact .base (.lst q)
    · exact .base (.frz q)
    · exact .kList (hK ▸ e1) e2
  cases m with
  | non => cases h; cases r; exact ⟨.base .non, nb (by intro c z; cases z)⟩
  | bl b => cases h; cases r; exact ⟨.base (.bl b), nb (by intro c z; cases z)⟩
  | int b => cases h; cases r; exact ⟨.base (.int b), nb (by intro c z; cases z)⟩
  | str b => cases h; cases r; exact ⟨.base (.str b), nb (by intro c z; cases z)⟩
  | tup xs =>
    cases h
    obtain ⟨a, ys, rfl, z, _⟩ := r
    refine ⟨?_, nb (by intro c z; cases z)⟩
    rcases z with ⟨_, q | ⟨o, q⟩⟩ | ⟨o, its, n, e1, e2, _⟩
    · exact .base (.tup q)
    · exact .fTuple q
    · exact .kTuple (hK ▸ e1) e2
  | lst xs =>
    cases h
    obtain ⟨a, ys, rfl, _, z, _⟩ := r
    exact ⟨.base (.lst z), nb (by intro c z; cases z)⟩
  | frz xs =>
    cases h
    obtain ⟨a, ys, rfl, z, _⟩ := r
    exact ⟨lst z.sq, nb (by intro c z; cases z)⟩
  | ins c xs =>
    cases h
    have z := inst (c := c) rfl
    exact ⟨z.1, fun d e => by cases e; exact z.2⟩
  | ref n =>
    simp only [tyM] at h
    split at h
    · rename_i xs e
      cases h
      obtain ⟨a, ys, rfl, z, _⟩ := list_of (xs := xs) S r (by simp only [listOf, e])
      exact ⟨.base (.lst z), nb (by intro c z; cases z)⟩
    · rename_i c fs e
      cases h
      have z := inst (c := c) (by simp only [clsOf, e])
      exact ⟨z.1, fun d e => by cases e; exact z.2⟩
    · cases h
  | fn k => cases h
  | exc => cases h
/-- the answers: of a built-in class, of an own one -/
def isTup : TyM → Option Bool
  | .tup => some true | .own _ => none | _ => some false
def isLst : TyM → Option Bool
  | .lst => some true | .own _ => none | _ => some false
def isBl : TyM → Option Bool
  | .bl => some true | .own _ => none | _ => some false
def isInt : TyM → Option Bool
  | .int => some true | .bl => some true | .own _ => none | _ => some false
def isStr : TyM → Option Bool
  | .str => some true | .own _ => none | _ => some false
def isOwn (d : Nat) : TyM → Option Bool
  | .own c => some (c == d) | _ => none
theorem is_bi {T : Tx} {K : PySem.W.Frag} {n : String} {f : TyM → Option Bool} (h : ∀ t b, (∀ c, t ≠ .own c) → f t = some b → kitB t.nm n = some b) (h2 : ∀ c, f (.own c) = none) : ∀ t b, (∀ c, t = .own c → T.has c = true) → f t = some b → PySem.W.kitOne K (tyV T t) (.type n) = some b := fun t b _ e => by
  cases t with
  | own c => rw [h2] at e; cases e
  | _ => exact kit_ty (h _ b (by intro c z; cases z) e)
theorem is_tup {T : Tx} {K : PySem.W.Frag} : ∀ t b, (∀ c, t = .own c → T.has c = true) → isTup t = some b → PySem.W.kitOne K (tyV T t) (.type "tuple") = some b := is_bi (fun t b n e => by cases t <;> first | exact absurd rfl (n _) | (cases e; decide +kernel)) fun _ => rfl
theorem is_lst {T : Tx} {K : PySem.W.Frag} : ∀ t b, (∀ c, t = .own c → T.has c = true) → isLst t = some b → PySem.W.kitOne K (tyV T t) (.type "list") = some b := is_bi (fun t b n e => by cases t <;> first | exact absurd rfl (n _) | (cases e; decide +kernel)) fun _ => rfl
theorem is_bl {T : Tx} {K : PySem.W.Frag} : ∀ t b, (∀ c, t = .own c → T.has c = true) → isBl t = some b → PySem.W.kitOne K (tyV T t) (.type "bool") = some b := is_bi (fun t b n e => by cases t <;> first | exact absurd rfl (n _) | (cases e; decide +kernel)) fun _ => rfl
theorem is_int {T : Tx} {K : PySem.W.Frag} : ∀ t b, (∀ c, t = .own c → T.has c = true) → isInt t = some b → PySem.W.kitOne K (tyV T t) (.type "int") = some b := is_bi (fun t b n e => by cases t <;> first | exact absurd rfl (n _) | (cases e; decide +kernel)) fun _ => rfl
theorem is_str {T : Tx} {K : PySem.W.Frag} : ∀ t b, (∀ c, t = .own c → T.has c = true) → isStr t = some b → PySem.W.kitOne K (tyV T t) (.type "str") = some b := is_bi (fun t b n e => by cases t <;> first | exact absurd rfl (n _) | (cases e; decide +kernel)) fun _ => rfl
theorem is_own {T : Tx} {K : PySem.W.Frag} {d : Nat} {u : Value} (h : ∀ c, T.has c = true → PySem.W.kitOne K (.ref (T.cls c)) u = some (c == d)) : ∀ t b, (∀ c, t = .own c → T.has c = true) → isOwn d t = some b → PySem.W.kitOne K (tyV T t) u = some b := fun t b q e => by
  cases t with
  | own c => cases e; exact h c (q c rfl)
  | _ => cases e
def mIsi (f : TyM → Option Bool) (ma : Ev → M MV) : Ev → M MV := fun env => M.bnd (ma env) fun x s => match tyM s x with
  | some t => M.opt ((f t).map .bl) s
  | none => .bad
section
variable {X : Cx} {T : Tx} {W : WX} {ma : Ev → M MV} {a c : Expr} {p pos : Pos} {f : TyM → Option Bool}
theorem v_isi {w : V} {u : Value} (hK : T.K = X.K) (hC : ClsAll T) (hI : ∀ c, T.has c = true → InsTy X.K (T.cls c)) (hf : ∀ t b, (∀ c, t = .own c → T.has c = true) → f t = some b → PySem.W.kitOne X.K (tyV T t) u = some b) (hc : PE X c (tC w)) (hw : ClsV w u) (hm : X.mg "isinstance" = none) (ha : PE X a (tE T W ma)) (hg : Gl X "isinstance" := by rfl)
    (he : starEach (a :: [c]) X.env = (false, eval a X.env) :: starEach [c] X.env := by rfl) (he2 : starEach (c :: []) X.env = (false, eval c X.env) :: starEach [] X.env := by rfl) (hpl : (backTo pos (starEach [c] X.env)).any (·.1) = false := by rfl) :
    PE X (.Call (.Name "isinstance" p) [a, c] [] pos) (tE T W (mIsi f ma)) :=
  pe_mono (pe_callB call_isi hg hm rfl (pa_cons ha (pa_cons hc pa_nil he2) he) (by decide) (by decide) he hpl) fun σ H Q h => by
    obtain ⟨ρ, st, env, S, E, h⟩ := h
    refine ⟨ρ, st, env, S, E, h.bnd.imp fun x H1 ⟨ρ1, s1, m, F1, r1, q1⟩ => ?_⟩
    cases e : tyM s1 m with
    | none => simp only [e] at q1; exact q1.elim
    | some t =>
      simp only [e] at q1
      obtain ⟨z1, z2⟩ := ty_of hK hC hI F1.sim r1 e
      obtain ⟨v, ev, q⟩ := opt_out q1
      cases eb : f t with
      | none => rw [eb] at ev; cases ev
      | some b =>
        rw [eb] at ev; cases ev
        exact ⟨x, w, tyV T t, u, b, rfl, hw, z1, hf t b z2 eb, q ρ1 H1 _ (Fut.refl F1.sim) rfl⟩
end

/-! ### isinstance of the handled exception -/
def subXs (c : Nat) (ks : List Nat) : Bool := ks.any (subX c)
def mExcIs (i : Nat) (fs : List (Nat × MV)) (b : Bool) : Ev → M MV := fun env s => match env.getD i none, fs with
  | some .exc, [] => .ok (.bl b) s
  | _, _ => .bad
theorem excIs_out {i : Nat} {fs : List (Nat × MV)} {b : Bool} {env : Ev} {s : Sto} {T : Tx} {W : WX} {ρ : List Addr} {H : Hp} {σ : St} {Q : VK} (h : Out T W (RV T) ρ H σ (mExcIs i fs b env s) Q) : env[i]? = some (some .exc) ∧ fs = [] ∧ ∀ ρ' H' u, Fut T ρ H ρ' s H' → RV T ρ' H' (.bl b) u → Q u H' := by
  unfold mExcIs at h
  cases e : env.getD i none with
  | none => rw [e] at h; exact h.elim
  | some m =>
    rw [e] at h
    cases m with
    | exc =>
      cases fs with
      | nil =>
        refine ⟨?_, rfl, h⟩
        rw [List.getD_eq_getElem?_getD] at e
        cases q : env[i]? with
        | none => rw [q] at e; cases e
        | some o => rw [q] at e; simp at e; rw [e]
      | cons _ _ => exact h.elim
    | _ => exact h.elim
/-- isinstance(e, (c1, c2, ..)) -/
def rIsET (K : PySem.W.Frag) (D a : Addr) : List V → Hp → VK → Prop := fun xs H Q => ∃ (tp : Addr) (cs : List V) (us : List Value) (b : Bool), xs = [.ref a, .ref tp] ∧ H tp = some (.tup cs) ∧ Paired ClsV cs us ∧ PySem.W.kitAny K (.ref D) us = some b ∧ Q (.bl b) H
theorem call_isET {X : Cx} {a D : Addr} {oe : Obj} {pn : List (Addr × Obj)} (C : ExcC X.K D) (hz : Zc (.ref D) none oe) (hf : ∃ vs, oe.data = .fields vs) : CallR (X.suite a ((a, oe) :: pn)) (.builtin "isinstance") (rIsET X.K D a) := by
  intro pins s σ H xs us Q I r ⟨tp, cs, ws, b, e1, hT, k, e, q⟩
  subst e1
  obtain ⟨u1, u2, rfl, r1, r2⟩ := vals2 r
  cases (show u1 = Value.ref a from r1)
  cases (show u2 = Value.ref tp from r2)
  obtain ⟨hget, _⟩ := I.pin (a, oe) (List.mem_append.mpr (.inl List.mem_cons_self))
  obtain ⟨vs, hv⟩ := hf
  have J : PySem.W.InstAt s.heap a oe D none := by
    rcases oe with ⟨oc, od, oda, osl⟩
    have h1 := hz.1
    have h2 := hz.2
    dsimp only at h1 h2 hv
    subst h1 h2 hv
    exact ⟨hget, rfl, rfl, trivial⟩
  obtain ⟨_, its, rv, o, h1, h2, n, h3⟩ := (show ObjOk X.prog X.w H s.heap tp (.tup cs) from I.hok tp _ hT)
  have e3 := ClsV.all k rv
  subst e3
  rcases o with ⟨oc, od, dt, sl⟩
  simp only at h2 h3
  subst h2 h3
  exact PySem.W.kia_tup (PySem.W.handS_kitx_exc C.hg C.hk C.hs C.hd C.ha C.hn C.ht C.hm) I.kIn J h1 e (fun z => nomatch z) fun tk => ⟨.bl b, H, I.kept (t' := tk) fun _ _ z => z, rfl, q⟩
section
variable {X : Cx} {T : Tx} {a : Addr} {oe : Obj} {pn : List (Addr × Obj)} {cl : Value} {d : Option Addr} {c : Nat} {fs : List (Nat × MV)} {x : Str} {px p pos : Pos} {ce : Expr}
theorem exc_now {ρ : List Addr} {st : Sto} {H : Hp} {σ : St} {env : Ev} {i : Nat} (S : Sim (T.on c fs cl d a) ρ st H) (E : REnv (T.on c fs cl d a) ρ H env σ) (h : env[i]? = some (some .exc)) (hf : fs = []) : cl = .ref (T.cls c) ∧ d = none ∧ T.hasX c = true ∧ σ[i]? = some (some (.ref a)) := by
  obtain ⟨h1, h2, _, h4⟩ := S.exc c fs cl d a rfl
  subst hf
  have hd : d = none := by
    rcases h4 with ⟨_, h4⟩ | ⟨_, _, _, ne, _⟩
    · exact h4
    · exact absurd rfl ne
  obtain ⟨v, q1, q2⟩ := E.get h
  rcases q2 with q2 | ⟨_, c', fs', cl', d', a', e, ev⟩
  · exact q2.elim
  · cases e
    exact ⟨h1, hd, h2, by rw [q1, ev]⟩
theorem v_excIs (i : Nat) {w : V} {cv : Value} {b : Bool} (hC : ∀ c, T.hasX c = true → ExcC X.K (T.cls c)) (hb : T.hasX c = true → PySem.W.kitOne X.K (.ref (T.cls c)) cv = some b) (hz : Zc cl d oe) (hf : ∃ vs, oe.data = .fields vs) (hw : ClsV w cv)
    (hx : PE (X.suite a ((a, oe) :: pn)) (.Name x px) (fun σ H Q => ∃ v, σ[i]? = some (some v) ∧ Q v H)) (hc : PE (X.suite a ((a, oe) :: pn)) ce (tC w)) (hm : X.mg "isinstance" = none) (hg : Gl X "isinstance" := by rfl)
    (he : starEach (.Name x px :: [ce]) X.env = (false, eval (.Name x px) X.env) :: starEach [ce] X.env := by rfl) (he2 : starEach (ce :: []) X.env = (false, eval ce X.env) :: starEach [] X.env := by rfl) (hpl : (backTo pos (starEach [ce] X.env)).any (·.1) = false := by rfl) :
    PE (X.suite a ((a, oe) :: pn)) (.Call (.Name "isinstance" p) [.Name x px, ce] [] pos) (tE (T.on c fs cl d a) WF (mExcIs i fs b)) := by
  refine ⟨fun pins s σ H Q I hh => ?_⟩
  obtain ⟨ρ, st, env, S, E, h⟩ := hh
  obtain ⟨e1, e2, q⟩ := excIs_out h
  obtain ⟨rfl, rfl, hx1, hs⟩ := exc_now S E e1 e2
  exact (pe_callB (X := X.suite a ((a, oe) :: pn)) (call_isE (hC c hx1) hz hf) hg hm rfl (pa_cons hx (pa_cons hc pa_nil he2) he) (by decide) (by decide) he hpl).run pins s σ H Q I
    ⟨_, hs, w, cv, b, rfl, fun u r => hw.eq r, hb hx1, q ρ H _ (Fut.refl S) rfl⟩
theorem v_excIsT (i : Nat) {ws : List V} {cvs : List Value} {es : List Expr} {b : Bool} {k : Nat} {p2 : Pos} (hC : ∀ c, T.hasX c = true → ExcC X.K (T.cls c)) (hb : T.hasX c = true → PySem.W.kitAny X.K (.ref (T.cls c)) cvs = some b) (hz : Zc cl d oe) (hf : ∃ vs, oe.data = .fields vs) (hw : Paired ClsV ws cvs)
    (hx : PE (X.suite a ((a, oe) :: pn)) (.Name x px) (fun σ H Q => ∃ v, σ[i]? = some (some v) ∧ Q v H)) (hc : PA (X.suite a ((a, oe) :: pn)) es (fun _ H Q => Q ws H)) (hl : ws.length ≤ 1000) (hm : X.mg "isinstance" = none) (hg : Gl X "isinstance" := by rfl)
    (he : starEach (.Name x px :: [.Tuple es k p2]) X.env = (false, eval (.Name x px) X.env) :: starEach [.Tuple es k p2] X.env := by rfl) (he2 : starEach (.Tuple es k p2 :: []) X.env = (false, eval (.Tuple es k p2) X.env) :: starEach [] X.env := by rfl) (hpl : (backTo pos (starEach [.Tuple es k p2] X.env)).any (·.1) = false := by rfl) :
    PE (X.suite a ((a, oe) :: pn)) (.Call (.Name "isinstance" p) [.Name x px, .Tuple es k p2] [] pos) (tE (T.on c fs cl d a) WF (mExcIs i fs b)) := by
  refine ⟨fun pins s σ H Q I hh => ?_⟩
  obtain ⟨ρ, st, env, S, E, h⟩ := hh
  obtain ⟨e1, e2, q⟩ := excIs_out h
  obtain ⟨rfl, rfl, hx1, hs⟩ := exc_now S E e1 e2
  refine (pe_callB (X := X.suite a ((a, oe) :: pn)) (call_isET (hC c hx1) hz hf) hg hm rfl (pa_cons hx (pa_cons (pe_tup hc) pa_nil he2) he) (by decide) (by decide) he hpl).run pins s σ H Q I
    ⟨_, hs, Nat.le_trans hl (by decide), fun tp hp => ?_⟩
  exact ⟨tp, ws, cvs, b, rfl, upd_same, hw, hb hx1, q ρ _ _ (S.fresh (o := .tup ws) hp) rfl⟩
end

/-! ### f'..' -/
def mFmt (ma : Ev → M MV) : Ev → M MV := fun env => M.bnd (ma env) fun x => match x with
  | .str y => if y.length ≤ line then M.ret (.str y) else fun _ => .bad
  | .int i => if i.natAbs.log2 < 1920 then M.ret (.str (toString i)) else fun _ => .bad
  | _ => fun _ => .bad
def mJs : List (Ev → M MV) → Str → Ev → M MV
  | [], acc, _ => M.ret (.str acc)
  | m :: ms, acc, env => M.bnd (m env) fun x => match x with
    | .str y => if (acc ++ y).length ≤ line then mJs ms (acc ++ y) env else fun _ => .bad
    | _ => fun _ => .bad
section
variable {X : Cx} {T : Tx} {W : WX} {ma : Ev → M MV} {e : Expr} {pos : Pos}
theorem v_fmt (he : PE X e (tE T W ma)) : PE X (.FormattedValue e (-1) none pos) (tE T W (mFmt ma)) := pe_mono (pe_fmt he) fun σ H Q h => by
  obtain ⟨ρ, st, env, S, E, h⟩ := h
  refine ⟨ρ, st, env, S, E, h.bnd.imp fun x H1 ⟨ρ1, s1, m, F1, r1, q1⟩ => ?_⟩
  cases m with
  | str y =>
    cases r1
    simp only at q1
    split at q1
    · rename_i hl; exact .inl ⟨y, rfl, line_le hl, q1 ρ1 H1 _ (Fut.refl F1.sim) rfl⟩
    · exact q1.elim
  | int i =>
    cases r1
    simp only at q1
    split at q1
    · rename_i hl; exact .inr ⟨i, rfl, hl, q1 ρ1 H1 _ (Fut.refl F1.sim) rfl⟩
    · exact q1.elim
  | _ => exact False.elim q1
theorem js_red {σ : St} {Q : VK} : ∀ {ms : List (Ev → M MV)} {acc : Str} {H : Hp}, tE T W (mJs ms acc) σ H Q → tJs (ms.map fun m => tE T W m) acc σ H fun out H1 => Q (.str out) H1
  | [], acc, H, ⟨ρ, st, env, S, E, h⟩ => h ρ H _ (Fut.refl S) rfl
  | m :: ms, acc, H, ⟨ρ, st, env, S, E, h⟩ => by
    refine ⟨ρ, st, env, S, E, (Out.bnd (f := fun x => _) h).imp fun x H1 ⟨ρ1, s1, m, F1, r1, q1⟩ => ?_⟩
    cases m with
    | str y =>
      cases r1
      simp only at q1
      split at q1
      · rename_i hl; exact ⟨y, rfl, line_le hl, js_red ⟨ρ1, s1, env, F1.sim, E.later F1.lat, q1⟩⟩
      · exact q1.elim
    | _ => exact False.elim q1
theorem v_joined {v1 v2 : Expr} {rest : List Expr} {ms : List (Ev → M MV)} (h : PJ X (v1 :: v2 :: rest) (ms.map fun m => tE T W m)) : PE X (.JoinedStr (v1 :: v2 :: rest) pos) (tE T W (mJs ms Str.empty)) :=
  pe_mono (pe_joined h) fun σ H Q h => js_red h
theorem v_joined1 (h : PE X e (tE T W ma)) : PE X (.JoinedStr [e] pos) (tE T W ma) := pe_joined1 h
/-! i.bit_length() -/
def mBits (ma : Ev → M MV) : Ev → M MV := fun env => M.bnd (ma env) fun x => match x with
  | .int i => M.ret (.int (Builtin.Int.intBits i : Nat))
  | _ => fun _ => .bad
theorem v_bits {apos : Pos} (ho : PE X e (tE T W ma)) (hbase : attributeBase e "bit_length" X.env (eval e X.env) = eval e X.env := by rfl) (hline : (apos.endLine == pos.line) = true := by rfl) : PE X (.Call (.Attribute e "bit_length" apos) [] [] pos) (tE T W (mBits ma)) :=
  pe_mono (pe_bits ho hbase hline) fun σ H Q h => by
    obtain ⟨ρ, st, env, S, E, h⟩ := h
    refine ⟨ρ, st, env, S, E, h.bnd.imp fun x H1 ⟨ρ1, s1, m, F1, r1, q1⟩ => ?_⟩
    cases m with
    | int i => cases r1; exact ⟨i, rfl, q1 ρ1 H1 _ (Fut.refl F1.sim) rfl⟩
    | _ => exact False.elim q1
end
end Z

namespace Z
open PySem L2

/-! ### C(e, .., k = v, ..) -/
/-- what is raised by it is not followed -/
def noEx (r : R MV) : R MV := match r with
  | .ok v s => .ok v s
  | _ => .bad
def mKw (g : List MV → List MV → List MV) (mf : MF) (as bs : Ev → M (List MV)) : Ev → M MV := fun env => M.bnd (as env) fun xs => M.bnd (bs env) fun ys s => noEx (mf (g xs ys) s)
section
variable {X : Cx} {T : Tx} {W : WX} {ma : Ev → M MV} {as bs : Ev → M (List MV)} {k n q c : Nat} {f : Addr} {fd : FuncData} {ps ks : List Str} {init : MF} {x nm : Str} {pp pos kpos : Pos} {e : Expr} {es : List Expr} {kws : List Keyword} {g : List Value → List Value → List Value} {gV gA : List V → List V → List V} {gM : List MV → List MV → List MV}
theorem pk_mono {t t' : TA} (h : PK X kws t) (q : ∀ σ H Q, t' σ H Q → t σ H Q) : PK X kws t' := ⟨fun pos pins s σ H Q I z => h.run pos pins s σ H Q I (q σ H Q z)⟩
theorem k_nil : PK X [] (tA T W mNil) := pk_mono pk_nil fun σ H Q h => by
  obtain ⟨ρ, st, env, S, E, h⟩ := h
  exact h ρ H [] (Fut.refl S) rfl
theorem k_cons (ha : PE X e (tE T W ma)) (hr : PK X kws (tA T W as)) : PK X (⟨nm, e, kpos⟩ :: kws) (tA T W (mCons ma as)) :=
  pk_mono (pk_cons ha hr) fun σ H Q h => by
    obtain ⟨ρ, st, env, S, E, h⟩ := h
    refine ⟨ρ, st, env, S, E, h.bnd.imp fun x H1 ⟨ρ1, s1, a, F1, r1, q1⟩ => ?_⟩
    refine ⟨ρ1, s1, env, F1.sim, E.later F1.lat, (Out.bnd q1).imp fun xs H2 ⟨ρ2, s2, as, F2, r2, q2⟩ => ?_⟩
    exact q2 ρ2 H2 _ (Fut.refl F2.sim) ⟨x, xs, rfl, r1.later F2.lat, r2⟩
theorem noEx_out {ρ : List Addr} {H : Hp} {r : R MV} {Q : VK} {E : XK} (h : OutF T ρ H (noEx r) Q E) : OutF T ρ H r Q (fun _ _ _ => False) := by
  cases r with
  | ok v s => exact h
  | ex c fs s => exact h.elim
  | bad => exact h
/-- arguments one behind the other -/
theorem kw_red {σ : St} {H : Hp} {Q : VK} {mf : MF} (hmf : ∀ (ρ : List Addr) (st : Sto) (H : Hp) (ms : List MV) (Q : VK) (E : XK), Sim T ρ st H → OutF T ρ H (mf ms st) Q E → OutF T ρ H (newC c init ms st) Q E) (hA : Len as n) (hB : Len bs q) (hc : T.has c = true) (hgr : ∀ {ρ : List Addr} {H : Hp} {ms ns : List MV} {vs zs : List V}, ms.length = n → ns.length = q → RVs T ρ H ms vs → RVs T ρ H ns zs → RVs T ρ H (gM ms ns) (gA vs zs)) {p : Nat} (hgl : ∀ ms ns : List MV, ms.length = n → ns.length = q → (gM ms ns).length + 1 = p)
    (h : tE T W (mKw gM mf as bs) σ H Q) :
    tA T W as σ H fun vs H1 => tA T W bs σ H1 fun zs H2 => vs.length = n ∧ zs.length = q ∧ ∀ x dx, H2 x = none → H2 dx = none → dx ≠ x → spM T p init (.ref x :: gA vs zs) (upd (upd H2 dx (.own x)) x (.ins (T.cls c) dx [])) (fun v H3 => v = .non ∧ Q (.ref x) H3) (fun _ _ _ => False) := by
  obtain ⟨ρ, st, env, S, E, h⟩ := h
  refine ⟨ρ, st, env, S, E, ?_⟩
  unfold mKw M.bnd at h
  cases e1 : as env st with
  | ok xs t =>
    simp only [e1] at h
    intro ρ1 H1 vs F1 r1
    refine ⟨ρ1, t, env, F1.sim, E.later F1.lat, ?_⟩
    cases e2 : bs env t with
    | ok ys t2 =>
      simp only [e2] at h
      intro ρ2 H2 zs F2 r2
      have l1 := hA _ _ _ _ e1
      have l2 := hB _ _ _ _ e2
      have r1' := r1.later F2.lat
      have h2 : OutF T ρ H (noEx (mf (gM xs ys) t2)) Q (WE W σ) := outF_of h
      have h3 : OutF T ρ2 H2 (newC c init (gM xs ys) t2) Q (fun _ _ _ => False) := by
        refine hmf ρ2 t2 H2 _ _ _ F2.sim ?_
        have z := noEx_out h2
        revert z
        generalize mf (gM xs ys) t2 = r
        intro z
        cases r with
        | ok v s => exact fun ρ' H' u F r => z ρ' H' u ((F1.trans F2).trans F) r
        | ex c fs s => exact fun ρ' H' cl d F r => z ρ' H' cl d ((F1.trans F2).trans F) r
        | bad => exact z
      refine ⟨by rw [← r1.length]; exact l1, by rw [← r2.length]; exact l2, ?_⟩
      exact new_red hc F2.sim (hgr l1 l2 r1' r2) h3 (hgl xs ys l1 l2)
    | ex c fs t2 => simp only [e2] at h; exact fun ρ' H' cl d F r => h ρ' H' cl d (F1.trans F) r
    | bad => simp only [e2] at h; exact h.elim
  | ex c fs t => simp only [e1] at h; exact h
  | bad => simp only [e1] at h; exact h.elim
theorem new_same (ρ : List Addr) (st : Sto) (H : Hp) (ms : List MV) (Q : VK) (E : XK) (_ : Sim T ρ st H) (h : OutF T ρ H (newC c init ms st) Q E) : OutF T ρ H (newC c init ms st) Q E := h
theorem new_pure (ρ : List Addr) (st : Sto) (H : Hp) (ms : List MV) (Q : VK) (E : XK) (S : Sim T ρ st H) (h : OutF T ρ H (mPure (newC c init) ms st) Q E) : OutF T ρ H (newC c init ms st) Q E := pure_out S h
theorem passes_no (tk : Takes X W) : Passes (L2.CX X.prog X.w) X (fun _ _ _ => False) := passes_call tk fun _ _ _ _ z => z.elim
theorem v_makeK {mf : MF} (hmf : ∀ (ρ : List Addr) (st : Sto) (H : Hp) (ms : List MV) (Q : VK) (E : XK), Sim T ρ st H → OutF T ρ H (mf ms st) Q E → OutF T ρ H (newC c init ms st) Q E) (tk : Takes X W) (hc : T.has c = true) (M : Mk X.K (T.cls c) f) {p : Nat} (F : FnOk X.prog X.w X.K X.mg X.base (L2.CX X.prog X.w) k f fd ps (spM T p init)) (hr : Room (k + 1) X.A) (hm : X.mg x = some (.ref (T.cls c))) (hb : KBn X.K fd ps (n + 1) ks g gV)
    (hgV : ∀ (x : V) vs zs, vs.length = n → zs.length = ks.length → gV (x :: vs) zs = x :: gA vs zs) (hgr : ∀ {ρ : List Addr} {H : Hp} {ms ns : List MV} {vs zs : List V}, ms.length = n → ns.length = ks.length → RVs T ρ H ms vs → RVs T ρ H ns zs → RVs T ρ H (gM ms ns) (gA vs zs))
    (hgl : ∀ ms ns : List MV, ms.length = n → ns.length = ks.length → (gM ms ns).length + 1 = p)
    (ha : PA X (e :: es) (tA T W as)) (hkw : PK X kws (tA T W bs)) (hA : Len as n := by repeat first | exact len_nil | apply len_cons) (hB : Len bs ks.length := by repeat first | exact len_nil | apply len_cons) (hg : Gl X x := by rfl) (hall : (backToKw pos (keywordEach kws X.env)).all (·.1.isSome) = true := by rfl) (hks : (backToKw pos (keywordEach kws X.env)).filterMap (·.1) = ks := by rfl)
    (hdb : (x == ("__debug__" : Str)) = false := by decide) (he : starEach (e :: es) X.env = (false, eval e X.env) :: starEach es X.env := by rfl)
    (hpl : ((backTo pos (starEach (e :: es) X.env)).any (·.1) || (backToKw pos (keywordEach kws X.env)).any (·.1.isNone)) = false := by rfl) :
    PE X (.Call (.Name x pp) (e :: es) kws pos) (tE T W (mKw gM mf as bs)) :=
  pe_mono (pe_makeN M F hr hg hm hb (passes_no tk) ha hkw hall hks hdb he hpl) fun σ H Q h => by
    have z := kw_red hmf hA hB hc hgr hgl h
    obtain ⟨ρ, st, env, S, E, z⟩ := z
    refine ⟨ρ, st, env, S, E, z.imp fun vs H1 ⟨ρ1, st1, env1, S1, E1, z1⟩ => ⟨ρ1, st1, env1, S1, E1, z1.imp fun zs H2 ⟨l1, l2, z2⟩ => ⟨l1, l2, fun x dx h1 h2 h3 => ?_⟩⟩⟩
    rw [hgV _ _ _ l1 l2]
    exact z2 x dx h1 h2 h3
theorem v_makeK0 {mf : MF} (hmf : ∀ (ρ : List Addr) (st : Sto) (H : Hp) (ms : List MV) (Q : VK) (E : XK), Sim T ρ st H → OutF T ρ H (mf ms st) Q E → OutF T ρ H (newC c init ms st) Q E) (tk : Takes X W) (hc : T.has c = true) (M : Mk X.K (T.cls c) f) {p : Nat} (F : FnOk X.prog X.w X.K X.mg X.base (L2.CX X.prog X.w) k f fd ps (spM T p init)) (hr : Room (k + 1) X.A) (hm : X.mg x = some (.ref (T.cls c))) (hb : KBn X.K fd ps 1 ks g gV)
    (hgV : ∀ (x : V) zs, zs.length = ks.length → gV [x] zs = x :: gA [] zs) (hgr : ∀ {ρ : List Addr} {H : Hp} {ms ns : List MV} {vs zs : List V}, ms.length = 0 → ns.length = ks.length → RVs T ρ H ms vs → RVs T ρ H ns zs → RVs T ρ H (gM ms ns) (gA vs zs))
    (hgl : ∀ ms ns : List MV, ms.length = 0 → ns.length = ks.length → (gM ms ns).length + 1 = p)
    (hkw : PK X kws (tA T W bs)) (hB : Len bs ks.length := by repeat first | exact len_nil | apply len_cons) (hg : Gl X x := by rfl) (hall : (backToKw pos (keywordEach kws X.env)).all (·.1.isSome) = true := by rfl) (hks : (backToKw pos (keywordEach kws X.env)).filterMap (·.1) = ks := by rfl)
    (hdb : (x == ("__debug__" : Str)) = false := by decide)
    (hpl : ((backTo pos (starEach [] X.env)).any (·.1) || (backToKw pos (keywordEach kws X.env)).any (·.1.isNone)) = false := by rfl) :
    PE X (.Call (.Name x pp) [] kws pos) (tE T W (mKw gM mf mNil bs)) :=
  pe_mono (pe_makeK0 M F hr hg hm hb (passes_no tk) hkw hall hks hdb hpl) fun σ H Q h => by
    have z := kw_red (as := mNil) hmf len_nil hB hc hgr hgl h
    obtain ⟨ρ, st, env, S, E, z⟩ := z
    have z0 := z ρ H [] (Fut.refl S) rfl
    obtain ⟨ρ1, st1, env1, S1, E1, z1⟩ := z0
    refine ⟨ρ1, st1, env1, S1, E1, z1.imp fun zs H2 ⟨l1, l2, z2⟩ => ⟨rfl, l2, fun x dx h1 h2 h3 => ?_⟩⟩
    rw [hgV _ _ l2]
    exact z2 x dx h1 h2 h3
end
end Z
namespace Z
open PySem L2
theorem vals_rev : ∀ {vs : List V} {us : List Value}, Vals vs us → Vals vs.reverse us.reverse
  | [], [], _ => .nil
  | v :: vs, u :: us, h => by
    cases h with
    | cons r t =>
      rw [List.reverse_cons, List.reverse_cons]
      exact (vals_rev t).append (.cons r .nil)
theorem rvs_rev {T : Tx} {ρ : List Addr} {H : Hp} : ∀ {ms : List MV} {vs : List V}, RVs T ρ H ms vs → RVs T ρ H ms.reverse vs.reverse
  | [], vs, h => by cases h; rfl
  | m :: ms, vs, h => by
    obtain ⟨y, ys, rfl, h1, h2⟩ := h
    rw [List.reverse_cons, List.reverse_cons]
    exact (rvs_rev h2).append (RVs.one h1)
end Z

namespace Z
open PySem L2

/-! ### the head: facts as tests of the written part, defs by names -/
abbrev Fc := PySem.W.Frag → Bool
def obsZ (fs : List Fc) (fn : List He.DefD) (K : PySem.W.Frag) : He.AlD := ((fs.all (· K)) && (fn.all (·.ok K)), fn.map (He.fnW K ·.at_))
def SaysZ (fs : List Fc) (fn : List He.DefD) (K : PySem.W.Frag) : Prop := obsZ fs fn K = (true, fn.map (He.DefD.val))
def obsZG (n : Nat) (fs : List Fc) (fn : List He.DefD) (g : Addr → Option Obj) : He.AlD := obsZ fs fn (He.frG g (He.asD g n))
def hookZ (n : Nat) (fs : List Fc) (fn : List He.DefD) : PySem.W.Hook where
  α := He.AlD
  obs s := obsZG n fs fn s.heap.get?
  val _ := (true, fn.map (He.DefD.val))
  says _ h := ∃ K : PySem.W.Frag, K.In h ∧ SaysZ fs fn K
  of _ s e := ⟨He.frG s.heap.get? (He.asD s.heap.get? n), He.frG_in, e⟩
  keeps _ _ _ q k := q.elim fun K z => ⟨K, PySem.W.Frag.In.keeps z.1 k, z.2⟩
theorem obsZG_eq {n : Nat} {fs : List Fc} {fn : List He.DefD} {g : Addr → Option Obj} {s : Shared} (h : ∀ a, g a = s.heap.get? a) : (obsZG n fs fn g : (hookZ n fs fn).α) = (hookZ n fs fn).obs s := by
  rw [show g = s.heap.get? from funext h]
  rfl
section
variable {fs : List Fc} {fn : List He.DefD} {K : PySem.W.Frag}
theorem SaysZ.two (c : SaysZ fs fn K) : fs.all (· K) = true ∧ fn.all (·.ok K) = true := by
  have := congrArg (fun z : He.AlD => z.1) c
  exact Bool.and_eq_true_iff.mp this
theorem SaysZ.fc (c : SaysZ fs fn K) (i : Nat) {f : Fc} (h : fs[i]? = some f := by rfl) : f K = true :=
  List.all_eq_true.mp c.two.1 f (List.mem_of_getElem? h)
/-- the function object at a place -/
def fdOf (K : PySem.W.Frag) (p : Str × Option Str) : FuncData := match K.lookup (He.fAd K p) with
  | some ⟨_, _, .func fd, _⟩ => fd
  | _ => PySem.W.fnOf "" "" (defArgs (.Pass ⟨0, 0, 0, 0⟩)) [] (defScope (.Pass ⟨0, 0, 0, 0⟩)) .none .none .none .none none .none .none
theorem SaysZ.fd (c : SaysZ fs fn K) (i : Nat) {d : He.DefD} (h : fn[i]? = some d := by rfl) : FunD K d.name d.qual d.params d.body d.scope (d.dvs K) (d.kws K) (He.fAd K d.at_) (fdOf K d.at_) := by
  have ok : d.ok K = true := List.all_eq_true.mp c.two.2 d (List.mem_of_getElem? h)
  have e := congrArg (fun z : He.AlD => z.2[i]?) c
  have e2 : (fn.map (He.fnW K ·.at_))[i]? = (fn.map (He.DefD.val))[i]? := e
  rw [List.getElem?_map, List.getElem?_map, h] at e2
  obtain ⟨fd, F⟩ := He.DefD.funD (Option.some.inj e2) ok
  have F2 := F.ex
  obtain ⟨oc, od, dV, kV, doc, pm, an, cdv, ct, osl, _, lk, _⟩ := F2
  have : fdOf K d.at_ = fd := by unfold fdOf; rw [lk]
  rw [this]
  exact F
end
/-- .. with what the module's names stand for -/
structure TxtZ (fs : List Fc) (fn : List He.DefD) (K : PySem.W.Frag) (mg : Str → Option Value) : Prop where
  c : SaysZ fs fn K
  g : ∀ x v, PySem.W.nsIn K mainGlobals x = some (some v) → mg x = some v
  n : ∀ x, PySem.W.nsIn K mainGlobals x = some none → mg x = none
theorem txt_of {fs : List Fc} {fn : List He.DefD} {K : PySem.W.Frag} {mg : Str → Option Value} {h : Heap} (X : K.In h) (G : h.Ns mainGlobals mg) (c : SaysZ fs fn K) : TxtZ fs fn K mg :=
  ⟨c, fun _ _ e => PySem.W.mg_of X G e, fun _ e => PySem.W.mg_none_of X G e⟩
/-! the tests -/
def isV (a : Option (Option Value)) (v : Value) : Bool := decide (a = some (some v))
def isA (a : Option (Option Value)) : Bool := decide (a = some none)
def cGlo (x : Str) : Fc := fun K => isV (PySem.W.nsIn K mainGlobals x) (.ref (He.ga K x))
def cBlt (x : Str) (id : String) : Fc := fun K => isV (PySem.W.nsIn K mainGlobals x) (.builtin id)
def cFree (x : Str) : Fc := fun K => isA (PySem.W.nsIn K mainGlobals x)
def cKeep (x : Str) : Fc := fun K => PySem.W.keepIn K (.ref (He.ga K x))
def cNo (x f : Str) : Fc := fun K => isA (PySem.W.findIn K (.ref (He.ga K x)) f)
/-- a class whose instances are laid plainly -/
def cCls (x : Str) : Fc := fun K => PySem.W.plainGet K (He.ga K x) Str.empty && PySem.W.hasDictIn K (He.ga K x) && PySem.W.plainOver K (He.ga K x) && isV (PySem.W.findIn K (.ref (He.ga K x)) "__setattr__") (.builtin "object.__setattr__")
def cMet (x m : Str) : Fc := fun K => isV (PySem.W.findIn K (.ref (He.ga K x)) m) (.ref (He.fAd K (x, some m))) && PySem.W.isFn K (.ref (He.fAd K (x, some m)))
def cMk (x : Str) : Fc := fun K => PySem.W.makesIn K (He.ga K x)
def cSelf (x : Str) : Fc := fun K => PySem.W.selfFirst K (He.ga K x)
def cIns (x : Str) : Fc := fun K => isV (PySem.W.findIn K (.ref (He.ga K x)) "__class__") (.builtin "object.__class__") && decide (PySem.W.specialIn K (.builtin "object.__class__") "__get__" = some (some (.builtin "getset_descriptor.__get__"))) && decide (PySem.W.takesIn K (.builtin "object.__class__") = some true) && decide (PySem.W.mroIn K (He.ga K x) (.type "object") = some true)
def cExc (x : Str) : Fc := fun K => PySem.W.excIn K (He.ga K x) [.type "ValueError", .type "Exception", .type "BaseException", .type "object"] "ValueError.__new__" && decide (PySem.W.subIn K (.ref (He.ga K x)) (.type "BaseException") = some true) && decide (PySem.W.typeIn K (.ref (He.ga K x)) = some (.type "type"))
def cExm (x y : Str) (b : Bool) : Fc := fun K => decide (PySem.W.exmOne K (.ref (He.ga K x)) (.ref (He.ga K y)) = some b)
def cExi (x : Str) : Fc := fun K => isV (PySem.W.findIn K (.ref (He.ga K x)) "__getattribute__") (.builtin "BaseException.__getattribute__") && isA (PySem.W.findIn K (.ref (He.ga K x)) "__getattr__") && decide (PySem.W.subIn K (.ref (He.ga K x)) (.type "BaseException") = some true) && PySem.W.hasDictIn K (He.ga K x) &&
  isV (PySem.W.findIn K (.ref (He.ga K x)) "__class__") (.builtin "object.__class__") && decide (PySem.W.specialIn K (.builtin "object.__class__") "__get__" = some (some (.builtin "getset_descriptor.__get__"))) && decide (PySem.W.takesIn K (.builtin "object.__class__") = some true) && decide (PySem.W.mroIn K (He.ga K x) (.type "object") = some true)
def cKit (x : Str) (y : PySem.W.Frag → Value) (b : Bool) : Fc := fun K => decide (PySem.W.kitOne K (.ref (He.ga K x)) (y K) = some b)
def cKitA (x : Str) (ys : PySem.W.Frag → List Value) (b : Bool) : Fc := fun K => decide (PySem.W.kitAny K (.ref (He.ga K x)) (ys K) = some b)
section
variable {fs : List Fc} {fn : List He.DefD} {K : PySem.W.Frag} {mg : Str → Option Value} {x m f : Str}
theorem isV_ok {a : Option (Option Value)} {v : Value} (h : isV a v = true) : a = some (some v) := of_decide_eq_true h
theorem isA_ok {a : Option (Option Value)} (h : isA a = true) : a = some none := of_decide_eq_true h
theorem and2 {a b : Bool} (h : (a && b) = true) : a = true ∧ b = true := Bool.and_eq_true_iff.mp h
theorem TxtZ.glo (T : TxtZ fs fn K mg) (i : Nat) (h : fs[i]? = some (cGlo x) := by rfl) : mg x = some (.ref (He.ga K x)) := T.g _ _ (isV_ok (T.c.fc i h))
theorem TxtZ.blt {id : String} (T : TxtZ fs fn K mg) (i : Nat) (h : fs[i]? = some (cBlt x id) := by rfl) : mg x = some (.builtin id) := T.g _ _ (isV_ok (T.c.fc i h))
theorem TxtZ.free (T : TxtZ fs fn K mg) (i : Nat) (h : fs[i]? = some (cFree x) := by rfl) : mg x = none := T.n _ (isA_ok (T.c.fc i h))
theorem TxtZ.keep (T : TxtZ fs fn K mg) (i : Nat) (h : fs[i]? = some (cKeep x) := by rfl) : PySem.W.keepIn K (.ref (He.ga K x)) = true := T.c.fc i h
theorem TxtZ.no (T : TxtZ fs fn K mg) (i : Nat) (h : fs[i]? = some (cNo x f) := by rfl) : NoAttr K (He.ga K x) f := isA_ok (T.c.fc i h)
theorem TxtZ.cls (T : TxtZ fs fn K mg) (i : Nat) (h : fs[i]? = some (cCls x) := by rfl) : Cls K (He.ga K x) := by
  obtain ⟨z, h4⟩ := and2 (T.c.fc i h)
  obtain ⟨z, h3⟩ := and2 z
  obtain ⟨h1, h2⟩ := and2 z
  exact ⟨h1, h2, h3, isV_ok h4⟩
theorem TxtZ.met (T : TxtZ fs fn K mg) (i : Nat) (h : fs[i]? = some (cMet x m) := by rfl) : PySem.W.findIn K (.ref (He.ga K x)) m = some (some (.ref (He.fAd K (x, some m)))) ∧ PySem.W.isFn K (.ref (He.fAd K (x, some m))) = true := by
  obtain ⟨h1, h2⟩ := and2 (T.c.fc i h)
  exact ⟨isV_ok h1, h2⟩
theorem TxtZ.make (T : TxtZ fs fn K mg) (i j k : Nat) (h : fs[i]? = some (cMk x) := by rfl) (h2 : fs[j]? = some (cMet x "__init__") := by rfl) (h3 : fs[k]? = some (cKeep x) := by rfl) : Mk K (He.ga K x) (He.fAd K (x, some "__init__")) :=
  ⟨T.c.fc i h, (T.met j h2).1, (T.met j h2).2, T.keep k h3⟩
theorem TxtZ.self (T : TxtZ fs fn K mg) (i : Nat) (h : fs[i]? = some (cSelf x) := by rfl) : PySem.W.selfFirst K (He.ga K x) = true := T.c.fc i h
theorem TxtZ.exc (T : TxtZ fs fn K mg) (i : Nat) (h : fs[i]? = some (cExc x) := by rfl) : PySem.W.excIn K (He.ga K x) [.type "ValueError", .type "Exception", .type "BaseException", .type "object"] "ValueError.__new__" = true ∧ PySem.W.subIn K (.ref (He.ga K x)) (.type "BaseException") = some true ∧ PySem.W.typeIn K (.ref (He.ga K x)) = some (.type "type") := by
  obtain ⟨z, h3⟩ := and2 (T.c.fc i h)
  obtain ⟨h1, h2⟩ := and2 z
  exact ⟨h1, of_decide_eq_true h2, of_decide_eq_true h3⟩
theorem TxtZ.exm {y : Str} {b : Bool} (T : TxtZ fs fn K mg) (i : Nat) (h : fs[i]? = some (cExm x y b) := by rfl) : PySem.W.exmOne K (.ref (He.ga K x)) (.ref (He.ga K y)) = some b := of_decide_eq_true (T.c.fc i h)
theorem TxtZ.exi (T : TxtZ fs fn K mg) (i : Nat) (h : fs[i]? = some (cExi x) := by rfl) : ExcC K (He.ga K x) := by
  obtain ⟨z, h8⟩ := and2 (T.c.fc i h)
  obtain ⟨z, h7⟩ := and2 z
  obtain ⟨z, h6⟩ := and2 z
  obtain ⟨z, h5⟩ := and2 z
  obtain ⟨z, h4⟩ := and2 z
  obtain ⟨z, h3⟩ := and2 z
  obtain ⟨h1, h2⟩ := and2 z
  exact ⟨isV_ok h1, isA_ok h2, of_decide_eq_true h3, h4, isV_ok h5, of_decide_eq_true h6, of_decide_eq_true h7, of_decide_eq_true h8⟩
theorem TxtZ.ins (T : TxtZ fs fn K mg) (i : Nat) (h : fs[i]? = some (cIns x) := by rfl) : InsTy K (He.ga K x) := by
  obtain ⟨z, h4⟩ := and2 (T.c.fc i h)
  obtain ⟨z, h3⟩ := and2 z
  obtain ⟨h1, h2⟩ := and2 z
  exact ⟨isV_ok h1, of_decide_eq_true h2, of_decide_eq_true h3, of_decide_eq_true h4⟩
theorem TxtZ.kit {y : PySem.W.Frag → Value} {b : Bool} (T : TxtZ fs fn K mg) (i : Nat) (h : fs[i]? = some (cKit x y b) := by rfl) : PySem.W.kitOne K (.ref (He.ga K x)) (y K) = some b := of_decide_eq_true (T.c.fc i h)
theorem TxtZ.kitA {ys : PySem.W.Frag → List Value} {b : Bool} (T : TxtZ fs fn K mg) (i : Nat) (h : fs[i]? = some (cKitA x ys b) := by rfl) : PySem.W.kitAny K (.ref (He.ga K x)) (ys K) = some b := of_decide_eq_true (T.c.fc i h)
theorem Df.of {qual nm : Str} {st : Stmt} {f : Addr} {fd : FuncData} {dvs : List V} {kws : List (Str × V)} (F : FunD K nm qual (defArgs st) (defBody st) (defScope st) dvs kws f fd) : Df K qual st f fd := by
  obtain ⟨oc, od, dV, kV, doc, pm, an, cdv, ct, osl, e, lk, hc, _, _⟩ := F.ex
  exact ⟨⟨nm, oc, od, dV, kV, doc, pm, an, cdv, ct, osl, e, lk, hc⟩, F.kp⟩
end
/-- a promise that nothing keeps -/
theorem fn_bad {P : Program} {w : World} {K : PySem.W.Frag} {mg : Str → Option Value} {base : Heap} {T : Tx} {k p : Nat} {f : Addr} {fd : FuncData} {ps : List Str} : FnOk P w K mg base (L2.CX P w) k f fd ps (spM T p fun _ _ => .bad) :=
  ⟨fun _ _ _ _ ⟨_, _, _, _, _, _, h⟩ => h.elim, fun _ _ _ _ _ _ _ _ _ _ _ _ _ ⟨_, _, _, _, _, _, h⟩ => h.elim⟩
theorem hu64 {A : Around} {k : Nat} (hr : Room k A) : A.units + 64 < cLine := hr.units
theorem hu65 {A : Around} {k : Nat} (hr : Room k A) : A.units + 65 < cLine := by have := hr.un; omega
theorem hu2 {A : Around} {k : Nat} (hr : Room k A) : A.in1.in1.units < cLine := by have := hr.un; show A.units + 1 + 1 < cLine; omega
theorem hu0 {A : Around} {k : Nat} (hr : Room k A) : A.units < cLine := by have := hr.un; omega
theorem one_all {α β : Type} {P : α → β → Prop} {c : α} {m : β} (h : P c m) : ∀ q ∈ [(c, m)], P q.1 q.2 := fun q hq => by
  rw [List.mem_singleton.mp hq]; exact h
end Z
namespace Z
open PySem L2
/-- a law's end: exceptions may leave its defs, none leaves the law -/
theorem walk_ofW {l : PySem.W.OpenLaw} {n k : Nat} {q : Program} {loose : List Str} {XP : (Str → Option Value) → Heap → Prop} {YP : World → Heap → Prop} {d : PySem.DefRec} {CX : World → CXT} {x : Str} (hn : l.most = some n) (hn2 : n ≤ sizeLine) (hdf : d.params.defaults = []) (hr : Room k PySem.callerA)
    (F : ∀ (w : World) (mg : Str → Option Value) (fa : Addr) (h : Heap), YP w h → h.Ns mainGlobals mg → mg d.name = some (.ref fa) → ∃ (K : PySem.W.Frag) (fd : FuncData) (sp : Sp), K.In h ∧ (∀ (s : Shared) (u : Value), BindsTo s fd ⟨[u], []⟩ [(x, u)]) ∧
      (∀ (H : Hp) (a : Addr) (ns : List Int), ns.length ≤ n → Only H → SqL K H a (ns.map V.int) → sp [.ref a] H (fun v _ => v = .bl true) fun _ _ _ => False) ∧ ∀ base : Heap, K.In base → base.Ns mainGlobals mg → FnOk l.prog w K mg base (CX w) k fa fd [x] sp)
    (hCX : ∀ (w : World) (H : Hp) (s : Shared) (e : Value) (s' : Shared), CX w [] H s (fun _ _ _ => False) e s' → False) : PySem.W.WalkO q loose XP YP l.row.toRowW d [] (fun f vs => PySem.call f vs) := by
  refine Att.attach_call hn hdf fun w s0 s1 mg mb fa o pm cd doc a vs ns G Y ho hd hcd hmg hobj hints hlen hg => ?_
  have ⟨K, fd, sp, KX, hb, hsp, hF⟩ := F w mg fa _ Y G.T.g hmg
  refine law_call (CX := CX w) KX G.T.g G.T.b G.T.builtins G.T.nolimit hg hobj hints (Nat.le_trans hlen hn2) hr hF hb ?_ ?_
  · exact fun H hO hS => hsp H a ns hlen hO hS
  · exact fun H e s' => hCX w H s1 e s'
/-- the script, as a locked list -/
theorem law_sp {T : Tx} {K : PySem.W.Frag} {H : Hp} {a : Addr} {ns : List Int} {mf : MF} (hK : T.K = K) (hT : T.exc = none) (hS : SqL K H a (ns.map V.int)) (h : ∃ s, mf [.frz (ns.map .int)] [] = .ok (.bl true) s) : spM T 1 mf [.ref a] H (fun v _ => v = .bl true) fun _ _ _ => False := by
  obtain ⟨s, h⟩ := h
  have go : ∀ l : List Int, RVs T [] H (l.map .int) (l.map V.int) := fun l => by
    induction l with
    | nil => rfl
    | cons i l ih => exact ⟨_, _, rfl, rfl, ih⟩
  refine ⟨[], [], [.frz (ns.map .int)], ⟨rfl, .nil, fun c fs cl d a e => ?_, fun i a c e => ?_⟩, ⟨_, [], rfl, ⟨a, _, rfl, ?_, go ns⟩, rfl⟩, rfl, ?_⟩
  · rw [hT] at e; cases e
  · cases e
  · subst hK
    exact hS.imp (fun z => ⟨by simp, z⟩) id
  · rw [h]
    exact fun ρ' H' u F r => r
theorem cx_no {P : Program} (w : World) (H : Hp) (s : Shared) (e : Value) (s' : Shared) (h : L2.CX P w [] H s (fun _ _ _ => False) e s') : False := by
  obtain ⟨_, _, _, _, _, _, _, _, _, _, _, _, z⟩ := h
  exact z
end Z

namespace Z
open PySem L2
/-! ### running a plain reading -/
section
variable {α β : Type} {env : Ev} {s : Sto}
@[simp] theorem ret_run (a : α) : M.ret a s = .ok a s := rfl
@[simp] theorem opt_some (a : α) : M.opt (some a) s = .ok a s := rfl
@[simp] theorem opt_none : M.opt (none : Option α) s = .bad := rfl
@[simp ↓] theorem bnd_run (m : M α) (f : α → M β) : M.bnd m f s = (match m s with | .ok a t => f a t | .ex c fs t => .ex c fs t | .bad => .bad) := rfl
@[simp ↓] theorem mVar_run (i : Nat) : mVar i env s = (match env.getD i none with | some .exc => .bad | some v => .ok v s | none => .bad) := rfl
@[simp ↓] theorem mC_run (v : MV) : mC v env s = .ok v s := rfl
@[simp ↓] theorem mBin_run (f : Sto → MV → MV → Option MV) (ma mb : Ev → M MV) : mBin f ma mb env s = (match ma env s with | .ok x t => (match mb env t with | .ok y u => M.opt (f u x y) u | .ex c fs t => .ex c fs t | .bad => .bad) | .ex c fs t => .ex c fs t | .bad => .bad) := by
  unfold mBin M.bnd
  cases ma env s with
  | ex c fs z => rfl
  | bad => rfl
  | ok x0 t0 =>
    simp only []
    cases mb env t0 with
    | ex c fs z => rfl
    | bad => rfl
    | ok x1 t1 =>
      rfl
@[simp ↓] theorem mUn_run (f : Sto → MV → Option MV) (ma : Ev → M MV) : mUn f ma env s = (match ma env s with | .ok x t => M.opt (f t x) t | .ex c fs t => .ex c fs t | .bad => .bad) := by
  unfold mUn M.bnd
  cases ma env s with
  | ex c fs z => rfl
  | bad => rfl
  | ok x0 t0 =>
    rfl
@[simp ↓] theorem mCmp_run (f : Sto → MV → MV → Option Bool) (ma mb : Ev → M MV) : mCmp f ma mb env s = (match ma env s with | .ok x t => (match mb env t with | .ok y u => M.opt (f u x y) u | .ex c fs t => .ex c fs t | .bad => .bad) | .ex c fs t => .ex c fs t | .bad => .bad) := by
  unfold mCmp M.bnd
  cases ma env s with
  | ex c fs z => rfl
  | bad => rfl
  | ok x0 t0 =>
    simp only []
    cases mb env t0 with
    | ex c fs z => rfl
    | bad => rfl
    | ok x1 t1 =>
      rfl
@[simp ↓] theorem mV_run (m : Ev → M Bool) : mV m env s = (match m env s with | .ok b t => .ok (.bl b) t | .ex c fs t => .ex c fs t | .bad => .bad) := by
  unfold mV M.bnd
  cases m env s with
  | ex c fs z => rfl
  | bad => rfl
  | ok x0 t0 =>
    rfl
@[simp ↓] theorem mAnd_run (m m' : Ev → M Bool) : mAnd m m' env s = (match m env s with | .ok k t => (if k = true then m' env t else .ok false t) | .ex c fs t => .ex c fs t | .bad => .bad) := by
  show M.bnd _ _ _ = _
  unfold M.bnd
  cases m env s with
  | ok k t => cases k <;> rfl
  | ex c fs t => rfl
  | bad => rfl
@[simp ↓] theorem mOr_run (m m' : Ev → M Bool) : mOr m m' env s = (match m env s with | .ok k t => (if k = true then .ok true t else m' env t) | .ex c fs t => .ex c fs t | .bad => .bad) := by
  show M.bnd _ _ _ = _
  unfold M.bnd
  cases m env s with
  | ok k t => cases k <;> rfl
  | ex c fs t => rfl
  | bad => rfl
@[simp ↓] theorem mNot_run (m : Ev → M Bool) : mNot m env s = (match m env s with | .ok k t => .ok (!k) t | .ex c fs t => .ex c fs t | .bad => .bad) := by
  unfold mNot M.bnd
  cases m env s with
  | ex c fs z => rfl
  | bad => rfl
  | ok x0 t0 =>
    rfl
@[simp ↓] theorem mTru_run (ma : Ev → M MV) : mTru ma env s = (match ma env s with | .ok x t => M.opt (truOf t x) t | .ex c fs t => .ex c fs t | .bad => .bad) := by
  unfold mTru M.bnd
  cases ma env s with
  | ex c fs z => rfl
  | bad => rfl
  | ok x0 t0 =>
    rfl
@[simp ↓] theorem mAndV_run (ma mb : Ev → M MV) : mAndV ma mb env s = (match ma env s with | .ok (.bl true) t => mb env t | .ok (.bl false) t => .ok (.bl false) t | .ok _ _ => .bad | .ex c fs t => .ex c fs t | .bad => .bad) := by
  show M.bnd _ _ _ = _
  unfold M.bnd
  cases ma env s with
  | ok k t => cases k with
    | bl b => cases b <;> rfl
    | _ => rfl
  | ex c fs t => rfl
  | bad => rfl
@[simp ↓] theorem mOrV_run (ma mb : Ev → M MV) : mOrV ma mb env s = (match ma env s with | .ok (.bl true) t => .ok (.bl true) t | .ok (.bl false) t => mb env t | .ok _ _ => .bad | .ex c fs t => .ex c fs t | .bad => .bad) := by
  show M.bnd _ _ _ = _
  unfold M.bnd
  cases ma env s with
  | ok k t => cases k with
    | bl b => cases b <;> rfl
    | _ => rfl
  | ex c fs t => rfl
  | bad => rfl
@[simp ↓] theorem mNotV_run (ma : Ev → M MV) : mNotV ma env s = (match ma env s with | .ok (.bl k) t => .ok (.bl !k) t | .ok _ _ => .bad | .ex c fs t => .ex c fs t | .bad => .bad) := by
  show M.bnd _ _ _ = _
  unfold M.bnd
  cases ma env s with
  | ok k t => cases k <;> rfl
  | ex c fs t => rfl
  | bad => rfl
@[simp ↓] theorem mIte_run (m : Ev → M Bool) (ma mb : Ev → M MV) : mIte m ma mb env s = (match m env s with | .ok k t => (if k = true then ma env t else mb env t) | .ex c fs t => .ex c fs t | .bad => .bad) := by
  show M.bnd _ _ _ = _
  unfold M.bnd
  cases m env s with
  | ok k t => cases k <;> rfl
  | ex c fs t => rfl
  | bad => rfl
@[simp ↓] theorem mNil_run : mNil env s = .ok [] s := rfl
@[simp ↓] theorem mCons_run (m : Ev → M MV) (r : Ev → M (List MV)) : mCons m r env s = (match m env s with | .ok x t => (match r env t with | .ok xs u => .ok (x :: xs) u | .ex c fs t => .ex c fs t | .bad => .bad) | .ex c fs t => .ex c fs t | .bad => .bad) := by
  unfold mCons M.bnd
  cases m env s with
  | ex c fs z => rfl
  | bad => rfl
  | ok x0 t0 =>
    simp only []
    cases r env t0 with
    | ex c fs z => rfl
    | bad => rfl
    | ok x1 t1 =>
      rfl
@[simp ↓] theorem mTup_run (as : Ev → M (List MV)) : mTup as env s = (match as env s with | .ok xs t => (if xs.length ≤ line then .ok (.tup xs) t else .bad) | .ex c fs t => .ex c fs t | .bad => .bad) := by
  show M.bnd _ _ _ = _
  unfold M.bnd
  cases as env s with
  | ok xs t => simp only []; split <;> rfl
  | ex c fs t => rfl
  | bad => rfl
@[simp ↓] theorem mLst_run (fr : Bool) (as : Ev → M (List MV)) : mLst fr as env s = (match as env s with | .ok xs t => (if xs.length ≤ line then mkList fr xs t else .bad) | .ex c fs t => .ex c fs t | .bad => .bad) := by
  show M.bnd _ _ _ = _
  unfold M.bnd
  cases as env s with
  | ok xs t => simp only []; split <;> rfl
  | ex c fs t => rfl
  | bad => rfl
@[simp] theorem mkList_t (xs : List MV) : mkList true xs s = .ok (.lst xs) s := rfl
@[simp] theorem mkList_f (xs : List MV) : mkList false xs s = .ok (.ref s.length) (s ++ [.lst xs]) := rfl
@[simp ↓] theorem mIx_run (ma mb : Ev → M MV) : mIx ma mb env s = mBin ixF ma mb env s := rfl
@[simp ↓] theorem mCallF_run (f : Sto → List MV → Option MV) (as : Ev → M (List MV)) : mCallF f as env s = (match as env s with | .ok xs t => M.opt (f t xs) t | .ex c fs t => .ex c fs t | .bad => .bad) := by
  unfold mCallF M.bnd
  cases as env s with
  | ex c fs z => rfl
  | bad => rfl
  | ok x0 t0 =>
    rfl
@[simp ↓] theorem mCallL_run (fr : Bool) (f : Sto → List MV → Option (List MV)) (as : Ev → M (List MV)) : mCallL fr f as env s = (match as env s with | .ok xs t => (match f t xs with | some ys => mkList fr ys t | none => .bad) | .ex c fs t => .ex c fs t | .bad => .bad) := by
  unfold mCallL M.bnd
  cases as env s <;> rfl
@[simp ↓] theorem mCall_run (mf : MF) (as : Ev → M (List MV)) : mCall mf as env s = (match as env s with | .ok xs t => mf xs t | .ex c fs t => .ex c fs t | .bad => .bad) := by
  unfold mCall M.bnd
  cases as env s with
  | ex c fs z => rfl
  | bad => rfl
  | ok x0 t0 =>
    rfl
@[simp ↓] theorem mFld_run (f : Nat) (ma : Ev → M MV) : mFld f ma env s = (match ma env s with | .ok x t => M.opt (fldOf t f x) t | .ex c fs t => .ex c fs t | .bad => .bad) := by
  unfold mFld mUn M.bnd
  cases ma env s with
  | ex c fs z => rfl
  | bad => rfl
  | ok x0 t0 =>
    rfl
@[simp ↓] theorem mMeth_run (cs : List (Nat × MF)) (ma : Ev → M MV) (as : Ev → M (List MV)) : mMeth cs ma as env s = (match ma env s with | .ok x t => (match clsOf t x with | some c => (match cs.lookup c with | some mf => (match as env t with | .ok xs u => mf (x :: xs) u | .ex c fs t => .ex c fs t | .bad => .bad) | none => .bad) | none => .bad) | .ex c fs t => .ex c fs t | .bad => .bad) := by
  unfold mMeth M.bnd
  cases ma env s with
  | ex c fs z => rfl
  | bad => rfl
  | ok x t =>
    simp only []
    cases clsOf t x with
    | none => rfl
    | some c =>
      simp only []
      cases cs.lookup c with
      | none => rfl
      | some mf =>
        simp only []
        cases as env t <;> rfl
@[simp ↓] theorem mBinM_run (g : MV → MV → M MV) (ma mb : Ev → M MV) : mBinM g ma mb env s = (match ma env s with | .ok x t => (match mb env t with | .ok y u => g x y u | .ex c fs t => .ex c fs t | .bad => .bad) | .ex c fs t => .ex c fs t | .bad => .bad) := by
  unfold mBinM M.bnd
  cases ma env s with
  | ex c fs z => rfl
  | bad => rfl
  | ok x0 t0 =>
    simp only []
    cases mb env t0 with
    | ex c fs z => rfl
    | bad => rfl
    | ok x1 t1 =>
      rfl
@[simp ↓] theorem mIsi_run (f : TyM → Option Bool) (ma : Ev → M MV) : mIsi f ma env s = (match ma env s with | .ok x t => (match tyM t x with | some k => M.opt ((f k).map .bl) t | none => .bad) | .ex c fs t => .ex c fs t | .bad => .bad) := by
  unfold mIsi M.bnd
  cases ma env s <;> rfl
@[simp ↓] theorem mBits_run (ma : Ev → M MV) : mBits ma env s = (match ma env s with | .ok (.int i) t => .ok (.int (Builtin.Int.intBits i : Nat)) t | .ok _ _ => .bad | .ex c fs t => .ex c fs t | .bad => .bad) := by
  show M.bnd _ _ _ = _
  unfold M.bnd
  cases ma env s with
  | ok k t => cases k <;> rfl
  | ex c fs t => rfl
  | bad => rfl
@[simp ↓] theorem mFmt_run (ma : Ev → M MV) : mFmt ma env s = (match ma env s with | .ok (.str y) t => (if y.length ≤ line then .ok (.str y) t else .bad) | .ok (.int i) t => (if i.natAbs.log2 < 1920 then .ok (.str (toString i)) t else .bad) | .ok _ _ => .bad | .ex c fs t => .ex c fs t | .bad => .bad) := by
  show M.bnd _ _ _ = _
  unfold M.bnd
  cases ma env s with
  | ok k t => cases k with
    | str y => simp only []; split <;> rfl
    | int y => simp only []; split <;> rfl
    | _ => rfl
  | ex c fs t => rfl
  | bad => rfl
@[simp ↓] theorem mJs_nil (acc : Str) : mJs [] acc env s = .ok (.str acc) s := rfl
@[simp ↓] theorem mJs_cons (m : Ev → M MV) (ms : List (Ev → M MV)) (acc : Str) : mJs (m :: ms) acc env s = (match m env s with | .ok (.str y) t => (if (acc ++ y).length ≤ line then mJs ms (acc ++ y) env t else .bad) | .ok _ _ => .bad | .ex c fs t => .ex c fs t | .bad => .bad) := by
  show M.bnd _ _ _ = _
  unfold M.bnd
  cases m env s with
  | ok k t => cases k with
    | str y => simp only []; split <;> rfl
    | _ => rfl
  | ex c fs t => rfl
  | bad => rfl
@[simp ↓] theorem mKw_run (g : List MV → List MV → List MV) (mf : MF) (as bs : Ev → M (List MV)) : mKw g mf as bs env s = (match as env s with | .ok xs t => (match bs env t with | .ok ys u => noEx (mf (g xs ys) u) | .ex c fs t => .ex c fs t | .bad => .bad) | .ex c fs t => .ex c fs t | .bad => .bad) := by
  unfold mKw M.bnd
  cases as env s with
  | ex c fs z => rfl
  | bad => rfl
  | ok x0 t0 =>
    simp only []
    cases bs env t0 with
    | ex c fs z => rfl
    | bad => rfl
    | ok x1 t1 => rfl
@[simp] theorem noEx_ok (v : MV) : noEx (.ok v s) = .ok v s := rfl
/-! statements -/
@[simp ↓] theorem sSeq_run (a b : MS) : sSeq a b env s = (match a env s with | .nx e t => b e t | .rt v t => .rt v t | .bk e t => .bk e t | .ct e t => .ct e t | .ex e c fs t => .ex e c fs t | .bad => .bad) := rfl
@[simp ↓] theorem sNil_run : sNil env s = .nx env s := rfl
@[simp ↓] theorem sBreak_run : sBreak env s = .bk env s := rfl
@[simp ↓] theorem sCont_run : sCont env s = .ct env s := rfl
@[simp ↓] theorem sAsg_run (i : Nat) (m : Ev → M MV) : sAsg i m env s = (match m env s with | .ok v t => .nx (env.set i (some v)) t | .ex c fs t => .ex env c fs t | .bad => .bad) := by
  unfold sAsg bndS
  cases m env s with
  | ex c fs z => rfl
  | bad => rfl
  | ok x0 t0 =>
    rfl
@[simp ↓] theorem sExpr_run (m : Ev → M MV) : sExpr m env s = (match m env s with | .ok _ t => .nx env t | .ex c fs t => .ex env c fs t | .bad => .bad) := by
  unfold sExpr bndS
  cases m env s with
  | ex c fs z => rfl
  | bad => rfl
  | ok x0 t0 =>
    rfl
@[simp ↓] theorem sRet_run (m : Ev → M MV) : sRet m env s = (match m env s with | .ok v t => .rt v t | .ex c fs t => .ex env c fs t | .bad => .bad) := by
  unfold sRet bndS
  cases m env s with
  | ex c fs z => rfl
  | bad => rfl
  | ok x0 t0 =>
    rfl
@[simp ↓] theorem sRetN_run : sRetN env s = .rt .non s := rfl
@[simp ↓] theorem sIf_run (m : Ev → M Bool) (a b : MS) : sIf m a b env s = (match m env s with | .ok k t => (if k = true then a env t else b env t) | .ex c fs t => .ex env c fs t | .bad => .bad) := by
  unfold sIf bndS
  cases m env s with
  | ex c fs z => rfl
  | bad => rfl
  | ok x0 t0 =>
    rfl
@[simp ↓] theorem sPar_run (i j : Nat) (as : Ev → M (List MV)) : sPar i j as env s = (match as env s with | .ok [v, w] t => .nx ((env.set i (some v)).set j (some w)) t | .ok _ _ => .bad | .ex c fs t => .ex env c fs t | .bad => .bad) := by
  show bndS _ _ _ _ = _
  unfold bndS
  cases as env s with
  | ok xs t => match xs with
    | [] => rfl
    | [_] => rfl
    | [_, _] => rfl
    | _ :: _ :: _ :: _ => rfl
  | ex c fs t => rfl
  | bad => rfl
@[simp ↓] theorem sSub_run (mo mi mv : Ev → M MV) : sSub mo mi mv env s = (match mv env s with | .ok v t => (match mo env t with | .ok o u => (match mi env u with | .ok i w => (match setL o i v w with | some z => .nx env z | none => .bad) | .ex c fs t => .ex env c fs t | .bad => .bad) | .ex c fs t => .ex env c fs t | .bad => .bad) | .ex c fs t => .ex env c fs t | .bad => .bad) := by
  unfold sSub bndS
  cases mv env s with
  | ex c fs z => rfl
  | bad => rfl
  | ok x0 t0 =>
    simp only []
    cases mo env t0 with
    | ex c fs z => rfl
    | bad => rfl
    | ok x1 t1 =>
      simp only []
      cases mi env t1 with
      | ex c fs z => rfl
      | bad => rfl
      | ok x2 t2 =>
        rfl
@[simp ↓] theorem sFldM_run (f : Nat) (mo mv : Ev → M MV) : sFldM f mo mv env s = (match mv env s with | .ok v t => (match mo env t with | .ok o u => (match setFld f o v u with | some z => .nx env z | none => .bad) | .ex c fs t => .ex env c fs t | .bad => .bad) | .ex c fs t => .ex env c fs t | .bad => .bad) := by
  unfold sFldM bndS
  cases mv env s with
  | ex c fs z => rfl
  | bad => rfl
  | ok x0 t0 =>
    simp only []
    cases mo env t0 with
    | ex c fs z => rfl
    | bad => rfl
    | ok x1 t1 =>
      rfl
@[simp ↓] theorem sTg_run (g : MG) (m : Ev → M MV) : sTg g m env s = (match m env s with | .ok v t => (match g v env t with | .ok e u => .nx e u | _ => .bad) | .ex c fs t => .ex env c fs t | .bad => .bad) := by
  unfold sTg bndS
  cases m env s with
  | ex c fs z => rfl
  | bad => rfl
  | ok x0 t0 =>
    rfl
@[simp ↓] theorem sRaise_run (c : Nat) : sRaise c env s = .ex env c [] s := rfl
@[simp ↓] theorem sFor_run (mi : MI) (g : MG) (b : MS) : sFor mi g b env s = (match mi env s with | .ok it t => forL g b it.ok it.xs env t | .ex c fs t => .ex env c fs t | .bad => .bad) := by
  unfold sFor bndS
  cases mi env s with
  | ex c fs z => rfl
  | bad => rfl
  | ok x0 t0 =>
    rfl
@[simp ↓] theorem miRange_run (ma : Ev → M MV) : miRange ma env s = (match ma env s with | .ok (.int j) t => (if small j = true then .ok ⟨intsM 0 j.toNat, fun _ => True⟩ t else .bad) | .ok _ _ => .bad | .ex c fs t => .ex c fs t | .bad => .bad) := by
  show M.bnd _ _ _ = _
  unfold M.bnd
  cases ma env s with
  | ok k t => cases k with
    | int j => simp only []; split <;> rfl
    | _ => rfl
  | ex c fs t => rfl
  | bad => rfl
@[simp ↓] theorem tgName_run (i : Nat) (v : MV) : tgName i v env s = .ok (env.set i (some v)) s := rfl
theorem mFun_run (n : Nat) (mb : MS) (args : List MV) : mFun n mb args s = flowR (mb (args.map some ++ List.replicate (n - args.length) none) s) := rfl
@[simp] theorem flow_rt (v : MV) : flowR (.rt v s) = .ok v s := rfl
@[simp] theorem flow_nx (e : Ev) : flowR (.nx e s) = .ok .non s := rfl
@[simp] theorem flow_ex (e : Ev) (c : Nat) (fs : List (Nat × MV)) : flowR (.ex e c fs s) = .ex c fs s := rfl
@[simp] theorem flow_bad : flowR .bad = .bad := rfl
theorem for_T_nil (g : MG) (b : MS) : forL g b (fun _ => True) [] env s = .nx env s := for_nil trivial
theorem for_T_cons (g : MG) (b : MS) (x : MV) (r : List MV) : forL g b (fun _ => True) (x :: r) env s = (match g x env s with
    | .ok e t => (match b e t with
      | .nx e u => forL g b (fun _ => True) r e u
      | .ct e u => forL g b (fun _ => True) r e u
      | .bk e u => .nx e u
      | .rt v u => .rt v u
      | .ex e c fs u => .ex e c fs u
      | .bad => .bad)
    | .ex c fs t => .bad
    | .bad => .bad) := by
  conv => lhs; unfold forL
  simp only [if_true]
  cases g x env s with
  | ex c fs z => rfl
  | bad => rfl
  | ok e t =>
    simp only []
    all_goals (cases b e t <;> rfl)
/-! data -/
@[simp] theorem bAdd_i (i j : Int) : bAdd s (.int i) (.int j) = some (.int (i + j)) := rfl
@[simp] theorem bSub_i (i j : Int) : bSub s (.int i) (.int j) = some (.int (i - j)) := rfl
theorem bMul_i {i j : Int} (h : i.natAbs.log2 + j.natAbs.log2 < 1000000) : bMul s (.int i) (.int j) = some (.int (i * j)) := by
  show (if mulOk i j = true then some (MV.int (i * j)) else none) = _
  have e : mulOk i j = true := decide_eq_true h
  rw [if_pos e]
theorem bDiv_i {i j : Int} (h : 0 < j) (h2 : j.natAbs.log2 < 9000) : bDiv s (.int i) (.int j) = some (.int (i / j)) := by
  have e : divOk j = true := decide_eq_true ⟨h, h2⟩
  unfold bDiv
  simp only [e, if_true]
theorem bMod_i {i j : Int} (h : 0 < j) : bMod s (.int i) (.int j) = some (.int (i % j)) := by
  show (if 0 < j then _ else _) = _
  rw [if_pos h]
@[simp] theorem cLt_i (i j : Int) : cLt s (.int i) (.int j) = some (decide (i < j)) := rfl
@[simp] theorem cLe_i (i j : Int) : cLe s (.int i) (.int j) = some (decide (i ≤ j)) := rfl
@[simp] theorem cGt_i (i j : Int) : cGt s (.int i) (.int j) = some (decide (j < i)) := rfl
@[simp] theorem cGe_i (i j : Int) : cGe s (.int i) (.int j) = some (decide (j ≤ i)) := rfl
@[simp] theorem cEq_i (i j : Int) : cEq s (.int i) (.int j) = some (decide (i = j)) := rfl
@[simp] theorem cEq_b (i j : Bool) : cEq s (.bl i) (.bl j) = some (i == j) := rfl
@[simp] theorem cEq_s (i j : Str) : cEq s (.str i) (.str j) = some (decide (i = j)) := rfl
@[simp] theorem cNe_b (i j : Bool) : cNe s (.bl i) (.bl j) = some (!(i == j)) := rfl
@[simp] theorem cNe_i (i j : Int) : cNe s (.int i) (.int j) = some (!decide (i = j)) := rfl
@[simp] theorem cIs_n (x : MV) : cIs s x .non = some (isN x) := rfl
@[simp] theorem tru_b (b : Bool) : truOf s (.bl b) = some b := rfl
@[simp] theorem fInt_i (i : Int) : fInt s [.int i] = some (.int i) := rfl
@[simp] theorem fInt_b (b : Bool) : fInt s [.bl b] = some (.int (if b then 1 else 0)) := rfl
@[simp] theorem fAbs_i (i : Int) : fAbs s [.int i] = some (.int i.natAbs) := rfl
@[simp] theorem fGcd_i (i j : Int) : fGcd s [.int i, .int j] = some (.int (Nat.gcd i.natAbs j.natAbs : Nat)) := rfl
theorem atI_n {α : Type} (xs : List α) (n : Nat) : atI xs (n : Int) = xs[n]? := by
  unfold atI ixN
  rw [if_pos (Int.natCast_nonneg n)]
  by_cases h : n < xs.length
  · have h' : (n : Int) < (xs.length : Int) := by omega
    rw [if_pos h']; simp
  · have h' : ¬ (n : Int) < (xs.length : Int) := by omega
    rw [if_neg h', List.getElem?_eq_none (by omega)]; rfl
@[simp] theorem ix_t0 (x : MV) (xs : List MV) : ixF s (.tup (x :: xs)) (.int 0) = some x := atI_n (x :: xs) 0
@[simp] theorem ix_t1 (x y : MV) (xs : List MV) : ixF s (.tup (x :: y :: xs)) (.int 1) = some y := atI_n (x :: y :: xs) 1
@[simp] theorem ix_t2 (x y z : MV) (xs : List MV) : ixF s (.tup (x :: y :: z :: xs)) (.int 2) = some z := atI_n (x :: y :: z :: xs) 2
@[simp] theorem ix_l0 (x : MV) (xs : List MV) : ixF s (.lst (x :: xs)) (.int 0) = some x := atI_n (x :: xs) 0
@[simp] theorem ix_l1 (x y : MV) (xs : List MV) : ixF s (.lst (x :: y :: xs)) (.int 1) = some y := atI_n (x :: y :: xs) 1
end
end Z

namespace Z
open PySem L2
/-! ### sizes -/
abbrev nb (x : Int) : Nat := Builtin.Int.intBits x
theorem nb_lt {m : Nat} {x : Int} (h : x.natAbs < 2 ^ m) : nb x ≤ m := PySem.intBits_le_iff.mpr h
theorem lt_nb {m : Nat} {x : Int} (h : nb x ≤ m) : x.natAbs < 2 ^ m := PySem.intBits_le_iff.mp h
theorem log_nb (x : Int) : x.natAbs.log2 ≤ nb x := by
  unfold nb Builtin.Int.intBits
  split
  · rename_i h; have : x = 0 := by simpa using h
    subst this; decide
  · omega
theorem nb_log {m : Nat} {x : Int} (h : nb x ≤ m) : x.natAbs.log2 ≤ m := Nat.le_trans (log_nb x) h
theorem nb_mono {m n : Nat} {x : Int} (h : nb x ≤ m) (hm : m ≤ n) : nb x ≤ n := Nat.le_trans h hm
theorem nb_abs {x y : Int} {m : Nat} (h : x.natAbs ≤ y.natAbs) (hy : nb y ≤ m) : nb x ≤ m := nb_lt (Nat.lt_of_le_of_lt h (lt_nb hy))
theorem nb_mul {x y : Int} {m n : Nat} (hx : nb x ≤ m) (hy : nb y ≤ n) : nb (x * y) ≤ m + n := nb_lt (by
  rw [Int.natAbs_mul, Nat.pow_add]
  exact Nat.mul_lt_mul'' (lt_nb hx) (lt_nb hy))
theorem nb_add {x y : Int} {m n : Nat} (hx : nb x ≤ m) (hy : nb y ≤ n) : nb (x + y) ≤ max m n + 1 := nb_lt (by
  have h1 := lt_nb (nb_mono hx (Nat.le_max_left m n))
  have h2 := lt_nb (nb_mono hy (Nat.le_max_right m n))
  rw [Nat.pow_succ]
  have := Int.natAbs_add_le x y
  omega)
theorem nb_neg {x : Int} {m : Nat} (h : nb x ≤ m) : nb (-x) ≤ m := nb_abs (by omega) h
theorem nb_sub {x y : Int} {m n : Nat} (hx : nb x ≤ m) (hy : nb y ≤ n) : nb (x - y) ≤ max m n + 1 := by
  rw [Int.sub_eq_add_neg]; exact nb_add hx (nb_neg hy)
theorem nb_div {x y : Int} {m : Nat} (hx : nb x ≤ m) (hy : 0 < y) : nb (x / y) ≤ m := nb_abs (by
  rcases Int.lt_or_le x 0 with h | h
  · have h1 : x ≤ x / y := by
      have := Int.le_ediv_of_mul_le hy (show x * y ≤ x by
        have h2 : 1 ≤ y := by omega
        have h3 : (-x) * 1 ≤ (-x) * y := Int.mul_le_mul_of_nonneg_left h2 (by omega)
        have h4 : (-x) * y = -(x * y) := Int.neg_mul x y
        omega)
      exact this
    have h2 : x / y < 0 := Int.ediv_neg_of_neg_of_pos h hy
    omega
  · have h1 : x / y ≤ x := Int.ediv_le_self y h
    have h2 : 0 ≤ x / y := Int.ediv_nonneg h (by omega)
    omega) hx
section
variable {s : Sto} {x y : Int} {m n : Nat}
theorem mulS (hx : nb x ≤ m) (hy : nb y ≤ n) (h : m + n < 1000000) : bMul s (.int x) (.int y) = some (.int (x * y)) := bMul_i (by
  have := nb_log hx
  have := nb_log hy
  omega)
theorem divS (h : 0 < y) (hy : nb y ≤ m) (hm : m < 9000) : bDiv s (.int x) (.int y) = some (.int (x / y)) := bDiv_i h (by
  have := nb_log hy
  omega)
end
end Z

namespace K00
open PySem L2 Z
def top (i : Nat) : Stmt := PySem.Challenge.pw_stillframe_k00_fractions.main.body.getD i (.Pass ⟨0, 0, 0, 0⟩)
abbrev s_ulaw_pool : Stmt := (top 14)
abbrev at_ulaw_pool : Str × Option Str := (("_law_pool" : Str), (none : Option Str))
def d_ulaw_pool : He.DefD := ⟨at_ulaw_pool, "_law_pool", "_law_pool", defArgs s_ulaw_pool, defBody s_ulaw_pool, defScope s_ulaw_pool, [], []⟩
abbrev s_ulaw_draw : Stmt := (top 15)
abbrev at_ulaw_draw : Str × Option Str := (("_law_draw" : Str), (none : Option Str))
def d_ulaw_draw : He.DefD := ⟨at_ulaw_draw, "_law_draw", "_law_draw", defArgs s_ulaw_draw, defBody s_ulaw_draw, defScope s_ulaw_draw, [], []⟩
abbrev s_ulaw_pair : Stmt := (top 25)
abbrev at_ulaw_pair : Str × Option Str := (("_law_pair" : Str), (none : Option Str))
def d_ulaw_pair : He.DefD := ⟨at_ulaw_pair, "_law_pair", "_law_pair", defArgs s_ulaw_pair, defBody s_ulaw_pair, defScope s_ulaw_pair, [], []⟩
abbrev s_Ratio___init__ : Stmt := (inClass (top 12) 0)
abbrev at_Ratio___init__ : Str × Option Str := (("Ratio" : Str), some ("__init__" : Str))
def d_Ratio___init__ : He.DefD := ⟨at_Ratio___init__, "__init__", "Ratio.__init__", defArgs s_Ratio___init__, defBody s_Ratio___init__, defScope s_Ratio___init__, [.int 1], []⟩
abbrev s_ulaw_gcd : Stmt := (top 17)
abbrev at_ulaw_gcd : Str × Option Str := (("_law_gcd" : Str), (none : Option Str))
def d_ulaw_gcd : He.DefD := ⟨at_ulaw_gcd, "_law_gcd", "_law_gcd", defArgs s_ulaw_gcd, defBody s_ulaw_gcd, defScope s_ulaw_gcd, [], []⟩
abbrev s_ulaw_less : Stmt := (top 18)
abbrev at_ulaw_less : Str × Option Str := (("_law_less" : Str), (none : Option Str))
def d_ulaw_less : He.DefD := ⟨at_ulaw_less, "_law_less", "_law_less", defArgs s_ulaw_less, defBody s_ulaw_less, defScope s_ulaw_less, [], []⟩
abbrev s_ulaw_same : Stmt := (top 16)
abbrev at_ulaw_same : Str × Option Str := (("_law_same" : Str), (none : Option Str))
def d_ulaw_same : He.DefD := ⟨at_ulaw_same, "_law_same", "_law_same", defArgs s_ulaw_same, defBody s_ulaw_same, defScope s_ulaw_same, [], []⟩
abbrev s_ulaw_is : Stmt := (top 23)
abbrev at_ulaw_is : Str × Option Str := (("_law_is" : Str), (none : Option Str))
def d_ulaw_is : He.DefD := ⟨at_ulaw_is, "_law_is", "_law_is", defArgs s_ulaw_is, defBody s_ulaw_is, defScope s_ulaw_is, [], []⟩
abbrev s_Ratio___str__ : Stmt := (inClass (top 12) 5)
abbrev at_Ratio___str__ : Str × Option Str := (("Ratio" : Str), some ("__str__" : Str))
def d_Ratio___str__ : He.DefD := ⟨at_Ratio___str__, "__str__", "Ratio.__str__", defArgs s_Ratio___str__, defBody s_Ratio___str__, defScope s_Ratio___str__, [], []⟩
abbrev s_ulaw_plus : Stmt := (top 19)
abbrev at_ulaw_plus : Str × Option Str := (("_law_plus" : Str), (none : Option Str))
def d_ulaw_plus : He.DefD := ⟨at_ulaw_plus, "_law_plus", "_law_plus", defArgs s_ulaw_plus, defBody s_ulaw_plus, defScope s_ulaw_plus, [], []⟩
abbrev s_Ratio___add__ : Stmt := (inClass (top 12) 2)
abbrev at_Ratio___add__ : Str × Option Str := (("Ratio" : Str), some ("__add__" : Str))
def d_Ratio___add__ : He.DefD := ⟨at_Ratio___add__, "__add__", "Ratio.__add__", defArgs s_Ratio___add__, defBody s_Ratio___add__, defScope s_Ratio___add__, [], []⟩
abbrev s_ulaw_minus : Stmt := (top 20)
abbrev at_ulaw_minus : Str × Option Str := (("_law_minus" : Str), (none : Option Str))
def d_ulaw_minus : He.DefD := ⟨at_ulaw_minus, "_law_minus", "_law_minus", defArgs s_ulaw_minus, defBody s_ulaw_minus, defScope s_ulaw_minus, [], []⟩
abbrev s_Ratio___sub__ : Stmt := (inClass (top 12) 3)
abbrev at_Ratio___sub__ : Str × Option Str := (("Ratio" : Str), some ("__sub__" : Str))
def d_Ratio___sub__ : He.DefD := ⟨at_Ratio___sub__, "__sub__", "Ratio.__sub__", defArgs s_Ratio___sub__, defBody s_Ratio___sub__, defScope s_Ratio___sub__, [], []⟩
abbrev s_ulaw_times : Stmt := (top 21)
abbrev at_ulaw_times : Str × Option Str := (("_law_times" : Str), (none : Option Str))
def d_ulaw_times : He.DefD := ⟨at_ulaw_times, "_law_times", "_law_times", defArgs s_ulaw_times, defBody s_ulaw_times, defScope s_ulaw_times, [], []⟩
abbrev s_Ratio___mul__ : Stmt := (inClass (top 12) 4)
abbrev at_Ratio___mul__ : Str × Option Str := (("Ratio" : Str), some ("__mul__" : Str))
def d_Ratio___mul__ : He.DefD := ⟨at_Ratio___mul__, "__mul__", "Ratio.__mul__", defArgs s_Ratio___mul__, defBody s_Ratio___mul__, defScope s_Ratio___mul__, [], []⟩
abbrev s_ulaw_below : Stmt := (top 22)
abbrev at_ulaw_below : Str × Option Str := (("_law_below" : Str), (none : Option Str))
def d_ulaw_below : He.DefD := ⟨at_ulaw_below, "_law_below", "_law_below", defArgs s_ulaw_below, defBody s_ulaw_below, defScope s_ulaw_below, [], []⟩
abbrev s_Ratio_less : Stmt := (inClass (top 12) 6)
abbrev at_Ratio_less : Str × Option Str := (("Ratio" : Str), some ("less" : Str))
def d_Ratio_less : He.DefD := ⟨at_Ratio_less, "less", "Ratio.less", defArgs s_Ratio_less, defBody s_Ratio_less, defScope s_Ratio_less, [], []⟩
abbrev s_Ratio___eq__ : Stmt := (inClass (top 12) 1)
abbrev at_Ratio___eq__ : Str × Option Str := (("Ratio" : Str), some ("__eq__" : Str))
def d_Ratio___eq__ : He.DefD := ⟨at_Ratio___eq__, "__eq__", "Ratio.__eq__", defArgs s_Ratio___eq__, defBody s_Ratio___eq__, defScope s_Ratio___eq__, [], []⟩
abbrev s_Ratio_over : Stmt := (inClass (top 12) 7)
abbrev at_Ratio_over : Str × Option Str := (("Ratio" : Str), some ("over" : Str))
def d_Ratio_over : He.DefD := ⟨at_Ratio_over, "over", "Ratio.over", defArgs s_Ratio_over, defBody s_Ratio_over, defScope s_Ratio_over, [], []⟩
abbrev s_ulaw_refused : Stmt := (top 24)
abbrev at_ulaw_refused : Str × Option Str := (("_law_refused" : Str), (none : Option Str))
def d_ulaw_refused : He.DefD := ⟨at_ulaw_refused, "_law_refused", "_law_refused", defArgs s_ulaw_refused, defBody s_ulaw_refused, defScope s_ulaw_refused, [], []⟩
abbrev s_law : Stmt := (top 26)
abbrev at_law : Str × Option Str := (("law" : Str), (none : Option Str))
def d_law : He.DefD := ⟨at_law, "law", "law", defArgs s_law, defBody s_law, defScope s_law, [], []⟩
def fn : List He.DefD := [d_ulaw_pool, d_ulaw_draw, d_ulaw_pair, d_Ratio___init__, d_ulaw_gcd, d_ulaw_less, d_ulaw_same, d_ulaw_is, d_Ratio___str__, d_ulaw_plus, d_Ratio___add__, d_ulaw_minus, d_Ratio___sub__, d_ulaw_times, d_Ratio___mul__, d_ulaw_below, d_Ratio_less, d_Ratio___eq__, d_Ratio_over, d_ulaw_refused, d_law]
def facts : List Fc := [cFree ("list" : Str),
  cGlo ("_law_pool" : Str),
  cFree ("range" : Str),
  cFree ("len" : Str),
  cFree ("int" : Str),
  cGlo ("_law_draw" : Str),
  cGlo ("_law_pair" : Str),
  cExc ("BadRatio" : Str),
  cGlo ("BadRatio" : Str),
  cKeep ("BadRatio" : Str),
  cBlt ("gcd" : Str) "math.gcd",
  cMk ("Ratio" : Str),
  cMet ("Ratio" : Str) ("__init__" : Str),
  cKeep ("Ratio" : Str),
  cGlo ("Ratio" : Str),
  cFree ("abs" : Str),
  cGlo ("_law_gcd" : Str),
  cGlo ("_law_less" : Str),
  cFree ("str" : Str),
  cFree ("isinstance" : Str),
  cKit ("Ratio" : Str) (fun K => .ref (He.ga K ("Ratio" : Str))) true,
  cFree ("tuple" : Str),
  cGlo ("_law_same" : Str),
  cFree ("bool" : Str),
  cGlo ("_law_is" : Str),
  cMet ("Ratio" : Str) ("__str__" : Str),
  cSelf ("Ratio" : Str),
  cGlo ("_law_plus" : Str),
  cMet ("Ratio" : Str) ("__add__" : Str),
  cGlo ("_law_minus" : Str),
  cMet ("Ratio" : Str) ("__sub__" : Str),
  cGlo ("_law_times" : Str),
  cMet ("Ratio" : Str) ("__mul__" : Str),
  cGlo ("_law_below" : Str),
  cMet ("Ratio" : Str) ("less" : Str),
  cMet ("Ratio" : Str) ("__eq__" : Str),
  cMet ("Ratio" : Str) ("over" : Str),
  cGlo ("BadDeed" : Str),
  cGlo ("BadFrame" : Str),
  cGlo ("BadLoad" : Str),
  cGlo ("BadPaper" : Str),
  cGlo ("BadPlan" : Str),
  cGlo ("BadText" : Str),
  cKitA ("BadRatio" : Str) (fun K => [(.ref (He.ga K ("BadDeed" : Str))), (.ref (He.ga K ("BadFrame" : Str))), (.ref (He.ga K ("BadLoad" : Str))), (.ref (He.ga K ("BadPaper" : Str))), (.ref (He.ga K ("BadPlan" : Str))), (.ref (He.ga K ("BadText" : Str)))]) false,
  cKit ("BadRatio" : Str) (fun K => (.ref (He.ga K ("BadRatio" : Str)))) true,
  cFree ("ValueError" : Str),
  cKit ("BadRatio" : Str) (fun K => (.type "ValueError")) true,
  cExm ("BadRatio" : Str) ("FrameError" : Str) true,
  cGlo ("FrameError" : Str),
  cGlo ("_law_refused" : Str),
  cCls ("Ratio" : Str),
  cNo ("Ratio" : Str) ("num" : Str),
  cNo ("Ratio" : Str) ("den" : Str),
  cIns ("Ratio" : Str),
  cExi ("BadRatio" : Str),
  cGlo ("law" : Str)]
def clsNm : Nat → Str
  | 0 => "FrameError"
  | 1 => "BadText"
  | 2 => "BadFrame"
  | 3 => "BadPlan"
  | 4 => "BadLoad"
  | 5 => "BadPaper"
  | 6 => "BadDeed"
  | 7 => "BadRatio"
  | 20 => "Ratio"
  | _ => ""
def tx (K : PySem.W.Frag) : Tx := { K := K, cls := fun n => He.ga K (clsNm n), has := fun n => [20].contains n, hasX := fun n => [7].contains n, fnA := fun _ => 0, exc := none }
abbrev TT (K : PySem.W.Frag) (mg : Str → Option Value) : Prop := TxtZ facts fn K mg
/-! ### the plain readings -/
def kw_Ratio_1_den_g {α : Type} (vs zs : List α) : List α := vs ++ zs
def kw_Ratio_0_den_num_g {α : Type} (vs zs : List α) : List α := vs ++ zs.reverse
noncomputable def m_ulaw_pool : MF := mFun 2 (sRet (mLst false (mCons (mCallL true fList (mCons (mVar 0) mNil)) (mCons (mC (.int 0)) (mCons (mC (.int 0)) (mCons (mC (.int 1)) (mCons (mC (.int 0)) (mCons (mVar 1) mNil))))))))
noncomputable def m_ulaw_draw : MF := mFun 4 (sSeq (sIf (mAnd (mCmp cLe (mIx (mVar 0) (mC (.int 2))) (mC (.int 0))) (mAnd (mCmp cLe (mIx (mVar 0) (mC (.int 4))) (mC (.int 0))) (mCmp cLt (mIx (mVar 0) (mC (.int 1))) (mCallF fLen (mCons (mIx (mVar 0) (mC (.int 0))) mNil))))) (sSeq (sAsg 2 (mIx (mIx (mVar 0) (mC (.int 0))) (mIx (mVar 0) (mC (.int 1)))))
    (sSeq (sSub (mVar 0) (mC (.int 1)) (mBin bAdd (mIx (mVar 0) (mC (.int 1))) (mC (.int 1))))
    (sSeq (sSub (mVar 0) (mC (.int 3)) (mBin bMod (mCallF fInt (mCons (mBin bAdd (mBin bMul (mIx (mVar 0) (mC (.int 3))) (mC (.int 31))) (mVar 2)) mNil)) (mC (.int 2147483647))))
    (sSeq (sSub (mVar 0) (mC (.int 4)) (mC (.int 7)))
    (sIf (mCmp cGe (mVar 2) (mBin bPow (mC (.int 10)) (mC (.int 18)))) (sSub (mVar 0) (mC (.int 2)) (mVar 2)) sNil))))) sNil)
    (sSeq (sIf (mCmp cGt (mIx (mVar 0) (mC (.int 2))) (mC (.int 0))) (sSeq (sAsg 3 (mBin bMod (mCallF fInt (mCons (mIx (mVar 0) (mC (.int 2))) mNil)) (mVar 1)))
    (sSeq (sSub (mVar 0) (mC (.int 2)) (mBin bDiv (mIx (mVar 0) (mC (.int 2))) (mVar 1)))
    (sSeq (sSub (mVar 0) (mC (.int 4)) (mC (.int 0)))
    (sRet (mVar 3))))) sNil)
    (sSeq (sSub (mVar 0) (mC (.int 4)) (mBin bSub (mIx (mVar 0) (mC (.int 4))) (mC (.int 1))))
    (sSeq (sSub (mVar 0) (mC (.int 3)) (mBin bMod (mCallF fInt (mCons (mBin bAdd (mBin bMul (mIx (mVar 0) (mC (.int 3))) (mC (.int 48271))) (mC (.int 12345))) mNil)) (mC (.int 2147483647))))
    (sRet (mBin bMod (mBin bMod (mCallF fInt (mCons (mBin bAdd (mBin bMul (mIx (mVar 0) (mC (.int 3))) (mC (.int 69621))) (mC (.int 7919))) mNil)) (mC (.int 2147483647))) (mVar 1)))))))
noncomputable def m_ulaw_pair : MF := mFun 5 (sSeq (sIf (mCmp cEq (mCall m_ulaw_draw (mCons (mVar 0) (mCons (mC (.int 12)) mNil))) (mC (.int 0))) (sSeq (sAsg 1 (mC (.int 1)))
    (sSeq (sAsg 2 (mC (.int 1)))
    (sSeq (sFor (miRange (mCall m_ulaw_draw (mCons (mVar 0) (mCons (mC (.int 284)) mNil)))) (tgName 3) (sPar 1 2 (mCons (mVar 2) (mCons (mBin bAdd (mVar 1) (mVar 2)) mNil))))
    (sRet (mTup (mCons (mIx (mTup (mCons (mVar 1) (mCons (mBin bSub (mC (.int 0)) (mVar 1)) (mCons (mBin bMul (mVar 2) (mC (.int 7))) mNil)))) (mCall m_ulaw_draw (mCons (mVar 0) (mCons (mC (.int 3)) mNil)))) (mCons (mVar 2) mNil))))))) sNil)
    (sSeq (sAsg 4 (mBin bSub (mCall m_ulaw_draw (mCons (mVar 0) (mCons (mC (.int 2000001)) mNil))) (mC (.int 1000000))))
    (sRet (mTup (mCons (mIx (mTup (mCons (mVar 4) (mCons (mBin bSub (mCall m_ulaw_draw (mCons (mVar 0) (mCons (mC (.int 9)) mNil))) (mC (.int 4))) (mCons (mC (.int 0)) mNil)))) (mCall m_ulaw_draw (mCons (mVar 0) (mCons (mC (.int 3)) mNil)))) (mCons (mBin bAdd (mC (.int 1)) (mIx (mTup (mCons (mCall m_ulaw_draw (mCons (mVar 0) (mCons (mC (.int 1000)) mNil))) (mCons (mCall m_ulaw_draw (mCons (mVar 0) (mCons (mC (.int 6)) mNil))) mNil))) (mCall m_ulaw_draw (mCons (mVar 0) (mCons (mC (.int 2)) mNil))))) mNil))))))
noncomputable def m_Ratio___init__ : MF := mFun 4 (sSeq (sIf (mCmp cLt (mVar 2) (mC (.int 1))) (sRaise 7) sNil)
    (sSeq (sAsg 3 (mCallF fGcd (mCons (mVar 1) (mCons (mVar 2) mNil))))
    (sSeq (sFldM 2 (mVar 0) (mBin bDiv (mVar 1) (mVar 3)))
    (sFldM 3 (mVar 0) (mBin bDiv (mVar 2) (mVar 3))))))
noncomputable def m_ulaw_gcd : MF := mFun 5 (sSeq (sAsg 2 (mCallF fAbs (mCons (mVar 0) mNil)))
    (sSeq (sAsg 3 (mCallF fAbs (mCons (mVar 1) mNil)))
    (sSeq (sFor (miRange (mBin bAdd (mC (.int 4000)) (mBin bMul (mC (.int 2)) (mBits (mVar 3))))) (tgName 4) (sSeq (sIf (mCmp cEq (mVar 3) (mC (.int 0))) sBreak sNil)
    (sPar 2 3 (mCons (mVar 3) (mCons (mBin bMod (mCallF fInt (mCons (mVar 2) mNil)) (mVar 3)) mNil)))))
    (sRet (mVar 2)))))
noncomputable def m_ulaw_less : MF := mFun 3 (sSeq (sIf (mCmp cEq (mVar 0) (mC (.int 0))) (sRet (mTup (mCons (mC (.int 0)) (mCons (mC (.int 1)) mNil)))) sNil)
    (sSeq (sAsg 2 (mCall m_ulaw_gcd (mCons (mVar 0) (mCons (mVar 1) mNil))))
    (sRet (mTup (mCons (mBin bDiv (mVar 0) (mVar 2)) (mCons (mBin bDiv (mVar 1) (mVar 2)) mNil))))))
noncomputable def m_ulaw_same : Nat → MF
  | 0 => fun _ _ => .bad
  | n + 1 => mFun 3 (sSeq (sIf (mOr (mTru (mIsi isTup (mVar 1))) (mTru (mIsi isLst (mVar 1)))) (sSeq (sIf (mOr (mCmp cNe (mIsi isTup (mVar 1)) (mIsi isTup (mVar 0))) (mCmp cNe (mIsi isLst (mVar 1)) (mIsi isLst (mVar 0)))) (sRet (mC (.bl false))) sNil)
    (sSeq (sIf (mCmp cNe (mCallF fLen (mCons (mVar 0) mNil)) (mCallF fLen (mCons (mVar 1) mNil))) (sRet (mC (.bl false))) sNil)
    (sSeq (sFor (miRange (mCallF fLen (mCons (mVar 1) mNil))) (tgName 2) (sIf (mNot (mTru (mCall (m_ulaw_same n) (mCons (mIx (mVar 0) (mVar 2)) (mCons (mIx (mVar 1) (mVar 2)) mNil))))) (sRet (mC (.bl false))) sNil))
    (sRet (mC (.bl true)))))) sNil)
    (sSeq (sIf (mOr (mCmp cIs (mVar 1) (mC .non)) (mTru (mIsi isBl (mVar 1)))) (sRet (mAndV (mV (mCmp cEq (mV (mCmp cIs (mVar 0) (mC .non))) (mV (mCmp cIs (mVar 1) (mC .non))))) (mAndV (mOrV (mV (mCmp cIs (mVar 1) (mC .non))) (mIsi isBl (mVar 0))) (mV (mCmp cEq (mVar 0) (mVar 1)))))) sNil)
    (sSeq (sIf (mTru (mIsi isInt (mVar 1))) (sRet (mAndV (mIsi isInt (mVar 0)) (mAndV (mNotV (mIsi isBl (mVar 0))) (mV (mCmp cEq (mVar 0) (mVar 1)))))) sNil)
    (sRet (mAndV (mIsi isStr (mVar 0)) (mV (mCmp cEq (mVar 0) (mVar 1))))))))
noncomputable def m_ulaw_is : MF := mFun 2 (sRet (mAndV (mIsi (isOwn 20) (mVar 0)) (mCall (m_ulaw_same 3) (mCons (mLst true (mCons (mFld 2 (mVar 0)) (mCons (mFld 3 (mVar 0)) mNil))) (mCons (mCallL true fList (mCons (mVar 1) mNil)) mNil)))))
noncomputable def m_Ratio___str__ : MF := mFun 1 (sSeq (sIf (mCmp cEq (mFld 3 (mVar 0)) (mC (.int 1))) (sRet (mCall (strM []) (mCons (mFld 2 (mVar 0)) mNil))) sNil)
    (sRet (mJs [(mFmt (mFld 2 (mVar 0))), (mC (.str ("/" : Str))), (mFmt (mFld 3 (mVar 0)))] Str.empty)))
noncomputable def m_ulaw_plus : MF := mFun 2 (sSeq (sIf (mCmp cEq (mIx (mVar 0) (mC (.int 0))) (mC (.int 0))) (sRet (mVar 1)) sNil)
    (sSeq (sIf (mCmp cEq (mIx (mVar 1) (mC (.int 0))) (mC (.int 0))) (sRet (mVar 0)) sNil)
    (sRet (mCall m_ulaw_less (mCons (mBin bAdd (mBin bMul (mIx (mVar 0) (mC (.int 0))) (mIx (mVar 1) (mC (.int 1)))) (mBin bMul (mIx (mVar 1) (mC (.int 0))) (mIx (mVar 0) (mC (.int 1))))) (mCons (mBin bMul (mIx (mVar 0) (mC (.int 1))) (mIx (mVar 1) (mC (.int 1)))) mNil))))))
noncomputable def m_Ratio___add__ : MF := mFun 2 (sRet (mCall (mPure (newC 20 m_Ratio___init__)) (mCons (mBin bAdd (mBin bMul (mFld 2 (mVar 0)) (mFld 3 (mVar 1))) (mBin bMul (mFld 2 (mVar 1)) (mFld 3 (mVar 0)))) (mCons (mBin bMul (mFld 3 (mVar 0)) (mFld 3 (mVar 1))) mNil))))
noncomputable def m_ulaw_minus : MF := mFun 2 (sRet (mCall m_ulaw_plus (mCons (mVar 0) (mCons (mTup (mCons (mBin bSub (mC (.int 0)) (mIx (mVar 1) (mC (.int 0)))) (mCons (mIx (mVar 1) (mC (.int 1))) mNil))) mNil))))
noncomputable def m_Ratio___sub__ : MF := mFun 2 (sRet (mCall (mPure (newC 20 m_Ratio___init__)) (mCons (mBin bSub (mBin bMul (mFld 2 (mVar 0)) (mFld 3 (mVar 1))) (mBin bMul (mFld 2 (mVar 1)) (mFld 3 (mVar 0)))) (mCons (mBin bMul (mFld 3 (mVar 0)) (mFld 3 (mVar 1))) mNil))))
noncomputable def m_ulaw_times : MF := mFun 2 (sRet (mCall m_ulaw_less (mCons (mBin bMul (mIx (mVar 0) (mC (.int 0))) (mIx (mVar 1) (mC (.int 0)))) (mCons (mBin bMul (mIx (mVar 0) (mC (.int 1))) (mIx (mVar 1) (mC (.int 1)))) mNil))))
noncomputable def m_Ratio___mul__ : MF := mFun 2 (sRet (mCall (mPure (newC 20 m_Ratio___init__)) (mCons (mBin bMul (mFld 2 (mVar 0)) (mFld 2 (mVar 1))) (mCons (mBin bMul (mFld 3 (mVar 0)) (mFld 3 (mVar 1))) mNil))))
noncomputable def m_ulaw_below : MF := mFun 2 (sRet (mV (mCmp cLt (mBin bMul (mIx (mVar 0) (mC (.int 0))) (mIx (mVar 1) (mC (.int 1)))) (mBin bMul (mIx (mVar 1) (mC (.int 0))) (mIx (mVar 0) (mC (.int 1)))))))
noncomputable def m_Ratio_less : MF := mFun 2 (sRet (mV (mCmp cLt (mBin bMul (mFld 2 (mVar 0)) (mFld 3 (mVar 1))) (mBin bMul (mFld 2 (mVar 1)) (mFld 3 (mVar 0))))))
noncomputable def m_Ratio___eq__ : MF := mFun 2 (sRet (mAndV (mIsi (isOwn 20) (mVar 1)) (mAndV (mV (mCmp cEq (mFld 2 (mVar 0)) (mFld 2 (mVar 1)))) (mV (mCmp cEq (mFld 3 (mVar 0)) (mFld 3 (mVar 1)))))))
noncomputable def m_Ratio_over : MF := mFun 2 (sSeq (sIf (mCmp cEq (mFld 2 (mVar 1)) (mC (.int 0))) (sRaise 7) sNil)
    (sSeq (sIf (mCmp cLt (mFld 2 (mVar 1)) (mC (.int 0))) (sRet (mCall (mPure (newC 20 m_Ratio___init__)) (mCons (mBin bSub (mC (.int 0)) (mBin bMul (mFld 2 (mVar 0)) (mFld 3 (mVar 1)))) (mCons (mBin bSub (mC (.int 0)) (mBin bMul (mFld 3 (mVar 0)) (mFld 2 (mVar 1)))) mNil)))) sNil)
    (sRet (mCall (mPure (newC 20 m_Ratio___init__)) (mCons (mBin bMul (mFld 2 (mVar 0)) (mFld 3 (mVar 1))) (mCons (mBin bMul (mFld 3 (mVar 0)) (mFld 2 (mVar 1))) mNil))))))
noncomputable def m_ulaw_refused : MF := mFun 3 (sSeq (sTry 2 0 (sIf (mCmp cIs (mVar 1) (mC .non)) (sExpr (mCall (mPure (newC 20 m_Ratio___init__)) (mCons (mIx (mVar 0) (mC (.int 0))) (mCons (mIx (mVar 0) (mC (.int 1))) mNil)))) (sExpr (mMeth [(20, m_Ratio_over)] (mCall (mPure (newC 20 m_Ratio___init__)) (mCons (mIx (mVar 0) (mC (.int 0))) (mCons (mIx (mVar 0) (mC (.int 1))) mNil))) (mCons (mCall (mPure (newC 20 m_Ratio___init__)) (mCons (mIx (mVar 1) (mC (.int 0))) (mCons (mIx (mVar 1) (mC (.int 1))) mNil))) mNil)))) (fun c fs => (sSeq (sIf (mTru (mExcIs 2 fs (subXs c [6, 2, 4, 5, 3, 1]))) (sRet (mC (.bl false))) sNil)
    (sRet (mAndV (mExcIs 2 fs (subX c 7)) (mExcIs 2 fs true))))))
    (sRet (mC (.bl false))))
noncomputable def m_law : MF := mFun 12 (sSeq (sAsg 1 (mCall m_ulaw_pool (mCons (mVar 0) (mCons (mC (.int 0)) mNil))))
    (sSeq (sFor (miRange (mC (.int 4))) (tgName 2) (sSeq (sAsg 3 (mCall m_ulaw_pair (mCons (mVar 1) mNil)))
    (sSeq (sAsg 4 (mIx (mTup (mCons (mCall m_ulaw_pair (mCons (mVar 1) mNil)) (mCons (mVar 3) mNil))) (mCallF fInt (mCons (mV (mCmp cEq (mCall m_ulaw_draw (mCons (mVar 1) (mCons (mC (.int 5)) mNil))) (mC (.int 0)))) mNil))))
    (sSeq (sAsg 5 (mCall (mPure (newC 20 m_Ratio___init__)) (mCons (mIx (mVar 3) (mC (.int 0))) (mCons (mIx (mVar 3) (mC (.int 1))) mNil))))
    (sSeq (sIf (mCmp cEq (mVar 2) (mC (.int 1))) (sAsg 5 (mKw kw_Ratio_1_den_g (mPure (newC 20 m_Ratio___init__)) (mCons (mIx (mVar 3) (mC (.int 0))) mNil) (mCons (mIx (mVar 3) (mC (.int 1))) mNil))) sNil)
    (sSeq (sIf (mCmp cEq (mVar 2) (mC (.int 2))) (sAsg 5 (mKw kw_Ratio_0_den_num_g (mPure (newC 20 m_Ratio___init__)) mNil (mCons (mIx (mVar 3) (mC (.int 1))) (mCons (mIx (mVar 3) (mC (.int 0))) mNil)))) sNil)
    (sSeq (sAsg 6 (mCall (mPure (newC 20 m_Ratio___init__)) (mCons (mIx (mVar 4) (mC (.int 0))) (mCons (mIx (mVar 4) (mC (.int 1))) mNil))))
    (sSeq (sAsg 7 (mCall m_ulaw_less (mCons (mIx (mVar 3) (mC (.int 0))) (mCons (mIx (mVar 3) (mC (.int 1))) mNil))))
    (sSeq (sAsg 8 (mCall (strM []) (mCons (mIx (mVar 7) (mC (.int 0))) mNil)))
    (sSeq (sIf (mCmp cGt (mIx (mVar 7) (mC (.int 1))) (mC (.int 1))) (sAsg 8 (mBin bAdd (mBin bAdd (mVar 8) (mC (.str ("/" : Str)))) (mCall (strM []) (mCons (mIx (mVar 7) (mC (.int 1))) mNil)))) sNil)
    (sSeq (sIf (mOr (mNot (mTru (mCall m_ulaw_is (mCons (mVar 5) (mCons (mVar 7) mNil))))) (mOr (mNot (mTru (mCall (m_ulaw_same 3) (mCons (mCall (strM [(20, m_Ratio___str__)]) (mCons (mVar 5) mNil)) (mCons (mVar 8) mNil))))) (mNot (mTru (mCall m_ulaw_is (mCons (mBinM (ownM [(20, m_Ratio___add__)] (optM bAdd)) (mVar 5) (mVar 6)) (mCons (mCall m_ulaw_plus (mCons (mVar 7) (mCons (mCall m_ulaw_less (mCons (mIx (mVar 4) (mC (.int 0))) (mCons (mIx (mVar 4) (mC (.int 1))) mNil))) mNil))) mNil))))))) (sRet (mC (.bl false))) sNil)
    (sSeq (sIf (mOr (mNot (mTru (mCall m_ulaw_is (mCons (mBinM (ownM [(20, m_Ratio___sub__)] (optM bSub)) (mVar 5) (mVar 6)) (mCons (mCall m_ulaw_minus (mCons (mVar 7) (mCons (mCall m_ulaw_less (mCons (mIx (mVar 4) (mC (.int 0))) (mCons (mIx (mVar 4) (mC (.int 1))) mNil))) mNil))) mNil))))) (mNot (mTru (mCall m_ulaw_is (mCons (mBinM (ownM [(20, m_Ratio___mul__)] (optM bMul)) (mVar 5) (mVar 6)) (mCons (mCall m_ulaw_times (mCons (mVar 3) (mCons (mVar 4) mNil))) mNil)))))) (sRet (mC (.bl false))) sNil)
    (sSeq (sIf (mOr (mNot (mTru (mCall (m_ulaw_same 3) (mCons (mMeth [(20, m_Ratio_less)] (mVar 5) (mCons (mVar 6) mNil)) (mCons (mCall m_ulaw_below (mCons (mVar 3) (mCons (mVar 4) mNil))) mNil))))) (mNot (mTru (mCall (m_ulaw_same 3) (mCons (mBinM (ownM [(20, m_Ratio___eq__)] (cmpB cEq)) (mVar 5) (mVar 6)) (mCons (mV (mCmp cEq (mCall m_ulaw_less (mCons (mIx (mVar 4) (mC (.int 0))) (mCons (mIx (mVar 4) (mC (.int 1))) mNil))) (mVar 7))) mNil)))))) (sRet (mC (.bl false))) sNil)
    (sSeq (sAsg 9 (mBin bSub (mC (.int 1)) (mBin bMul (mC (.int 2)) (mCallF fInt (mCons (mV (mCmp cLt (mIx (mVar 4) (mC (.int 0))) (mC (.int 0)))) mNil)))))
    (sSeq (sIf (mCmp cEq (mIx (mVar 4) (mC (.int 0))) (mC (.int 0))) (sIf (mNot (mTru (mCall m_ulaw_refused (mCons (mVar 3) (mCons (mVar 4) mNil))))) (sRet (mC (.bl false))) sNil) (sIf (mNot (mTru (mCall m_ulaw_is (mCons (mMeth [(20, m_Ratio_over)] (mVar 5) (mCons (mVar 6) mNil)) (mCons (mCall m_ulaw_less (mCons (mBin bMul (mBin bMul (mIx (mVar 3) (mC (.int 0))) (mIx (mVar 4) (mC (.int 1)))) (mVar 9)) (mCons (mBin bMul (mBin bMul (mIx (mVar 3) (mC (.int 1))) (mIx (mVar 4) (mC (.int 0)))) (mVar 9)) mNil))) mNil))))) (sRet (mC (.bl false))) sNil))
    (sIf (mOr (mNot (mTru (mCall m_ulaw_is (mCons (mVar 5) (mCons (mVar 7) mNil))))) (mNot (mTru (mCall m_ulaw_is (mCons (mVar 6) (mCons (mCall m_ulaw_less (mCons (mIx (mVar 4) (mC (.int 0))) (mCons (mIx (mVar 4) (mC (.int 1))) mNil))) mNil)))))) (sRet (mC (.bl false))) sNil))))))))))))))))
    (sSeq (sFor (miRange (mC (.int 2))) (tgName 2) (sSeq (sAsg 10 (mIx (mTup (mCons (mBin bSub (mCall m_ulaw_draw (mCons (mVar 1) (mCons (mC (.int 9)) mNil))) (mC (.int 4))) (mCons (mIx (mCall m_ulaw_pair (mCons (mVar 1) mNil)) (mC (.int 0))) mNil))) (mCall m_ulaw_draw (mCons (mVar 1) (mCons (mC (.int 2)) mNil)))))
    (sSeq (sAsg 11 (mIx (mTup (mCons (mCall m_ulaw_draw (mCons (mVar 1) (mCons (mC (.int 3)) mNil))) (mCons (mCall m_ulaw_draw (mCons (mVar 1) (mCons (mC (.int 1001)) mNil))) (mCons (mBin bPow (mC (.int 10)) (mC (.int 20))) mNil)))) (mBin bAdd (mVar 2) (mCallF fInt (mCons (mAndV (mV (mCmp cEq (mCall m_ulaw_draw (mCons (mVar 1) (mCons (mC (.int 6)) mNil))) (mC (.int 0)))) (mV (mCmp cEq (mVar 2) (mC (.int 1))))) mNil)))))
    (sIf (mNot (mTru (mCall m_ulaw_refused (mCons (mTup (mCons (mVar 10) (mCons (mBin bSub (mC (.int 0)) (mVar 11)) mNil))) (mCons (mC .non) mNil))))) (sRet (mC (.bl false))) sNil))))
    (sRet (mCall m_ulaw_is (mCons (mCall (mPure (withD [.int 1] (newC 20 m_Ratio___init__))) (mCons (mC (.int 7)) mNil)) (mCons (mTup (mCons (mC (.int 7)) (mCons (mC (.int 1)) mNil))) mNil)))))))
end K00

namespace K00
open PySem L2 Z
section
variable {P : Program} {w : World} {K : PySem.W.Frag} {mg : Str → Option Value} {base : Heap}
theorem has_of {c : Nat} (h : (tx K).has c = true) : c = 20 := by
  have h2 : [20].contains c = true := h
  simpa using h2
theorem hasX_of {c : Nat} (h : (tx K).hasX c = true) : c = 7 := by
  have h2 : [7].contains c = true := h
  simpa using h2
theorem hasCases {u : Value} {d : Nat} (_ : TT K mg) (h20 : PySem.W.kitOne K (.ref (He.ga K ("Ratio" : Str))) u = some (20 == d)) : ∀ c, (tx K).has c = true → PySem.W.kitOne K (.ref ((tx K).cls c)) u = some (c == d) := fun c h => by
  rcases has_of h with rfl
  · exact h20
theorem hasXCases {p : Value → Option Bool} {b : Nat → Bool} (_ : TT K mg) (h7 : p (.ref (He.ga K ("BadRatio" : Str))) = some (b 7)) {c : Nat} (h : (tx K).hasX c = true) : p (.ref ((tx K).cls c)) = some (b c) := by
  rcases hasX_of h with rfl
  · exact h7
theorem clsAll (T : TT K mg) : ClsAll (tx K) := fun c h => by
  rcases has_of h with rfl
  · refine ⟨T.cls 50, fun f hf => ?_⟩
    rcases List.mem_cons.mp hf with rfl | hf
    · exact T.no 51
    rcases List.mem_cons.mp hf with rfl | hf
    · exact T.no 52
    cases hf
theorem insAll (T : TT K mg) : ∀ c, (tx K).has c = true → InsTy K ((tx K).cls c) := fun c h => by
  rcases has_of h with rfl
  · exact T.ins 53
theorem excAll (T : TT K mg) : ∀ c, (tx K).hasX c = true → ExcC K ((tx K).cls c) := fun c h => by
  rcases hasX_of h with rfl
  · exact T.exi 54
theorem sc_ulaw_pool : FnScope ["script", "budget"] ["script", "budget"] (defScope s_ulaw_pool) := ⟨rfl, rfl, rfl, by decide +kernel, rfl, by decide +kernel, by decide +kernel⟩
theorem F_ulaw_pool (T : TT K mg) : FunD K "_law_pool" "_law_pool" (defArgs s_ulaw_pool) (defBody s_ulaw_pool) (defScope s_ulaw_pool) (d_ulaw_pool.dvs K) [] (He.fAd K at_ulaw_pool) (fdOf K at_ulaw_pool) := T.c.fd 0 (d := d_ulaw_pool) rfl
theorem kp_ulaw_pool (T : TT K mg) : PySem.W.keepIn K (.ref (He.fAd K at_ulaw_pool)) = true := (F_ulaw_pool T).kp
theorem b_ulaw_pool (T : TT K mg) : Binds K (fdOf K at_ulaw_pool) ["script", "budget"] [] := FunD.bindsN (F_ulaw_pool T) fun _ _ _ _ _ _ us hl => match us, hl with | [_, _], _ => rfl
theorem ok_ulaw_pool (T : TT K mg) : FnOk P w K mg base (L2.CX P w) 1 (He.fAd K at_ulaw_pool) (fdOf K at_ulaw_pool) ["script", "budget"] (spM (tx K) 2 m_ulaw_pool) :=
  fn_okM (Df.of (st := s_ulaw_pool) (F_ulaw_pool T)) sc_ulaw_pool fun cdv A outer s H E hr => by
    have tk : Takes (cxOf (L2.CX P w) P w K mg base ["script", "budget"] "_law_pool" (defScope s_ulaw_pool) (He.fAd K at_ulaw_pool) cdv A outer s H E) (WB E) := takes_of rfl rfl rfl rfl
    have hp : PassesOwn (model P w) (cxOf (L2.CX P w) P w K mg base ["script", "budget"] "_law_pool" (defScope s_ulaw_pool) (He.fAd K at_ulaw_pool) cdv A outer s H E).A (cxOf (L2.CX P w) P w K mg base ["script", "budget"] "_law_pool" (defScope s_ulaw_pool) (He.fAd K at_ulaw_pool) cdv A outer s H E).env (cxOf (L2.CX P w) P w K mg base ["script", "budget"] "_law_pool" (defScope s_ulaw_pool) (He.fAd K at_ulaw_pool) cdv A outer s H E).xe := passes_of rfl
    exact (s_one (s_ret (v_lst false (a_cons (v_callTL true (ok_list rfl) rfl (T.free 0) (a_cons (v_var 0) a_nil)) (a_cons v_int (a_cons v_int (a_cons v_int (a_cons v_int (a_cons (v_var 1) a_nil)))))))))
theorem sc_ulaw_draw : FnScope ["pool", "size", "cell", "value"] ["pool", "size"] (defScope s_ulaw_draw) := ⟨rfl, rfl, rfl, by decide +kernel, rfl, by decide +kernel, by decide +kernel⟩
theorem F_ulaw_draw (T : TT K mg) : FunD K "_law_draw" "_law_draw" (defArgs s_ulaw_draw) (defBody s_ulaw_draw) (defScope s_ulaw_draw) (d_ulaw_draw.dvs K) [] (He.fAd K at_ulaw_draw) (fdOf K at_ulaw_draw) := T.c.fd 1 (d := d_ulaw_draw) rfl
theorem kp_ulaw_draw (T : TT K mg) : PySem.W.keepIn K (.ref (He.fAd K at_ulaw_draw)) = true := (F_ulaw_draw T).kp
theorem b_ulaw_draw (T : TT K mg) : Binds K (fdOf K at_ulaw_draw) ["pool", "size"] [] := FunD.bindsN (F_ulaw_draw T) fun _ _ _ _ _ _ us hl => match us, hl with | [_, _], _ => rfl
theorem ok_ulaw_draw (T : TT K mg) : FnOk P w K mg base (L2.CX P w) 1 (He.fAd K at_ulaw_draw) (fdOf K at_ulaw_draw) ["pool", "size"] (spM (tx K) 2 m_ulaw_draw) :=
  fn_okM (Df.of (st := s_ulaw_draw) (F_ulaw_draw T)) sc_ulaw_draw fun cdv A outer s H E hr => by
    have tk : Takes (cxOf (L2.CX P w) P w K mg base ["pool", "size", "cell", "value"] "_law_draw" (defScope s_ulaw_draw) (He.fAd K at_ulaw_draw) cdv A outer s H E) (WB E) := takes_of rfl rfl rfl rfl
    have hp : PassesOwn (model P w) (cxOf (L2.CX P w) P w K mg base ["pool", "size", "cell", "value"] "_law_draw" (defScope s_ulaw_draw) (He.fAd K at_ulaw_draw) cdv A outer s H E).A (cxOf (L2.CX P w) P w K mg base ["pool", "size", "cell", "value"] "_law_draw" (defScope s_ulaw_draw) (He.fAd K at_ulaw_draw) cdv A outer s H E).env (cxOf (L2.CX P w) P w K mg base ["pool", "size", "cell", "value"] "_law_draw" (defScope s_ulaw_draw) (He.fAd K at_ulaw_draw) cdv A outer s H E).xe := passes_of rfl
    exact (s_cons (s_if (PW.pt (w_and (t_cmp oc_le (v_ix rfl (v_var 0) v_int) v_int (nomark _)) (w_and (t_cmp oc_le (v_ix rfl (v_var 0) v_int) v_int (nomark _)) (pw_and1 (t_cmp oc_lt (v_ix rfl (v_var 0) v_int) (v_callB (ok_len rfl) rfl (T.free 3) (a_cons (v_ix rfl (v_var 0) v_int) a_nil)) (nomark _)))))) (s_cons (s_set 2 sc_ulaw_draw.nd (v_ix rfl (v_ix rfl (v_var 0) v_int) (v_ix rfl (v_var 0) v_int)))
      (s_cons (s_sub (v_bin (ob_add rfl) (v_ix rfl (v_var 0) v_int) v_int) (v_var 0) v_int)
      (s_cons (s_sub (v_bin ob_mod (v_callT ok_int rfl (T.free 4) (a_cons (v_bin (ob_add rfl) (v_bin ob_mul (v_ix rfl (v_var 0) v_int) v_int) (v_var 2)) a_nil)) v_int) (v_var 0) v_int)
      (s_cons (s_sub v_int (v_var 0) v_int)
      (s_one (s_if (t_cmp oc_ge (v_var 2) (v_bin ob_pow v_int v_int) (nomark _)) (s_one (s_sub (v_var 2) (v_var 0) v_int)) s_nil)))))) s_nil)
      (s_cons (s_if (t_cmp oc_gt (v_ix rfl (v_var 0) v_int) v_int (nomark _)) (s_cons (s_set 3 sc_ulaw_draw.nd (v_bin ob_mod (v_callT ok_int rfl (T.free 4) (a_cons (v_ix rfl (v_var 0) v_int) a_nil)) (v_var 1)))
      (s_cons (s_sub (v_bin ob_div (v_ix rfl (v_var 0) v_int) (v_var 1)) (v_var 0) v_int)
      (s_cons (s_sub v_int (v_var 0) v_int)
      (s_one (s_ret (v_var 3)))))) s_nil)
      (s_cons (s_sub (v_bin ob_sub (v_ix rfl (v_var 0) v_int) v_int) (v_var 0) v_int)
      (s_cons (s_sub (v_bin ob_mod (v_callT ok_int rfl (T.free 4) (a_cons (v_bin (ob_add rfl) (v_bin ob_mul (v_ix rfl (v_var 0) v_int) v_int) v_int) a_nil)) v_int) (v_var 0) v_int)
      (s_one (s_ret (v_bin ob_mod (v_bin ob_mod (v_callT ok_int rfl (T.free 4) (a_cons (v_bin (ob_add rfl) (v_bin ob_mul (v_ix rfl (v_var 0) v_int) v_int) v_int) a_nil)) v_int) (v_var 1))))))))
theorem sc_ulaw_pair : FnScope ["pool", "one", "two", "k", "num"] ["pool"] (defScope s_ulaw_pair) := ⟨rfl, rfl, rfl, by decide +kernel, rfl, by decide +kernel, by decide +kernel⟩
theorem F_ulaw_pair (T : TT K mg) : FunD K "_law_pair" "_law_pair" (defArgs s_ulaw_pair) (defBody s_ulaw_pair) (defScope s_ulaw_pair) (d_ulaw_pair.dvs K) [] (He.fAd K at_ulaw_pair) (fdOf K at_ulaw_pair) := T.c.fd 2 (d := d_ulaw_pair) rfl
theorem kp_ulaw_pair (T : TT K mg) : PySem.W.keepIn K (.ref (He.fAd K at_ulaw_pair)) = true := (F_ulaw_pair T).kp
theorem b_ulaw_pair (T : TT K mg) : Binds K (fdOf K at_ulaw_pair) ["pool"] [] := FunD.bindsN (F_ulaw_pair T) fun _ _ _ _ _ _ us hl => match us, hl with | [_], _ => rfl
theorem ok_ulaw_pair (T : TT K mg) : FnOk P w K mg base (L2.CX P w) 2 (He.fAd K at_ulaw_pair) (fdOf K at_ulaw_pair) ["pool"] (spM (tx K) 1 m_ulaw_pair) :=
  fn_okM (Df.of (st := s_ulaw_pair) (F_ulaw_pair T)) sc_ulaw_pair fun cdv A outer s H E hr => by
    have tk : Takes (cxOf (L2.CX P w) P w K mg base ["pool", "one", "two", "k", "num"] "_law_pair" (defScope s_ulaw_pair) (He.fAd K at_ulaw_pair) cdv A outer s H E) (WB E) := takes_of rfl rfl rfl rfl
    have hp : PassesOwn (model P w) (cxOf (L2.CX P w) P w K mg base ["pool", "one", "two", "k", "num"] "_law_pair" (defScope s_ulaw_pair) (He.fAd K at_ulaw_pair) cdv A outer s H E).A (cxOf (L2.CX P w) P w K mg base ["pool", "one", "two", "k", "num"] "_law_pair" (defScope s_ulaw_pair) (He.fAd K at_ulaw_pair) cdv A outer s H E).env (cxOf (L2.CX P w) P w K mg base ["pool", "one", "two", "k", "num"] "_law_pair" (defScope s_ulaw_pair) (He.fAd K at_ulaw_pair) cdv A outer s H E).xe := passes_of rfl
    exact (s_cons (s_if (t_cmp (oc_eq rfl (hu64 hr)) (v_call tk (ok_ulaw_draw T) (hr.mono (by decide)) (T.glo 5) (kp_ulaw_draw T) (b_ulaw_draw T) (a_cons (v_var 0) (a_cons v_int a_nil))) v_int (nomark _)) (s_cons (s_set 1 sc_ulaw_pair.nd v_int)
      (s_cons (s_set 2 sc_ulaw_pair.nd v_int)
      (s_cons (s_for (vs := [3]) hp rfl (i_range (T.free 2) (v_call tk (ok_ulaw_draw T) (hr.mono (by decide)) (T.glo 5) (kp_ulaw_draw T) (b_ulaw_draw T) (a_cons (v_var 0) (a_cons v_int a_nil)))) (g_name 3 sc_ulaw_pair.nd) (s_one (s_par 1 2 rfl sc_ulaw_pair.nd (a_cons (v_var 2) (a_cons (v_bin (ob_add rfl) (v_var 1) (v_var 2)) a_nil)))))
      (s_one (s_ret (v_tup (a_cons (v_ix rfl (v_tup (a_cons (v_var 1) (a_cons (v_bin ob_sub v_int (v_var 1)) (a_cons (v_bin ob_mul (v_var 2) v_int) a_nil)))) (v_call tk (ok_ulaw_draw T) (hr.mono (by decide)) (T.glo 5) (kp_ulaw_draw T) (b_ulaw_draw T) (a_cons (v_var 0) (a_cons v_int a_nil)))) (a_cons (v_var 2) a_nil)))))))) s_nil)
      (s_cons (s_set 4 sc_ulaw_pair.nd (v_bin ob_sub (v_call tk (ok_ulaw_draw T) (hr.mono (by decide)) (T.glo 5) (kp_ulaw_draw T) (b_ulaw_draw T) (a_cons (v_var 0) (a_cons v_int a_nil))) v_int))
      (s_one (s_ret (v_tup (a_cons (v_ix rfl (v_tup (a_cons (v_var 4) (a_cons (v_bin ob_sub (v_call tk (ok_ulaw_draw T) (hr.mono (by decide)) (T.glo 5) (kp_ulaw_draw T) (b_ulaw_draw T) (a_cons (v_var 0) (a_cons v_int a_nil))) v_int) (a_cons v_int a_nil)))) (v_call tk (ok_ulaw_draw T) (hr.mono (by decide)) (T.glo 5) (kp_ulaw_draw T) (b_ulaw_draw T) (a_cons (v_var 0) (a_cons v_int a_nil)))) (a_cons (v_bin (ob_add rfl) v_int (v_ix rfl (v_tup (a_cons (v_call tk (ok_ulaw_draw T) (hr.mono (by decide)) (T.glo 5) (kp_ulaw_draw T) (b_ulaw_draw T) (a_cons (v_var 0) (a_cons v_int a_nil))) (a_cons (v_call tk (ok_ulaw_draw T) (hr.mono (by decide)) (T.glo 5) (kp_ulaw_draw T) (b_ulaw_draw T) (a_cons (v_var 0) (a_cons v_int a_nil))) a_nil))) (v_call tk (ok_ulaw_draw T) (hr.mono (by decide)) (T.glo 5) (kp_ulaw_draw T) (b_ulaw_draw T) (a_cons (v_var 0) (a_cons v_int a_nil))))) a_nil)))))))
theorem sc_Ratio___init__ : FnScope ["self", "num", "den", "shared"] ["self", "num", "den"] (defScope s_Ratio___init__) := ⟨rfl, rfl, rfl, by decide +kernel, rfl, by decide +kernel, by decide +kernel⟩
theorem F_Ratio___init__ (T : TT K mg) : FunD K "__init__" "Ratio.__init__" (defArgs s_Ratio___init__) (defBody s_Ratio___init__) (defScope s_Ratio___init__) (d_Ratio___init__.dvs K) [] (He.fAd K at_Ratio___init__) (fdOf K at_Ratio___init__) := T.c.fd 3 (d := d_Ratio___init__) rfl
theorem kp_Ratio___init__ (T : TT K mg) : PySem.W.keepIn K (.ref (He.fAd K at_Ratio___init__)) = true := (F_Ratio___init__ T).kp
theorem b_Ratio___init__ (T : TT K mg) : Binds K (fdOf K at_Ratio___init__) ["self", "num", "den"] [] := by
  obtain ⟨ds, h1, h2⟩ := FunD.binds1 (ps := ["self", "num", "den"]) (F_Ratio___init__ T) 3 1 (List.cons_ne_nil _ _) rfl fun T kV doc pm an cdv ct us its l1 l2 => match us, its, l1, l2 with | [_, _, _], [_], _, _ => ⟨_, rfl, rfl⟩
  cases h1
  exact h2
theorem kw_Ratio_1_den_b (T : TT K mg) : KBn K (fdOf K at_Ratio___init__) ["self", "num", "den"] 2 ["den"] (fun us ws => us ++ ws) (fun vs zs => vs ++ zs) := by
  obtain ⟨_, h⟩ := FunD.kbindsD (ps := ["self", "num", "den"]) (F_Ratio___init__ T) 2 ["den"] (fun vs _ zs => vs ++ zs) (List.cons_ne_nil _ _) (fun r1 _ r2 => r1.append r2) fun T kV doc pm an cdv ct us its ws l1 l2 l3 => match us, its, ws, l1, l2, l3 with | [_, _], [_], [_], _, _, _ => ⟨_, rfl, rfl⟩
  exact h
theorem kw_Ratio_1_den_h1 (x : V) (vs zs : List V) (_ : vs.length = 1) (_ : zs.length = (["den"] : List Str).length) : (x :: vs) ++ zs = x :: kw_Ratio_1_den_g vs zs := rfl
theorem kw_Ratio_1_den_h2 {T : Tx} {ρ : List Addr} {H : Hp} {ms ns : List MV} {vs zs : List V} (_ : ms.length = 1) (_ : ns.length = (["den"] : List Str).length) (r1 : RVs T ρ H ms vs) (r2 : RVs T ρ H ns zs) : RVs T ρ H (kw_Ratio_1_den_g ms ns) (kw_Ratio_1_den_g vs zs) := r1.append r2
theorem kw_Ratio_1_den_h3 (ms ns : List MV) (h1 : ms.length = 1) (h2 : ns.length = (["den"] : List Str).length) : (kw_Ratio_1_den_g ms ns).length + 1 = 3 := by
  show (ms ++ ns).length + 1 = 3
  rw [List.length_append, h1, h2]; rfl
theorem kw_Ratio_0_den_num_b (T : TT K mg) : KBn K (fdOf K at_Ratio___init__) ["self", "num", "den"] 1 ["den", "num"] (fun us ws => us ++ ws.reverse) (fun vs zs => vs ++ zs.reverse) := by
  obtain ⟨_, h⟩ := FunD.kbindsD (ps := ["self", "num", "den"]) (F_Ratio___init__ T) 1 ["den", "num"] (fun vs _ zs => vs ++ zs.reverse) (List.cons_ne_nil _ _) (fun r1 _ r2 => r1.append (vals_rev r2)) fun T kV doc pm an cdv ct us its ws l1 l2 l3 => match us, its, ws, l1, l2, l3 with | [_], [_], [_, _], _, _, _ => ⟨_, rfl, rfl⟩
  exact h
theorem kw_Ratio_0_den_num_h1 (x : V) (zs : List V) (_ : zs.length = (["den", "num"] : List Str).length) : [x] ++ zs.reverse = x :: kw_Ratio_0_den_num_g [] zs := rfl
theorem kw_Ratio_0_den_num_h2 {T : Tx} {ρ : List Addr} {H : Hp} {ms ns : List MV} {vs zs : List V} (_ : ms.length = 0) (_ : ns.length = (["den", "num"] : List Str).length) (r1 : RVs T ρ H ms vs) (r2 : RVs T ρ H ns zs) : RVs T ρ H (kw_Ratio_0_den_num_g ms ns) (kw_Ratio_0_den_num_g vs zs) := r1.append (rvs_rev r2)
theorem kw_Ratio_0_den_num_h3 (ms ns : List MV) (h1 : ms.length = 0) (h2 : ns.length = (["den", "num"] : List Str).length) : (kw_Ratio_0_den_num_g ms ns).length + 1 = 3 := by
  show (ms ++ ns.reverse).length + 1 = 3
  rw [List.length_append, List.length_reverse, h1, h2]; rfl
theorem ok_Ratio___init__ (T : TT K mg) : FnOk P w K mg base (L2.CX P w) 1 (He.fAd K at_Ratio___init__) (fdOf K at_Ratio___init__) ["self", "num", "den"] (spM (tx K) 3 m_Ratio___init__) :=
  fn_okM (Df.of (st := s_Ratio___init__) (F_Ratio___init__ T)) sc_Ratio___init__ fun cdv A outer s H E hr => by
    have tk : Takes (cxOf (L2.CX P w) P w K mg base ["self", "num", "den", "shared"] "Ratio.__init__" (defScope s_Ratio___init__) (He.fAd K at_Ratio___init__) cdv A outer s H E) (WB E) := takes_of rfl rfl rfl rfl
    have hp : PassesOwn (model P w) (cxOf (L2.CX P w) P w K mg base ["self", "num", "den", "shared"] "Ratio.__init__" (defScope s_Ratio___init__) (He.fAd K at_Ratio___init__) cdv A outer s H E).A (cxOf (L2.CX P w) P w K mg base ["self", "num", "den", "shared"] "Ratio.__init__" (defScope s_Ratio___init__) (He.fAd K at_Ratio___init__) cdv A outer s H E).env (cxOf (L2.CX P w) P w K mg base ["self", "num", "den", "shared"] "Ratio.__init__" (defScope s_Ratio___init__) (He.fAd K at_Ratio___init__) cdv A outer s H E).xe := passes_of rfl
    exact (s_cons (s_if (t_cmp oc_lt (v_var 2) v_int (nomark _)) (s_one (s_raise rfl tk PySem.F.excBase_ValueError (T.exc 7).1 (T.glo 8) (T.keep 9) (raises_own (T.exc 7).2.1 (T.exc 7).2.2) rfl)) s_nil)
      (s_cons (s_set 3 sc_Ratio___init__.nd (v_callM ok_gcd (T.blt 10) (a_cons (v_var 1) (a_cons (v_var 2) a_nil))))
      (s_cons (s_fld rfl (clsAll T) 2 (v_var 0) (v_bin ob_div (v_var 1) (v_var 3)))
      (s_one (s_fld rfl (clsAll T) 3 (v_var 0) (v_bin ob_div (v_var 2) (v_var 3)))))))
theorem mkD_Ratio___init__ {X : Cx} {W : WX} (tk : Takes X W) (T : TT X.K X.mg) (hr : Room (1 + 1) X.A) : CalM X (tx X.K) W (.ref ((tx X.K).cls 20)) 1 (withD [.int 1] (newC 20 m_Ratio___init__)) := by
  obtain ⟨ds, h1, h2⟩ := FunD.binds1 (ps := ["self", "num", "den"]) (F_Ratio___init__ T) 2 0 (List.cons_ne_nil _ _) rfl fun T kV doc pm an cdv ct us its l1 l2 => match us, its, l1, l2 with | [_, _], [_], _, _ => ⟨_, rfl, rfl⟩
  exact cal_makeD (dms := [.int 1]) (dvs := [.int 1]) tk rfl (T.make 11 12 13) (ok_Ratio___init__ T) hr h2 h1 fun ρ H => RVs.one (T := tx X.K) rfl
theorem sc_ulaw_gcd : FnScope ["one", "two", "a", "b", "k"] ["one", "two"] (defScope s_ulaw_gcd) := ⟨rfl, rfl, rfl, by decide +kernel, rfl, by decide +kernel, by decide +kernel⟩
theorem F_ulaw_gcd (T : TT K mg) : FunD K "_law_gcd" "_law_gcd" (defArgs s_ulaw_gcd) (defBody s_ulaw_gcd) (defScope s_ulaw_gcd) (d_ulaw_gcd.dvs K) [] (He.fAd K at_ulaw_gcd) (fdOf K at_ulaw_gcd) := T.c.fd 4 (d := d_ulaw_gcd) rfl
theorem kp_ulaw_gcd (T : TT K mg) : PySem.W.keepIn K (.ref (He.fAd K at_ulaw_gcd)) = true := (F_ulaw_gcd T).kp
theorem b_ulaw_gcd (T : TT K mg) : Binds K (fdOf K at_ulaw_gcd) ["one", "two"] [] := FunD.bindsN (F_ulaw_gcd T) fun _ _ _ _ _ _ us hl => match us, hl with | [_, _], _ => rfl
theorem ok_ulaw_gcd (T : TT K mg) : FnOk P w K mg base (L2.CX P w) 1 (He.fAd K at_ulaw_gcd) (fdOf K at_ulaw_gcd) ["one", "two"] (spM (tx K) 2 m_ulaw_gcd) :=
  fn_okM (Df.of (st := s_ulaw_gcd) (F_ulaw_gcd T)) sc_ulaw_gcd fun cdv A outer s H E hr => by
    have tk : Takes (cxOf (L2.CX P w) P w K mg base ["one", "two", "a", "b", "k"] "_law_gcd" (defScope s_ulaw_gcd) (He.fAd K at_ulaw_gcd) cdv A outer s H E) (WB E) := takes_of rfl rfl rfl rfl
    have hp : PassesOwn (model P w) (cxOf (L2.CX P w) P w K mg base ["one", "two", "a", "b", "k"] "_law_gcd" (defScope s_ulaw_gcd) (He.fAd K at_ulaw_gcd) cdv A outer s H E).A (cxOf (L2.CX P w) P w K mg base ["one", "two", "a", "b", "k"] "_law_gcd" (defScope s_ulaw_gcd) (He.fAd K at_ulaw_gcd) cdv A outer s H E).env (cxOf (L2.CX P w) P w K mg base ["one", "two", "a", "b", "k"] "_law_gcd" (defScope s_ulaw_gcd) (He.fAd K at_ulaw_gcd) cdv A outer s H E).xe := passes_of rfl
    exact (s_cons (s_set 2 sc_ulaw_gcd.nd (v_callB ok_abs rfl (T.free 15) (a_cons (v_var 0) a_nil)))
      (s_cons (s_set 3 sc_ulaw_gcd.nd (v_callB ok_abs rfl (T.free 15) (a_cons (v_var 1) a_nil)))
      (s_cons (s_for (vs := [4]) hp rfl (i_range (T.free 2) (v_bin (ob_add rfl) v_int (v_bin ob_mul v_int (v_bits (v_var 3))))) (g_name 4 sc_ulaw_gcd.nd) (s_cons (s_if (t_cmp (oc_eq rfl (hu64 hr)) (v_var 3) v_int (nomark _)) (s_one s_break) s_nil)
      (s_one (s_par 2 3 rfl sc_ulaw_gcd.nd (a_cons (v_var 3) (a_cons (v_bin ob_mod (v_callT ok_int rfl (T.free 4) (a_cons (v_var 2) a_nil)) (v_var 3)) a_nil))))))
      (s_one (s_ret (v_var 2))))))
theorem sc_ulaw_less : FnScope ["num", "den", "shared"] ["num", "den"] (defScope s_ulaw_less) := ⟨rfl, rfl, rfl, by decide +kernel, rfl, by decide +kernel, by decide +kernel⟩
theorem F_ulaw_less (T : TT K mg) : FunD K "_law_less" "_law_less" (defArgs s_ulaw_less) (defBody s_ulaw_less) (defScope s_ulaw_less) (d_ulaw_less.dvs K) [] (He.fAd K at_ulaw_less) (fdOf K at_ulaw_less) := T.c.fd 5 (d := d_ulaw_less) rfl
theorem kp_ulaw_less (T : TT K mg) : PySem.W.keepIn K (.ref (He.fAd K at_ulaw_less)) = true := (F_ulaw_less T).kp
theorem b_ulaw_less (T : TT K mg) : Binds K (fdOf K at_ulaw_less) ["num", "den"] [] := FunD.bindsN (F_ulaw_less T) fun _ _ _ _ _ _ us hl => match us, hl with | [_, _], _ => rfl
theorem ok_ulaw_less (T : TT K mg) : FnOk P w K mg base (L2.CX P w) 2 (He.fAd K at_ulaw_less) (fdOf K at_ulaw_less) ["num", "den"] (spM (tx K) 2 m_ulaw_less) :=
  fn_okM (Df.of (st := s_ulaw_less) (F_ulaw_less T)) sc_ulaw_less fun cdv A outer s H E hr => by
    have tk : Takes (cxOf (L2.CX P w) P w K mg base ["num", "den", "shared"] "_law_less" (defScope s_ulaw_less) (He.fAd K at_ulaw_less) cdv A outer s H E) (WB E) := takes_of rfl rfl rfl rfl
    have hp : PassesOwn (model P w) (cxOf (L2.CX P w) P w K mg base ["num", "den", "shared"] "_law_less" (defScope s_ulaw_less) (He.fAd K at_ulaw_less) cdv A outer s H E).A (cxOf (L2.CX P w) P w K mg base ["num", "den", "shared"] "_law_less" (defScope s_ulaw_less) (He.fAd K at_ulaw_less) cdv A outer s H E).env (cxOf (L2.CX P w) P w K mg base ["num", "den", "shared"] "_law_less" (defScope s_ulaw_less) (He.fAd K at_ulaw_less) cdv A outer s H E).xe := passes_of rfl
    exact (s_cons (s_if (t_cmp (oc_eq rfl (hu64 hr)) (v_var 0) v_int (nomark _)) (s_one (s_ret (v_tup (a_cons v_int (a_cons v_int a_nil))))) s_nil)
      (s_cons (s_set 2 sc_ulaw_less.nd (v_call tk (ok_ulaw_gcd T) (hr.mono (by decide)) (T.glo 16) (kp_ulaw_gcd T) (b_ulaw_gcd T) (a_cons (v_var 0) (a_cons (v_var 1) a_nil))))
      (s_one (s_ret (v_tup (a_cons (v_bin ob_div (v_var 0) (v_var 2)) (a_cons (v_bin ob_div (v_var 1) (v_var 2)) a_nil)))))))
theorem sc_ulaw_same : FnScope ["actual", "due", "k"] ["actual", "due"] (defScope s_ulaw_same) := ⟨rfl, rfl, rfl, by decide +kernel, rfl, by decide +kernel, by decide +kernel⟩
theorem F_ulaw_same (T : TT K mg) : FunD K "_law_same" "_law_same" (defArgs s_ulaw_same) (defBody s_ulaw_same) (defScope s_ulaw_same) (d_ulaw_same.dvs K) [] (He.fAd K at_ulaw_same) (fdOf K at_ulaw_same) := T.c.fd 6 (d := d_ulaw_same) rfl
theorem kp_ulaw_same (T : TT K mg) : PySem.W.keepIn K (.ref (He.fAd K at_ulaw_same)) = true := (F_ulaw_same T).kp
theorem b_ulaw_same (T : TT K mg) : Binds K (fdOf K at_ulaw_same) ["actual", "due"] [] := FunD.bindsN (F_ulaw_same T) fun _ _ _ _ _ _ us hl => match us, hl with | [_, _], _ => rfl
theorem ok_ulaw_same (T : TT K mg) : ∀ n : Nat, FnOk P w K mg base (L2.CX P w) (1 + n) (He.fAd K at_ulaw_same) (fdOf K at_ulaw_same) ["actual", "due"] (spM (tx K) 2 (m_ulaw_same n))
  | 0 => fn_bad
  | n + 1 => by
   have ih := ok_ulaw_same T n
   exact fn_okM (Df.of (st := s_ulaw_same) (F_ulaw_same T)) sc_ulaw_same fun cdv A outer s H E hr => by
    have tk : Takes (cxOf (L2.CX P w) P w K mg base ["actual", "due", "k"] "_law_same" (defScope s_ulaw_same) (He.fAd K at_ulaw_same) cdv A outer s H E) (WB E) := takes_of rfl rfl rfl rfl
    have hp : PassesOwn (model P w) (cxOf (L2.CX P w) P w K mg base ["actual", "due", "k"] "_law_same" (defScope s_ulaw_same) (He.fAd K at_ulaw_same) cdv A outer s H E).A (cxOf (L2.CX P w) P w K mg base ["actual", "due", "k"] "_law_same" (defScope s_ulaw_same) (He.fAd K at_ulaw_same) cdv A outer s H E).env (cxOf (L2.CX P w) P w K mg base ["actual", "due", "k"] "_law_same" (defScope s_ulaw_same) (He.fAd K at_ulaw_same) cdv A outer s H E).xe := passes_of rfl
    exact (s_cons (s_if (PW.pt (w_or (t_tru rfl (v_isi (w := .ty "tuple") rfl (clsAll T) (insAll T) is_tup (pe_bltn rfl (T.free 21) rfl rfl) (.ty _) (T.free 19) (v_var 1))) (pw_or1 (t_tru rfl (v_isi (w := .ty "list") rfl (clsAll T) (insAll T) is_lst (pe_bltn rfl (T.free 0) rfl rfl) (.ty _) (T.free 19) (v_var 1)))))) (s_cons (s_if (PW.pt (w_or (t_cmp (oc_ne rfl (hu64 hr)) (v_isi (w := .ty "tuple") rfl (clsAll T) (insAll T) is_tup (pe_bltn rfl (T.free 21) rfl rfl) (.ty _) (T.free 19) (v_var 1)) (v_isi (w := .ty "tuple") rfl (clsAll T) (insAll T) is_tup (pe_bltn rfl (T.free 21) rfl rfl) (.ty _) (T.free 19) (v_var 0)) (nomark _)) (pw_or1 (t_cmp (oc_ne rfl (hu64 hr)) (v_isi (w := .ty "list") rfl (clsAll T) (insAll T) is_lst (pe_bltn rfl (T.free 0) rfl rfl) (.ty _) (T.free 19) (v_var 1)) (v_isi (w := .ty "list") rfl (clsAll T) (insAll T) is_lst (pe_bltn rfl (T.free 0) rfl rfl) (.ty _) (T.free 19) (v_var 0)) (nomark _))))) (s_one (s_ret v_bl)) s_nil)
      (s_cons (s_if (t_cmp (oc_ne rfl (hu64 hr)) (v_callB (ok_len rfl) rfl (T.free 3) (a_cons (v_var 0) a_nil)) (v_callB (ok_len rfl) rfl (T.free 3) (a_cons (v_var 1) a_nil)) (nomark _)) (s_one (s_ret v_bl)) s_nil)
      (s_cons (s_for (vs := [2]) hp rfl (i_range (T.free 2) (v_callB (ok_len rfl) rfl (T.free 3) (a_cons (v_var 1) a_nil))) (g_name 2 sc_ulaw_same.nd) (s_one (s_if (t_not (t_tru rfl (v_call tk ih hr (T.glo 22) (kp_ulaw_same T) (b_ulaw_same T) (a_cons (v_ix rfl (v_var 0) (v_var 2)) (a_cons (v_ix rfl (v_var 1) (v_var 2)) a_nil))))) (s_one (s_ret v_bl)) s_nil)))
      (s_one (s_ret v_bl))))) s_nil)
      (s_cons (s_if (PW.pt (w_or (t_cmp oc_is (v_var 1) v_non (nomark _)) (pw_or1 (t_tru rfl (v_isi (w := .ty "bool") rfl (clsAll T) (insAll T) is_bl (pe_bltn rfl (T.free 23) rfl rfl) (.ty _) (T.free 19) (v_var 1)))))) (s_one (s_ret (v_and (v_cmp (oc_eq rfl (hu64 hr)) (v_cmp oc_is (v_var 0) v_non (nomark _)) (v_cmp oc_is (v_var 1) v_non (nomark _)) (nomark _)) (v_and (v_or (v_cmp oc_is (v_var 1) v_non (nomark _)) (v_one (v_isi (w := .ty "bool") rfl (clsAll T) (insAll T) is_bl (pe_bltn rfl (T.free 23) rfl rfl) (.ty _) (T.free 19) (v_var 0)))) (v_one (v_cmp (oc_eq rfl (hu64 hr)) (v_var 0) (v_var 1) (nomark _))))))) s_nil)
      (s_cons (s_if (t_tru rfl (v_isi (w := .ty "int") rfl (clsAll T) (insAll T) is_int (pe_bltn rfl (T.free 4) rfl rfl) (.ty _) (T.free 19) (v_var 1))) (s_one (s_ret (v_and (v_isi (w := .ty "int") rfl (clsAll T) (insAll T) is_int (pe_bltn rfl (T.free 4) rfl rfl) (.ty _) (T.free 19) (v_var 0)) (v_and (v_not (v_isi (w := .ty "bool") rfl (clsAll T) (insAll T) is_bl (pe_bltn rfl (T.free 23) rfl rfl) (.ty _) (T.free 19) (v_var 0))) (v_one (v_cmp (oc_eq rfl (hu64 hr)) (v_var 0) (v_var 1) (nomark _))))))) s_nil)
      (s_one (s_ret (v_and (v_isi (w := .ty "str") rfl (clsAll T) (insAll T) is_str (pe_bltn rfl (T.free 18) rfl rfl) (.ty _) (T.free 19) (v_var 0)) (v_one (v_cmp (oc_eq rfl (hu64 hr)) (v_var 0) (v_var 1) (nomark _)))))))))
theorem sc_ulaw_is : FnScope ["ratio", "due"] ["ratio", "due"] (defScope s_ulaw_is) := ⟨rfl, rfl, rfl, by decide +kernel, rfl, by decide +kernel, by decide +kernel⟩
theorem F_ulaw_is (T : TT K mg) : FunD K "_law_is" "_law_is" (defArgs s_ulaw_is) (defBody s_ulaw_is) (defScope s_ulaw_is) (d_ulaw_is.dvs K) [] (He.fAd K at_ulaw_is) (fdOf K at_ulaw_is) := T.c.fd 7 (d := d_ulaw_is) rfl
theorem kp_ulaw_is (T : TT K mg) : PySem.W.keepIn K (.ref (He.fAd K at_ulaw_is)) = true := (F_ulaw_is T).kp
theorem b_ulaw_is (T : TT K mg) : Binds K (fdOf K at_ulaw_is) ["ratio", "due"] [] := FunD.bindsN (F_ulaw_is T) fun _ _ _ _ _ _ us hl => match us, hl with | [_, _], _ => rfl
theorem ok_ulaw_is (T : TT K mg) : FnOk P w K mg base (L2.CX P w) 5 (He.fAd K at_ulaw_is) (fdOf K at_ulaw_is) ["ratio", "due"] (spM (tx K) 2 m_ulaw_is) :=
  fn_okM (Df.of (st := s_ulaw_is) (F_ulaw_is T)) sc_ulaw_is fun cdv A outer s H E hr => by
    have tk : Takes (cxOf (L2.CX P w) P w K mg base ["ratio", "due"] "_law_is" (defScope s_ulaw_is) (He.fAd K at_ulaw_is) cdv A outer s H E) (WB E) := takes_of rfl rfl rfl rfl
    have hp : PassesOwn (model P w) (cxOf (L2.CX P w) P w K mg base ["ratio", "due"] "_law_is" (defScope s_ulaw_is) (He.fAd K at_ulaw_is) cdv A outer s H E).A (cxOf (L2.CX P w) P w K mg base ["ratio", "due"] "_law_is" (defScope s_ulaw_is) (He.fAd K at_ulaw_is) cdv A outer s H E).env (cxOf (L2.CX P w) P w K mg base ["ratio", "due"] "_law_is" (defScope s_ulaw_is) (He.fAd K at_ulaw_is) cdv A outer s H E).xe := passes_of rfl
    exact (s_one (s_ret (v_and (v_isi (w := .ref (He.ga K ("Ratio" : Str))) rfl (clsAll T) (insAll T) (is_own (hasCases T (T.kit 20))) (pe_glob rfl (T.glo 14) rfl) (.own _) (T.free 19) (v_var 0)) (v_one (v_call tk (ok_ulaw_same T 3) (hr.mono (by decide)) (T.glo 22) (kp_ulaw_same T) (b_ulaw_same T) (a_cons (v_lst true (a_cons (v_fld rfl (clsAll T) 2 (v_var 0)) (a_cons (v_fld rfl (clsAll T) 3 (v_var 0)) a_nil))) (a_cons (v_callTL true (ok_list rfl) rfl (T.free 0) (a_cons (v_var 1) a_nil)) a_nil)))))))
theorem sc_Ratio___str__ : FnScope ["self"] ["self"] (defScope s_Ratio___str__) := ⟨rfl, rfl, rfl, by decide +kernel, rfl, by decide +kernel, by decide +kernel⟩
theorem F_Ratio___str__ (T : TT K mg) : FunD K "__str__" "Ratio.__str__" (defArgs s_Ratio___str__) (defBody s_Ratio___str__) (defScope s_Ratio___str__) (d_Ratio___str__.dvs K) [] (He.fAd K at_Ratio___str__) (fdOf K at_Ratio___str__) := T.c.fd 8 (d := d_Ratio___str__) rfl
theorem kp_Ratio___str__ (T : TT K mg) : PySem.W.keepIn K (.ref (He.fAd K at_Ratio___str__)) = true := (F_Ratio___str__ T).kp
theorem b_Ratio___str__ (T : TT K mg) : Binds K (fdOf K at_Ratio___str__) ["self"] [] := FunD.bindsN (F_Ratio___str__ T) fun _ _ _ _ _ _ us hl => match us, hl with | [_], _ => rfl
theorem ok_Ratio___str__ (T : TT K mg) : FnOk P w K mg base (L2.CX P w) 1 (He.fAd K at_Ratio___str__) (fdOf K at_Ratio___str__) ["self"] (spM (tx K) 1 m_Ratio___str__) :=
  fn_okM (Df.of (st := s_Ratio___str__) (F_Ratio___str__ T)) sc_Ratio___str__ fun cdv A outer s H E hr => by
    have tk : Takes (cxOf (L2.CX P w) P w K mg base ["self"] "Ratio.__str__" (defScope s_Ratio___str__) (He.fAd K at_Ratio___str__) cdv A outer s H E) (WB E) := takes_of rfl rfl rfl rfl
    have hp : PassesOwn (model P w) (cxOf (L2.CX P w) P w K mg base ["self"] "Ratio.__str__" (defScope s_Ratio___str__) (He.fAd K at_Ratio___str__) cdv A outer s H E).A (cxOf (L2.CX P w) P w K mg base ["self"] "Ratio.__str__" (defScope s_Ratio___str__) (He.fAd K at_Ratio___str__) cdv A outer s H E).env (cxOf (L2.CX P w) P w K mg base ["self"] "Ratio.__str__" (defScope s_Ratio___str__) (He.fAd K at_Ratio___str__) cdv A outer s H E).xe := passes_of rfl
    exact (s_cons (s_if (t_cmp (oc_eq rfl (hu64 hr)) (v_fld rfl (clsAll T) 3 (v_var 0)) v_int (nomark _)) (s_one (s_ret (v_calT (cal_str tk (hu2 hr) (by intro q h; cases h)) rfl (T.free 18) (a_cons (v_fld rfl (clsAll T) 2 (v_var 0)) a_nil)))) s_nil)
      (s_one (s_ret (v_joined (ms := [(mFmt (mFld 2 (mVar 0))), (mC (.str ("/" : Str))), (mFmt (mFld 3 (mVar 0)))]) (PJ.cons (v_fmt (v_fld rfl (clsAll T) 2 (v_var 0))) (PJ.cons v_str (PJ.cons (v_fmt (v_fld rfl (clsAll T) 3 (v_var 0))) PJ.nil)))))))
theorem sc_ulaw_plus : FnScope ["one", "other"] ["one", "other"] (defScope s_ulaw_plus) := ⟨rfl, rfl, rfl, by decide +kernel, rfl, by decide +kernel, by decide +kernel⟩
theorem F_ulaw_plus (T : TT K mg) : FunD K "_law_plus" "_law_plus" (defArgs s_ulaw_plus) (defBody s_ulaw_plus) (defScope s_ulaw_plus) (d_ulaw_plus.dvs K) [] (He.fAd K at_ulaw_plus) (fdOf K at_ulaw_plus) := T.c.fd 9 (d := d_ulaw_plus) rfl
theorem kp_ulaw_plus (T : TT K mg) : PySem.W.keepIn K (.ref (He.fAd K at_ulaw_plus)) = true := (F_ulaw_plus T).kp
theorem b_ulaw_plus (T : TT K mg) : Binds K (fdOf K at_ulaw_plus) ["one", "other"] [] := FunD.bindsN (F_ulaw_plus T) fun _ _ _ _ _ _ us hl => match us, hl with | [_, _], _ => rfl
theorem ok_ulaw_plus (T : TT K mg) : FnOk P w K mg base (L2.CX P w) 3 (He.fAd K at_ulaw_plus) (fdOf K at_ulaw_plus) ["one", "other"] (spM (tx K) 2 m_ulaw_plus) :=
  fn_okM (Df.of (st := s_ulaw_plus) (F_ulaw_plus T)) sc_ulaw_plus fun cdv A outer s H E hr => by
    have tk : Takes (cxOf (L2.CX P w) P w K mg base ["one", "other"] "_law_plus" (defScope s_ulaw_plus) (He.fAd K at_ulaw_plus) cdv A outer s H E) (WB E) := takes_of rfl rfl rfl rfl
    have hp : PassesOwn (model P w) (cxOf (L2.CX P w) P w K mg base ["one", "other"] "_law_plus" (defScope s_ulaw_plus) (He.fAd K at_ulaw_plus) cdv A outer s H E).A (cxOf (L2.CX P w) P w K mg base ["one", "other"] "_law_plus" (defScope s_ulaw_plus) (He.fAd K at_ulaw_plus) cdv A outer s H E).env (cxOf (L2.CX P w) P w K mg base ["one", "other"] "_law_plus" (defScope s_ulaw_plus) (He.fAd K at_ulaw_plus) cdv A outer s H E).xe := passes_of rfl
    exact (s_cons (s_if (t_cmp (oc_eq rfl (hu64 hr)) (v_ix rfl (v_var 0) v_int) v_int (nomark _)) (s_one (s_ret (v_var 1))) s_nil)
      (s_cons (s_if (t_cmp (oc_eq rfl (hu64 hr)) (v_ix rfl (v_var 1) v_int) v_int (nomark _)) (s_one (s_ret (v_var 0))) s_nil)
      (s_one (s_ret (v_call tk (ok_ulaw_less T) (hr.mono (by decide)) (T.glo 17) (kp_ulaw_less T) (b_ulaw_less T) (a_cons (v_bin (ob_add rfl) (v_bin ob_mul (v_ix rfl (v_var 0) v_int) (v_ix rfl (v_var 1) v_int)) (v_bin ob_mul (v_ix rfl (v_var 1) v_int) (v_ix rfl (v_var 0) v_int))) (a_cons (v_bin ob_mul (v_ix rfl (v_var 0) v_int) (v_ix rfl (v_var 1) v_int)) a_nil)))))))
theorem sc_Ratio___add__ : FnScope ["self", "other"] ["self", "other"] (defScope s_Ratio___add__) := ⟨rfl, rfl, rfl, by decide +kernel, rfl, by decide +kernel, by decide +kernel⟩
theorem F_Ratio___add__ (T : TT K mg) : FunD K "__add__" "Ratio.__add__" (defArgs s_Ratio___add__) (defBody s_Ratio___add__) (defScope s_Ratio___add__) (d_Ratio___add__.dvs K) [] (He.fAd K at_Ratio___add__) (fdOf K at_Ratio___add__) := T.c.fd 10 (d := d_Ratio___add__) rfl
theorem kp_Ratio___add__ (T : TT K mg) : PySem.W.keepIn K (.ref (He.fAd K at_Ratio___add__)) = true := (F_Ratio___add__ T).kp
theorem b_Ratio___add__ (T : TT K mg) : Binds K (fdOf K at_Ratio___add__) ["self", "other"] [] := FunD.bindsN (F_Ratio___add__ T) fun _ _ _ _ _ _ us hl => match us, hl with | [_, _], _ => rfl
theorem ok_Ratio___add__ (T : TT K mg) : FnOk P w K mg base (L2.CX P w) 3 (He.fAd K at_Ratio___add__) (fdOf K at_Ratio___add__) ["self", "other"] (spM (tx K) 2 m_Ratio___add__) :=
  fn_okM (Df.of (st := s_Ratio___add__) (F_Ratio___add__ T)) sc_Ratio___add__ fun cdv A outer s H E hr => by
    have tk : Takes (cxOf (L2.CX P w) P w K mg base ["self", "other"] "Ratio.__add__" (defScope s_Ratio___add__) (He.fAd K at_Ratio___add__) cdv A outer s H E) (WB E) := takes_of rfl rfl rfl rfl
    have hp : PassesOwn (model P w) (cxOf (L2.CX P w) P w K mg base ["self", "other"] "Ratio.__add__" (defScope s_Ratio___add__) (He.fAd K at_Ratio___add__) cdv A outer s H E).A (cxOf (L2.CX P w) P w K mg base ["self", "other"] "Ratio.__add__" (defScope s_Ratio___add__) (He.fAd K at_Ratio___add__) cdv A outer s H E).env (cxOf (L2.CX P w) P w K mg base ["self", "other"] "Ratio.__add__" (defScope s_Ratio___add__) (He.fAd K at_Ratio___add__) cdv A outer s H E).xe := passes_of rfl
    exact (s_one (s_ret (v_cal (CalM.pure (cal_make tk rfl (T.make 11 12 13) (ok_Ratio___init__ T) (hr.mono (by decide)) (b_Ratio___init__ T))) (T.glo 14) (T.keep 13) (a_cons (v_bin (ob_add rfl) (v_bin ob_mul (v_fld rfl (clsAll T) 2 (v_var 0)) (v_fld rfl (clsAll T) 3 (v_var 1))) (v_bin ob_mul (v_fld rfl (clsAll T) 2 (v_var 1)) (v_fld rfl (clsAll T) 3 (v_var 0)))) (a_cons (v_bin ob_mul (v_fld rfl (clsAll T) 3 (v_var 0)) (v_fld rfl (clsAll T) 3 (v_var 1))) a_nil)))))
theorem sc_ulaw_minus : FnScope ["one", "other"] ["one", "other"] (defScope s_ulaw_minus) := ⟨rfl, rfl, rfl, by decide +kernel, rfl, by decide +kernel, by decide +kernel⟩
theorem F_ulaw_minus (T : TT K mg) : FunD K "_law_minus" "_law_minus" (defArgs s_ulaw_minus) (defBody s_ulaw_minus) (defScope s_ulaw_minus) (d_ulaw_minus.dvs K) [] (He.fAd K at_ulaw_minus) (fdOf K at_ulaw_minus) := T.c.fd 11 (d := d_ulaw_minus) rfl
theorem kp_ulaw_minus (T : TT K mg) : PySem.W.keepIn K (.ref (He.fAd K at_ulaw_minus)) = true := (F_ulaw_minus T).kp
theorem b_ulaw_minus (T : TT K mg) : Binds K (fdOf K at_ulaw_minus) ["one", "other"] [] := FunD.bindsN (F_ulaw_minus T) fun _ _ _ _ _ _ us hl => match us, hl with | [_, _], _ => rfl
theorem ok_ulaw_minus (T : TT K mg) : FnOk P w K mg base (L2.CX P w) 4 (He.fAd K at_ulaw_minus) (fdOf K at_ulaw_minus) ["one", "other"] (spM (tx K) 2 m_ulaw_minus) :=
  fn_okM (Df.of (st := s_ulaw_minus) (F_ulaw_minus T)) sc_ulaw_minus fun cdv A outer s H E hr => by
    have tk : Takes (cxOf (L2.CX P w) P w K mg base ["one", "other"] "_law_minus" (defScope s_ulaw_minus) (He.fAd K at_ulaw_minus) cdv A outer s H E) (WB E) := takes_of rfl rfl rfl rfl
    have hp : PassesOwn (model P w) (cxOf (L2.CX P w) P w K mg base ["one", "other"] "_law_minus" (defScope s_ulaw_minus) (He.fAd K at_ulaw_minus) cdv A outer s H E).A (cxOf (L2.CX P w) P w K mg base ["one", "other"] "_law_minus" (defScope s_ulaw_minus) (He.fAd K at_ulaw_minus) cdv A outer s H E).env (cxOf (L2.CX P w) P w K mg base ["one", "other"] "_law_minus" (defScope s_ulaw_minus) (He.fAd K at_ulaw_minus) cdv A outer s H E).xe := passes_of rfl
    exact (s_one (s_ret (v_call tk (ok_ulaw_plus T) (hr.mono (by decide)) (T.glo 27) (kp_ulaw_plus T) (b_ulaw_plus T) (a_cons (v_var 0) (a_cons (v_tup (a_cons (v_bin ob_sub v_int (v_ix rfl (v_var 1) v_int)) (a_cons (v_ix rfl (v_var 1) v_int) a_nil))) a_nil)))))
theorem sc_Ratio___sub__ : FnScope ["self", "other"] ["self", "other"] (defScope s_Ratio___sub__) := ⟨rfl, rfl, rfl, by decide +kernel, rfl, by decide +kernel, by decide +kernel⟩
theorem F_Ratio___sub__ (T : TT K mg) : FunD K "__sub__" "Ratio.__sub__" (defArgs s_Ratio___sub__) (defBody s_Ratio___sub__) (defScope s_Ratio___sub__) (d_Ratio___sub__.dvs K) [] (He.fAd K at_Ratio___sub__) (fdOf K at_Ratio___sub__) := T.c.fd 12 (d := d_Ratio___sub__) rfl
theorem kp_Ratio___sub__ (T : TT K mg) : PySem.W.keepIn K (.ref (He.fAd K at_Ratio___sub__)) = true := (F_Ratio___sub__ T).kp
theorem b_Ratio___sub__ (T : TT K mg) : Binds K (fdOf K at_Ratio___sub__) ["self", "other"] [] := FunD.bindsN (F_Ratio___sub__ T) fun _ _ _ _ _ _ us hl => match us, hl with | [_, _], _ => rfl
theorem ok_Ratio___sub__ (T : TT K mg) : FnOk P w K mg base (L2.CX P w) 3 (He.fAd K at_Ratio___sub__) (fdOf K at_Ratio___sub__) ["self", "other"] (spM (tx K) 2 m_Ratio___sub__) :=
  fn_okM (Df.of (st := s_Ratio___sub__) (F_Ratio___sub__ T)) sc_Ratio___sub__ fun cdv A outer s H E hr => by
    have tk : Takes (cxOf (L2.CX P w) P w K mg base ["self", "other"] "Ratio.__sub__" (defScope s_Ratio___sub__) (He.fAd K at_Ratio___sub__) cdv A outer s H E) (WB E) := takes_of rfl rfl rfl rfl
    have hp : PassesOwn (model P w) (cxOf (L2.CX P w) P w K mg base ["self", "other"] "Ratio.__sub__" (defScope s_Ratio___sub__) (He.fAd K at_Ratio___sub__) cdv A outer s H E).A (cxOf (L2.CX P w) P w K mg base ["self", "other"] "Ratio.__sub__" (defScope s_Ratio___sub__) (He.fAd K at_Ratio___sub__) cdv A outer s H E).env (cxOf (L2.CX P w) P w K mg base ["self", "other"] "Ratio.__sub__" (defScope s_Ratio___sub__) (He.fAd K at_Ratio___sub__) cdv A outer s H E).xe := passes_of rfl
    exact (s_one (s_ret (v_cal (CalM.pure (cal_make tk rfl (T.make 11 12 13) (ok_Ratio___init__ T) (hr.mono (by decide)) (b_Ratio___init__ T))) (T.glo 14) (T.keep 13) (a_cons (v_bin ob_sub (v_bin ob_mul (v_fld rfl (clsAll T) 2 (v_var 0)) (v_fld rfl (clsAll T) 3 (v_var 1))) (v_bin ob_mul (v_fld rfl (clsAll T) 2 (v_var 1)) (v_fld rfl (clsAll T) 3 (v_var 0)))) (a_cons (v_bin ob_mul (v_fld rfl (clsAll T) 3 (v_var 0)) (v_fld rfl (clsAll T) 3 (v_var 1))) a_nil)))))
theorem sc_ulaw_times : FnScope ["one", "other"] ["one", "other"] (defScope s_ulaw_times) := ⟨rfl, rfl, rfl, by decide +kernel, rfl, by decide +kernel, by decide +kernel⟩
theorem F_ulaw_times (T : TT K mg) : FunD K "_law_times" "_law_times" (defArgs s_ulaw_times) (defBody s_ulaw_times) (defScope s_ulaw_times) (d_ulaw_times.dvs K) [] (He.fAd K at_ulaw_times) (fdOf K at_ulaw_times) := T.c.fd 13 (d := d_ulaw_times) rfl
theorem kp_ulaw_times (T : TT K mg) : PySem.W.keepIn K (.ref (He.fAd K at_ulaw_times)) = true := (F_ulaw_times T).kp
theorem b_ulaw_times (T : TT K mg) : Binds K (fdOf K at_ulaw_times) ["one", "other"] [] := FunD.bindsN (F_ulaw_times T) fun _ _ _ _ _ _ us hl => match us, hl with | [_, _], _ => rfl
theorem ok_ulaw_times (T : TT K mg) : FnOk P w K mg base (L2.CX P w) 3 (He.fAd K at_ulaw_times) (fdOf K at_ulaw_times) ["one", "other"] (spM (tx K) 2 m_ulaw_times) :=
  fn_okM (Df.of (st := s_ulaw_times) (F_ulaw_times T)) sc_ulaw_times fun cdv A outer s H E hr => by
    have tk : Takes (cxOf (L2.CX P w) P w K mg base ["one", "other"] "_law_times" (defScope s_ulaw_times) (He.fAd K at_ulaw_times) cdv A outer s H E) (WB E) := takes_of rfl rfl rfl rfl
    have hp : PassesOwn (model P w) (cxOf (L2.CX P w) P w K mg base ["one", "other"] "_law_times" (defScope s_ulaw_times) (He.fAd K at_ulaw_times) cdv A outer s H E).A (cxOf (L2.CX P w) P w K mg base ["one", "other"] "_law_times" (defScope s_ulaw_times) (He.fAd K at_ulaw_times) cdv A outer s H E).env (cxOf (L2.CX P w) P w K mg base ["one", "other"] "_law_times" (defScope s_ulaw_times) (He.fAd K at_ulaw_times) cdv A outer s H E).xe := passes_of rfl
    exact (s_one (s_ret (v_call tk (ok_ulaw_less T) (hr.mono (by decide)) (T.glo 17) (kp_ulaw_less T) (b_ulaw_less T) (a_cons (v_bin ob_mul (v_ix rfl (v_var 0) v_int) (v_ix rfl (v_var 1) v_int)) (a_cons (v_bin ob_mul (v_ix rfl (v_var 0) v_int) (v_ix rfl (v_var 1) v_int)) a_nil)))))
theorem sc_Ratio___mul__ : FnScope ["self", "other"] ["self", "other"] (defScope s_Ratio___mul__) := ⟨rfl, rfl, rfl, by decide +kernel, rfl, by decide +kernel, by decide +kernel⟩
theorem F_Ratio___mul__ (T : TT K mg) : FunD K "__mul__" "Ratio.__mul__" (defArgs s_Ratio___mul__) (defBody s_Ratio___mul__) (defScope s_Ratio___mul__) (d_Ratio___mul__.dvs K) [] (He.fAd K at_Ratio___mul__) (fdOf K at_Ratio___mul__) := T.c.fd 14 (d := d_Ratio___mul__) rfl
theorem kp_Ratio___mul__ (T : TT K mg) : PySem.W.keepIn K (.ref (He.fAd K at_Ratio___mul__)) = true := (F_Ratio___mul__ T).kp
theorem b_Ratio___mul__ (T : TT K mg) : Binds K (fdOf K at_Ratio___mul__) ["self", "other"] [] := FunD.bindsN (F_Ratio___mul__ T) fun _ _ _ _ _ _ us hl => match us, hl with | [_, _], _ => rfl
theorem ok_Ratio___mul__ (T : TT K mg) : FnOk P w K mg base (L2.CX P w) 3 (He.fAd K at_Ratio___mul__) (fdOf K at_Ratio___mul__) ["self", "other"] (spM (tx K) 2 m_Ratio___mul__) :=
  fn_okM (Df.of (st := s_Ratio___mul__) (F_Ratio___mul__ T)) sc_Ratio___mul__ fun cdv A outer s H E hr => by
    have tk : Takes (cxOf (L2.CX P w) P w K mg base ["self", "other"] "Ratio.__mul__" (defScope s_Ratio___mul__) (He.fAd K at_Ratio___mul__) cdv A outer s H E) (WB E) := takes_of rfl rfl rfl rfl
    have hp : PassesOwn (model P w) (cxOf (L2.CX P w) P w K mg base ["self", "other"] "Ratio.__mul__" (defScope s_Ratio___mul__) (He.fAd K at_Ratio___mul__) cdv A outer s H E).A (cxOf (L2.CX P w) P w K mg base ["self", "other"] "Ratio.__mul__" (defScope s_Ratio___mul__) (He.fAd K at_Ratio___mul__) cdv A outer s H E).env (cxOf (L2.CX P w) P w K mg base ["self", "other"] "Ratio.__mul__" (defScope s_Ratio___mul__) (He.fAd K at_Ratio___mul__) cdv A outer s H E).xe := passes_of rfl
    exact (s_one (s_ret (v_cal (CalM.pure (cal_make tk rfl (T.make 11 12 13) (ok_Ratio___init__ T) (hr.mono (by decide)) (b_Ratio___init__ T))) (T.glo 14) (T.keep 13) (a_cons (v_bin ob_mul (v_fld rfl (clsAll T) 2 (v_var 0)) (v_fld rfl (clsAll T) 2 (v_var 1))) (a_cons (v_bin ob_mul (v_fld rfl (clsAll T) 3 (v_var 0)) (v_fld rfl (clsAll T) 3 (v_var 1))) a_nil)))))
theorem sc_ulaw_below : FnScope ["one", "other"] ["one", "other"] (defScope s_ulaw_below) := ⟨rfl, rfl, rfl, by decide +kernel, rfl, by decide +kernel, by decide +kernel⟩
theorem F_ulaw_below (T : TT K mg) : FunD K "_law_below" "_law_below" (defArgs s_ulaw_below) (defBody s_ulaw_below) (defScope s_ulaw_below) (d_ulaw_below.dvs K) [] (He.fAd K at_ulaw_below) (fdOf K at_ulaw_below) := T.c.fd 15 (d := d_ulaw_below) rfl
theorem kp_ulaw_below (T : TT K mg) : PySem.W.keepIn K (.ref (He.fAd K at_ulaw_below)) = true := (F_ulaw_below T).kp
theorem b_ulaw_below (T : TT K mg) : Binds K (fdOf K at_ulaw_below) ["one", "other"] [] := FunD.bindsN (F_ulaw_below T) fun _ _ _ _ _ _ us hl => match us, hl with | [_, _], _ => rfl
theorem ok_ulaw_below (T : TT K mg) : FnOk P w K mg base (L2.CX P w) 1 (He.fAd K at_ulaw_below) (fdOf K at_ulaw_below) ["one", "other"] (spM (tx K) 2 m_ulaw_below) :=
  fn_okM (Df.of (st := s_ulaw_below) (F_ulaw_below T)) sc_ulaw_below fun cdv A outer s H E hr => by
    have tk : Takes (cxOf (L2.CX P w) P w K mg base ["one", "other"] "_law_below" (defScope s_ulaw_below) (He.fAd K at_ulaw_below) cdv A outer s H E) (WB E) := takes_of rfl rfl rfl rfl
    have hp : PassesOwn (model P w) (cxOf (L2.CX P w) P w K mg base ["one", "other"] "_law_below" (defScope s_ulaw_below) (He.fAd K at_ulaw_below) cdv A outer s H E).A (cxOf (L2.CX P w) P w K mg base ["one", "other"] "_law_below" (defScope s_ulaw_below) (He.fAd K at_ulaw_below) cdv A outer s H E).env (cxOf (L2.CX P w) P w K mg base ["one", "other"] "_law_below" (defScope s_ulaw_below) (He.fAd K at_ulaw_below) cdv A outer s H E).xe := passes_of rfl
    exact (s_one (s_ret (v_cmp oc_lt (v_bin ob_mul (v_ix rfl (v_var 0) v_int) (v_ix rfl (v_var 1) v_int)) (v_bin ob_mul (v_ix rfl (v_var 1) v_int) (v_ix rfl (v_var 0) v_int)) (nomark _))))
theorem sc_Ratio_less : FnScope ["self", "other"] ["self", "other"] (defScope s_Ratio_less) := ⟨rfl, rfl, rfl, by decide +kernel, rfl, by decide +kernel, by decide +kernel⟩
theorem F_Ratio_less (T : TT K mg) : FunD K "less" "Ratio.less" (defArgs s_Ratio_less) (defBody s_Ratio_less) (defScope s_Ratio_less) (d_Ratio_less.dvs K) [] (He.fAd K at_Ratio_less) (fdOf K at_Ratio_less) := T.c.fd 16 (d := d_Ratio_less) rfl
theorem kp_Ratio_less (T : TT K mg) : PySem.W.keepIn K (.ref (He.fAd K at_Ratio_less)) = true := (F_Ratio_less T).kp
theorem b_Ratio_less (T : TT K mg) : Binds K (fdOf K at_Ratio_less) ["self", "other"] [] := FunD.bindsN (F_Ratio_less T) fun _ _ _ _ _ _ us hl => match us, hl with | [_, _], _ => rfl
theorem ok_Ratio_less (T : TT K mg) : FnOk P w K mg base (L2.CX P w) 1 (He.fAd K at_Ratio_less) (fdOf K at_Ratio_less) ["self", "other"] (spM (tx K) 2 m_Ratio_less) :=
  fn_okM (Df.of (st := s_Ratio_less) (F_Ratio_less T)) sc_Ratio_less fun cdv A outer s H E hr => by
    have tk : Takes (cxOf (L2.CX P w) P w K mg base ["self", "other"] "Ratio.less" (defScope s_Ratio_less) (He.fAd K at_Ratio_less) cdv A outer s H E) (WB E) := takes_of rfl rfl rfl rfl
    have hp : PassesOwn (model P w) (cxOf (L2.CX P w) P w K mg base ["self", "other"] "Ratio.less" (defScope s_Ratio_less) (He.fAd K at_Ratio_less) cdv A outer s H E).A (cxOf (L2.CX P w) P w K mg base ["self", "other"] "Ratio.less" (defScope s_Ratio_less) (He.fAd K at_Ratio_less) cdv A outer s H E).env (cxOf (L2.CX P w) P w K mg base ["self", "other"] "Ratio.less" (defScope s_Ratio_less) (He.fAd K at_Ratio_less) cdv A outer s H E).xe := passes_of rfl
    exact (s_one (s_ret (v_cmp oc_lt (v_bin ob_mul (v_fld rfl (clsAll T) 2 (v_var 0)) (v_fld rfl (clsAll T) 3 (v_var 1))) (v_bin ob_mul (v_fld rfl (clsAll T) 2 (v_var 1)) (v_fld rfl (clsAll T) 3 (v_var 0))) (nomark _))))
theorem sc_Ratio___eq__ : FnScope ["self", "other"] ["self", "other"] (defScope s_Ratio___eq__) := ⟨rfl, rfl, rfl, by decide +kernel, rfl, by decide +kernel, by decide +kernel⟩
theorem F_Ratio___eq__ (T : TT K mg) : FunD K "__eq__" "Ratio.__eq__" (defArgs s_Ratio___eq__) (defBody s_Ratio___eq__) (defScope s_Ratio___eq__) (d_Ratio___eq__.dvs K) [] (He.fAd K at_Ratio___eq__) (fdOf K at_Ratio___eq__) := T.c.fd 17 (d := d_Ratio___eq__) rfl
theorem kp_Ratio___eq__ (T : TT K mg) : PySem.W.keepIn K (.ref (He.fAd K at_Ratio___eq__)) = true := (F_Ratio___eq__ T).kp
theorem b_Ratio___eq__ (T : TT K mg) : Binds K (fdOf K at_Ratio___eq__) ["self", "other"] [] := FunD.bindsN (F_Ratio___eq__ T) fun _ _ _ _ _ _ us hl => match us, hl with | [_, _], _ => rfl
theorem ok_Ratio___eq__ (T : TT K mg) : FnOk P w K mg base (L2.CX P w) 1 (He.fAd K at_Ratio___eq__) (fdOf K at_Ratio___eq__) ["self", "other"] (spM (tx K) 2 m_Ratio___eq__) :=
  fn_okM (Df.of (st := s_Ratio___eq__) (F_Ratio___eq__ T)) sc_Ratio___eq__ fun cdv A outer s H E hr => by
    have tk : Takes (cxOf (L2.CX P w) P w K mg base ["self", "other"] "Ratio.__eq__" (defScope s_Ratio___eq__) (He.fAd K at_Ratio___eq__) cdv A outer s H E) (WB E) := takes_of rfl rfl rfl rfl
    have hp : PassesOwn (model P w) (cxOf (L2.CX P w) P w K mg base ["self", "other"] "Ratio.__eq__" (defScope s_Ratio___eq__) (He.fAd K at_Ratio___eq__) cdv A outer s H E).A (cxOf (L2.CX P w) P w K mg base ["self", "other"] "Ratio.__eq__" (defScope s_Ratio___eq__) (He.fAd K at_Ratio___eq__) cdv A outer s H E).env (cxOf (L2.CX P w) P w K mg base ["self", "other"] "Ratio.__eq__" (defScope s_Ratio___eq__) (He.fAd K at_Ratio___eq__) cdv A outer s H E).xe := passes_of rfl
    exact (s_one (s_ret (v_and (v_isi (w := .ref (He.ga K ("Ratio" : Str))) rfl (clsAll T) (insAll T) (is_own (hasCases T (T.kit 20))) (pe_glob rfl (T.glo 14) rfl) (.own _) (T.free 19) (v_var 1)) (v_and (v_cmp (oc_eq rfl (hu64 hr)) (v_fld rfl (clsAll T) 2 (v_var 0)) (v_fld rfl (clsAll T) 2 (v_var 1)) (nomark _)) (v_one (v_cmp (oc_eq rfl (hu64 hr)) (v_fld rfl (clsAll T) 3 (v_var 0)) (v_fld rfl (clsAll T) 3 (v_var 1)) (nomark _)))))))
theorem sc_Ratio_over : FnScope ["self", "other"] ["self", "other"] (defScope s_Ratio_over) := ⟨rfl, rfl, rfl, by decide +kernel, rfl, by decide +kernel, by decide +kernel⟩
theorem F_Ratio_over (T : TT K mg) : FunD K "over" "Ratio.over" (defArgs s_Ratio_over) (defBody s_Ratio_over) (defScope s_Ratio_over) (d_Ratio_over.dvs K) [] (He.fAd K at_Ratio_over) (fdOf K at_Ratio_over) := T.c.fd 18 (d := d_Ratio_over) rfl
theorem kp_Ratio_over (T : TT K mg) : PySem.W.keepIn K (.ref (He.fAd K at_Ratio_over)) = true := (F_Ratio_over T).kp
theorem b_Ratio_over (T : TT K mg) : Binds K (fdOf K at_Ratio_over) ["self", "other"] [] := FunD.bindsN (F_Ratio_over T) fun _ _ _ _ _ _ us hl => match us, hl with | [_, _], _ => rfl
theorem ok_Ratio_over (T : TT K mg) : FnOk P w K mg base (L2.CX P w) 3 (He.fAd K at_Ratio_over) (fdOf K at_Ratio_over) ["self", "other"] (spM (tx K) 2 m_Ratio_over) :=
  fn_okM (Df.of (st := s_Ratio_over) (F_Ratio_over T)) sc_Ratio_over fun cdv A outer s H E hr => by
    have tk : Takes (cxOf (L2.CX P w) P w K mg base ["self", "other"] "Ratio.over" (defScope s_Ratio_over) (He.fAd K at_Ratio_over) cdv A outer s H E) (WB E) := takes_of rfl rfl rfl rfl
    have hp : PassesOwn (model P w) (cxOf (L2.CX P w) P w K mg base ["self", "other"] "Ratio.over" (defScope s_Ratio_over) (He.fAd K at_Ratio_over) cdv A outer s H E).A (cxOf (L2.CX P w) P w K mg base ["self", "other"] "Ratio.over" (defScope s_Ratio_over) (He.fAd K at_Ratio_over) cdv A outer s H E).env (cxOf (L2.CX P w) P w K mg base ["self", "other"] "Ratio.over" (defScope s_Ratio_over) (He.fAd K at_Ratio_over) cdv A outer s H E).xe := passes_of rfl
    exact (s_cons (s_if (t_cmp (oc_eq rfl (hu64 hr)) (v_fld rfl (clsAll T) 2 (v_var 1)) v_int (nomark _)) (s_one (s_raise rfl tk PySem.F.excBase_ValueError (T.exc 7).1 (T.glo 8) (T.keep 9) (raises_own (T.exc 7).2.1 (T.exc 7).2.2) rfl)) s_nil)
      (s_cons (s_if (t_cmp oc_lt (v_fld rfl (clsAll T) 2 (v_var 1)) v_int (nomark _)) (s_one (s_ret (v_cal (CalM.pure (cal_make tk rfl (T.make 11 12 13) (ok_Ratio___init__ T) (hr.mono (by decide)) (b_Ratio___init__ T))) (T.glo 14) (T.keep 13) (a_cons (v_bin ob_sub v_int (v_bin ob_mul (v_fld rfl (clsAll T) 2 (v_var 0)) (v_fld rfl (clsAll T) 3 (v_var 1)))) (a_cons (v_bin ob_sub v_int (v_bin ob_mul (v_fld rfl (clsAll T) 3 (v_var 0)) (v_fld rfl (clsAll T) 2 (v_var 1)))) a_nil))))) s_nil)
      (s_one (s_ret (v_cal (CalM.pure (cal_make tk rfl (T.make 11 12 13) (ok_Ratio___init__ T) (hr.mono (by decide)) (b_Ratio___init__ T))) (T.glo 14) (T.keep 13) (a_cons (v_bin ob_mul (v_fld rfl (clsAll T) 2 (v_var 0)) (v_fld rfl (clsAll T) 3 (v_var 1))) (a_cons (v_bin ob_mul (v_fld rfl (clsAll T) 3 (v_var 0)) (v_fld rfl (clsAll T) 2 (v_var 1))) a_nil)))))))
theorem sc_ulaw_refused : FnScope ["one", "other", "e"] ["one", "other"] (defScope s_ulaw_refused) := ⟨rfl, rfl, rfl, by decide +kernel, rfl, by decide +kernel, by decide +kernel⟩
theorem F_ulaw_refused (T : TT K mg) : FunD K "_law_refused" "_law_refused" (defArgs s_ulaw_refused) (defBody s_ulaw_refused) (defScope s_ulaw_refused) (d_ulaw_refused.dvs K) [] (He.fAd K at_ulaw_refused) (fdOf K at_ulaw_refused) := T.c.fd 19 (d := d_ulaw_refused) rfl
theorem kp_ulaw_refused (T : TT K mg) : PySem.W.keepIn K (.ref (He.fAd K at_ulaw_refused)) = true := (F_ulaw_refused T).kp
theorem b_ulaw_refused (T : TT K mg) : Binds K (fdOf K at_ulaw_refused) ["one", "other"] [] := FunD.bindsN (F_ulaw_refused T) fun _ _ _ _ _ _ us hl => match us, hl with | [_, _], _ => rfl
theorem ok_ulaw_refused (T : TT K mg) : FnOk P w K mg base (L2.CX P w) 4 (He.fAd K at_ulaw_refused) (fdOf K at_ulaw_refused) ["one", "other"] (spM (tx K) 2 m_ulaw_refused) :=
  fn_okM (Df.of (st := s_ulaw_refused) (F_ulaw_refused T)) sc_ulaw_refused fun cdv A outer s H E hr => by
    have tk : Takes (cxOf (L2.CX P w) P w K mg base ["one", "other", "e"] "_law_refused" (defScope s_ulaw_refused) (He.fAd K at_ulaw_refused) cdv A outer s H E) (WB E) := takes_of rfl rfl rfl rfl
    have hp : PassesOwn (model P w) (cxOf (L2.CX P w) P w K mg base ["one", "other", "e"] "_law_refused" (defScope s_ulaw_refused) (He.fAd K at_ulaw_refused) cdv A outer s H E).A (cxOf (L2.CX P w) P w K mg base ["one", "other", "e"] "_law_refused" (defScope s_ulaw_refused) (He.fAd K at_ulaw_refused) cdv A outer s H E).env (cxOf (L2.CX P w) P w K mg base ["one", "other", "e"] "_law_refused" (defScope s_ulaw_refused) (He.fAd K at_ulaw_refused) cdv A outer s H E).xe := passes_of rfl
    exact (s_cons (s_try rfl rfl rfl sc_ulaw_refused.nd ⟨rfl, rfl, .inl (T.glo 48)⟩ tk (fun c h => hasXCases (p := fun v => PySem.W.exmOne K v (.ref (He.ga K ("FrameError" : Str)))) (b := fun c => subX c 0) T (T.exm 47) h) (fun W pn xe tk hp => (s_one (s_if (t_cmp oc_is (v_var 1) v_non (nomark _)) (s_one (s_expr (v_cal (CalM.pure (cal_make tk rfl (T.make 11 12 13) (ok_Ratio___init__ T) (hr.mono (by decide)) (b_Ratio___init__ T))) (T.glo 14) (T.keep 13) (a_cons (v_ix rfl (v_var 0) v_int) (a_cons (v_ix rfl (v_var 0) v_int) a_nil))))) (s_one (s_expr (v_meth rfl (clsAll T) tk (one_all (P := fun c m => MetOk _ _ _ _ c m) ⟨⟨_, _, _, _, ⟨(T.met 36).1, (T.met 36).2, (kp_Ratio_over T)⟩, (ok_Ratio_over T), (hr.mono (by decide)), (b_Ratio_over T)⟩, by decide +kernel⟩) (v_cal (CalM.pure (cal_make tk rfl (T.make 11 12 13) (ok_Ratio___init__ T) (hr.mono (by decide)) (b_Ratio___init__ T))) (T.glo 14) (T.keep 13) (a_cons (v_ix rfl (v_var 0) v_int) (a_cons (v_ix rfl (v_var 0) v_int) a_nil))) (a_cons (v_cal (CalM.pure (cal_make tk rfl (T.make 11 12 13) (ok_Ratio___init__ T) (hr.mono (by decide)) (b_Ratio___init__ T))) (T.glo 14) (T.keep 13) (a_cons (v_ix rfl (v_var 1) v_int) (a_cons (v_ix rfl (v_var 1) v_int) a_nil))) a_nil))))))) (fun a oe cl d pn c fs hz hf => (s_cons (s_if (t_tru rfl (v_excIsT 2 (ws := [(V.ref (He.ga K ("BadDeed" : Str))), (V.ref (He.ga K ("BadFrame" : Str))), (V.ref (He.ga K ("BadLoad" : Str))), (V.ref (He.ga K ("BadPaper" : Str))), (V.ref (He.ga K ("BadPlan" : Str))), (V.ref (He.ga K ("BadText" : Str)))]) (cvs := [(.ref (He.ga K ("BadDeed" : Str))), (.ref (He.ga K ("BadFrame" : Str))), (.ref (He.ga K ("BadLoad" : Str))), (.ref (He.ga K ("BadPaper" : Str))), (.ref (He.ga K ("BadPlan" : Str))), (.ref (He.ga K ("BadText" : Str)))]) (excAll T) (hasXCases (p := fun v => PySem.W.kitAny K v [(.ref (He.ga K ("BadDeed" : Str))), (.ref (He.ga K ("BadFrame" : Str))), (.ref (He.ga K ("BadLoad" : Str))), (.ref (He.ga K ("BadPaper" : Str))), (.ref (He.ga K ("BadPlan" : Str))), (.ref (He.ga K ("BadText" : Str)))]) (b := fun c => (subXs c [6, 2, 4, 5, 3, 1])) T (T.kitA 43)) hz hf (.cons (.own _) (.cons (.own _) (.cons (.own _) (.cons (.own _) (.cons (.own _) (.cons (.own _) .nil)))))) (pv 2) (pa_mono (pa_cons (pe_glob (v := V.ref (He.ga K ("BadDeed" : Str))) rfl (T.glo 37) rfl) (pa_cons (pe_glob (v := V.ref (He.ga K ("BadFrame" : Str))) rfl (T.glo 38) rfl) (pa_cons (pe_glob (v := V.ref (He.ga K ("BadLoad" : Str))) rfl (T.glo 39) rfl) (pa_cons (pe_glob (v := V.ref (He.ga K ("BadPaper" : Str))) rfl (T.glo 40) rfl) (pa_cons (pe_glob (v := V.ref (He.ga K ("BadPlan" : Str))) rfl (T.glo 41) rfl) (pa_cons (pe_glob (v := V.ref (He.ga K ("BadText" : Str))) rfl (T.glo 42) rfl) pa_nil)))))) fun _ _ _ h => h) (show 6 ≤ 1000 by decide) (T.free 19))) (s_one (s_ret v_bl)) s_nil)
      (s_one (s_ret (v_and (v_excIs 2 (w := (V.ref (He.ga K ("BadRatio" : Str)))) (cv := (.ref (He.ga K ("BadRatio" : Str)))) (excAll T) (hasXCases (p := fun v => PySem.W.kitOne K v (.ref (He.ga K ("BadRatio" : Str)))) (b := fun c => (subX c 7)) T (T.kit 44)) hz hf (.own _) (pv 2) (pe_glob (v := V.ref (He.ga K ("BadRatio" : Str))) rfl (T.glo 8) rfl) (T.free 19)) (v_one (v_excIs 2 (w := (V.ty "ValueError")) (cv := (.type "ValueError")) (excAll T) (hasXCases (p := fun v => PySem.W.kitOne K v (.type "ValueError")) (b := fun c => true) T (T.kit 46)) hz hf (.ty _) (pv 2) (pe_bltn rfl (T.free 45) rfl rfl) (T.free 19)))))))))
      (s_one (s_ret v_bl)))
theorem sc_law : FnScope ["script", "pool", "turn", "one", "other", "a", "b", "due", "text", "sign", "num", "den"] ["script"] (defScope s_law) := ⟨rfl, rfl, rfl, by decide +kernel, rfl, by decide +kernel, by decide +kernel⟩
theorem F_law (T : TT K mg) : FunD K "law" "law" (defArgs s_law) (defBody s_law) (defScope s_law) (d_law.dvs K) [] (He.fAd K at_law) (fdOf K at_law) := T.c.fd 20 (d := d_law) rfl
theorem kp_law (T : TT K mg) : PySem.W.keepIn K (.ref (He.fAd K at_law)) = true := (F_law T).kp
theorem b_law (T : TT K mg) : Binds K (fdOf K at_law) ["script"] [] := FunD.bindsN (F_law T) fun _ _ _ _ _ _ us hl => match us, hl with | [_], _ => rfl
theorem ok_law (T : TT K mg) : FnOk P w K mg base (L2.CX P w) 6 (He.fAd K at_law) (fdOf K at_law) ["script"] (spM (tx K) 1 m_law) :=
  fn_okM (Df.of (st := s_law) (F_law T)) sc_law fun cdv A outer s H E hr => by
    have tk : Takes (cxOf (L2.CX P w) P w K mg base ["script", "pool", "turn", "one", "other", "a", "b", "due", "text", "sign", "num", "den"] "law" (defScope s_law) (He.fAd K at_law) cdv A outer s H E) (WB E) := takes_of rfl rfl rfl rfl
    have hp : PassesOwn (model P w) (cxOf (L2.CX P w) P w K mg base ["script", "pool", "turn", "one", "other", "a", "b", "due", "text", "sign", "num", "den"] "law" (defScope s_law) (He.fAd K at_law) cdv A outer s H E).A (cxOf (L2.CX P w) P w K mg base ["script", "pool", "turn", "one", "other", "a", "b", "due", "text", "sign", "num", "den"] "law" (defScope s_law) (He.fAd K at_law) cdv A outer s H E).env (cxOf (L2.CX P w) P w K mg base ["script", "pool", "turn", "one", "other", "a", "b", "due", "text", "sign", "num", "den"] "law" (defScope s_law) (He.fAd K at_law) cdv A outer s H E).xe := passes_of rfl
    exact (s_cons (s_set 1 sc_law.nd (v_call tk (ok_ulaw_pool T) (hr.mono (by decide)) (T.glo 1) (kp_ulaw_pool T) (b_ulaw_pool T) (a_cons (v_var 0) (a_cons v_int a_nil))))
      (s_cons (s_for (vs := [2]) hp rfl (i_range (T.free 2) v_int) (g_name 2 sc_law.nd) (s_cons (s_set 3 sc_law.nd (v_call tk (ok_ulaw_pair T) (hr.mono (by decide)) (T.glo 6) (kp_ulaw_pair T) (b_ulaw_pair T) (a_cons (v_var 1) a_nil)))
      (s_cons (s_set 4 sc_law.nd (v_ix rfl (v_tup (a_cons (v_call tk (ok_ulaw_pair T) (hr.mono (by decide)) (T.glo 6) (kp_ulaw_pair T) (b_ulaw_pair T) (a_cons (v_var 1) a_nil)) (a_cons (v_var 3) a_nil))) (v_callT ok_int rfl (T.free 4) (a_cons (v_cmp (oc_eq rfl (hu64 hr)) (v_call tk (ok_ulaw_draw T) (hr.mono (by decide)) (T.glo 5) (kp_ulaw_draw T) (b_ulaw_draw T) (a_cons (v_var 1) (a_cons v_int a_nil))) v_int (nomark _)) a_nil))))
      (s_cons (s_set 5 sc_law.nd (v_cal (CalM.pure (cal_make tk rfl (T.make 11 12 13) (ok_Ratio___init__ T) (hr.mono (by decide)) (b_Ratio___init__ T))) (T.glo 14) (T.keep 13) (a_cons (v_ix rfl (v_var 3) v_int) (a_cons (v_ix rfl (v_var 3) v_int) a_nil))))
      (s_cons (s_if (t_cmp (oc_eq rfl (hu64 hr)) (v_var 2) v_int (nomark _)) (s_one (s_set 5 sc_law.nd (v_makeK (gA := kw_Ratio_1_den_g) (gM := kw_Ratio_1_den_g) new_pure tk rfl (T.make 11 12 13) (ok_Ratio___init__ T) (hr.mono (by decide)) (T.glo 14) (kw_Ratio_1_den_b T) kw_Ratio_1_den_h1 kw_Ratio_1_den_h2 kw_Ratio_1_den_h3 (a_cons (v_ix rfl (v_var 3) v_int) a_nil) (k_cons (v_ix rfl (v_var 3) v_int) k_nil)))) s_nil)
      (s_cons (s_if (t_cmp (oc_eq rfl (hu64 hr)) (v_var 2) v_int (nomark _)) (s_one (s_set 5 sc_law.nd (v_makeK0 (gA := kw_Ratio_0_den_num_g) (gM := kw_Ratio_0_den_num_g) new_pure tk rfl (T.make 11 12 13) (ok_Ratio___init__ T) (hr.mono (by decide)) (T.glo 14) (kw_Ratio_0_den_num_b T) kw_Ratio_0_den_num_h1 kw_Ratio_0_den_num_h2 kw_Ratio_0_den_num_h3 (k_cons (v_ix rfl (v_var 3) v_int) (k_cons (v_ix rfl (v_var 3) v_int) k_nil))))) s_nil)
      (s_cons (s_set 6 sc_law.nd (v_cal (CalM.pure (cal_make tk rfl (T.make 11 12 13) (ok_Ratio___init__ T) (hr.mono (by decide)) (b_Ratio___init__ T))) (T.glo 14) (T.keep 13) (a_cons (v_ix rfl (v_var 4) v_int) (a_cons (v_ix rfl (v_var 4) v_int) a_nil))))
      (s_cons (s_set 7 sc_law.nd (v_call tk (ok_ulaw_less T) (hr.mono (by decide)) (T.glo 17) (kp_ulaw_less T) (b_ulaw_less T) (a_cons (v_ix rfl (v_var 3) v_int) (a_cons (v_ix rfl (v_var 3) v_int) a_nil))))
      (s_cons (s_set 8 sc_law.nd (v_calT (cal_str tk (hu2 hr) (by intro q h; cases h)) rfl (T.free 18) (a_cons (v_ix rfl (v_var 7) v_int) a_nil)))
      (s_cons (s_if (t_cmp oc_gt (v_ix rfl (v_var 7) v_int) v_int (nomark _)) (s_one (s_set 8 sc_law.nd (v_bin (ob_add rfl) (v_bin (ob_add rfl) (v_var 8) v_str) (v_calT (cal_str tk (hu2 hr) (by intro q h; cases h)) rfl (T.free 18) (a_cons (v_ix rfl (v_var 7) v_int) a_nil))))) s_nil)
      (s_cons (s_if (PW.pt (w_or (t_not (t_tru rfl (v_call tk (ok_ulaw_is T) (hr.mono (by decide)) (T.glo 24) (kp_ulaw_is T) (b_ulaw_is T) (a_cons (v_var 5) (a_cons (v_var 7) a_nil))))) (w_or (t_not (t_tru rfl (v_call tk (ok_ulaw_same T 3) (hr.mono (by decide)) (T.glo 22) (kp_ulaw_same T) (b_ulaw_same T) (a_cons (v_calT (cal_str tk (hu2 hr) (one_all (P := fun c m => OwnOk _ _ _ _ c m) ⟨⟨_, _, _, _, (T.met 25).1, (T.met 25).2, (ok_Ratio___str__ T), (hr.mono (by decide)), (b_Ratio___str__ T)⟩, T.self 26⟩)) rfl (T.free 18) (a_cons (v_var 5) a_nil)) (a_cons (v_var 8) a_nil))))) (pw_or1 (t_not (t_tru rfl (v_call tk (ok_ulaw_is T) (hr.mono (by decide)) (T.glo 24) (kp_ulaw_is T) (b_ulaw_is T) (a_cons (v_binM (om_own tk (one_all (P := fun c m => OwnOk _ _ _ _ c m) ⟨⟨_, _, _, _, (T.met 28).1, (T.met 28).2, (ok_Ratio___add__ T), (hr.mono (by decide)), (b_Ratio___add__ T)⟩, T.self 26⟩) (om_prim (ob_add rfl))) (v_var 5) (v_var 6)) (a_cons (v_call tk (ok_ulaw_plus T) (hr.mono (by decide)) (T.glo 27) (kp_ulaw_plus T) (b_ulaw_plus T) (a_cons (v_var 7) (a_cons (v_call tk (ok_ulaw_less T) (hr.mono (by decide)) (T.glo 17) (kp_ulaw_less T) (b_ulaw_less T) (a_cons (v_ix rfl (v_var 4) v_int) (a_cons (v_ix rfl (v_var 4) v_int) a_nil))) a_nil))) a_nil))))))))) (s_one (s_ret v_bl)) s_nil)
      (s_cons (s_if (PW.pt (w_or (t_not (t_tru rfl (v_call tk (ok_ulaw_is T) (hr.mono (by decide)) (T.glo 24) (kp_ulaw_is T) (b_ulaw_is T) (a_cons (v_binM (om_own tk (one_all (P := fun c m => OwnOk _ _ _ _ c m) ⟨⟨_, _, _, _, (T.met 30).1, (T.met 30).2, (ok_Ratio___sub__ T), (hr.mono (by decide)), (b_Ratio___sub__ T)⟩, T.self 26⟩) (om_prim ob_sub)) (v_var 5) (v_var 6)) (a_cons (v_call tk (ok_ulaw_minus T) (hr.mono (by decide)) (T.glo 29) (kp_ulaw_minus T) (b_ulaw_minus T) (a_cons (v_var 7) (a_cons (v_call tk (ok_ulaw_less T) (hr.mono (by decide)) (T.glo 17) (kp_ulaw_less T) (b_ulaw_less T) (a_cons (v_ix rfl (v_var 4) v_int) (a_cons (v_ix rfl (v_var 4) v_int) a_nil))) a_nil))) a_nil))))) (pw_or1 (t_not (t_tru rfl (v_call tk (ok_ulaw_is T) (hr.mono (by decide)) (T.glo 24) (kp_ulaw_is T) (b_ulaw_is T) (a_cons (v_binM (om_own tk (one_all (P := fun c m => OwnOk _ _ _ _ c m) ⟨⟨_, _, _, _, (T.met 32).1, (T.met 32).2, (ok_Ratio___mul__ T), (hr.mono (by decide)), (b_Ratio___mul__ T)⟩, T.self 26⟩) (om_prim ob_mul)) (v_var 5) (v_var 6)) (a_cons (v_call tk (ok_ulaw_times T) (hr.mono (by decide)) (T.glo 31) (kp_ulaw_times T) (b_ulaw_times T) (a_cons (v_var 3) (a_cons (v_var 4) a_nil))) a_nil)))))))) (s_one (s_ret v_bl)) s_nil)
      (s_cons (s_if (PW.pt (w_or (t_not (t_tru rfl (v_call tk (ok_ulaw_same T 3) (hr.mono (by decide)) (T.glo 22) (kp_ulaw_same T) (b_ulaw_same T) (a_cons (v_meth rfl (clsAll T) tk (one_all (P := fun c m => MetOk _ _ _ _ c m) ⟨⟨_, _, _, _, ⟨(T.met 34).1, (T.met 34).2, (kp_Ratio_less T)⟩, (ok_Ratio_less T), (hr.mono (by decide)), (b_Ratio_less T)⟩, by decide +kernel⟩) (v_var 5) (a_cons (v_var 6) a_nil)) (a_cons (v_call tk (ok_ulaw_below T) (hr.mono (by decide)) (T.glo 33) (kp_ulaw_below T) (b_ulaw_below T) (a_cons (v_var 3) (a_cons (v_var 4) a_nil))) a_nil))))) (pw_or1 (t_not (t_tru rfl (v_call tk (ok_ulaw_same T 3) (hr.mono (by decide)) (T.glo 22) (kp_ulaw_same T) (b_ulaw_same T) (a_cons (v_cmpM (om_ownEq tk (hu0 hr) (one_all (P := fun c m => OwnOk _ _ _ _ c m) ⟨⟨_, _, _, _, (T.met 35).1, (T.met 35).2, (ok_Ratio___eq__ T), (hr.mono (by decide)), (b_Ratio___eq__ T)⟩, T.self 26⟩) (om_cmp (oc_eq rfl (hu64 hr)))) (v_var 5) (v_var 6) (nomark _)) (a_cons (v_cmp (oc_eq rfl (hu64 hr)) (v_call tk (ok_ulaw_less T) (hr.mono (by decide)) (T.glo 17) (kp_ulaw_less T) (b_ulaw_less T) (a_cons (v_ix rfl (v_var 4) v_int) (a_cons (v_ix rfl (v_var 4) v_int) a_nil))) (v_var 7) (nomark _)) a_nil)))))))) (s_one (s_ret v_bl)) s_nil)
      (s_cons (s_set 9 sc_law.nd (v_bin ob_sub v_int (v_bin ob_mul v_int (v_callT ok_int rfl (T.free 4) (a_cons (v_cmp oc_lt (v_ix rfl (v_var 4) v_int) v_int (nomark _)) a_nil)))))
      (s_cons (s_if (t_cmp (oc_eq rfl (hu64 hr)) (v_ix rfl (v_var 4) v_int) v_int (nomark _)) (s_one (s_if (t_not (t_tru rfl (v_call tk (ok_ulaw_refused T) (hr.mono (by decide)) (T.glo 49) (kp_ulaw_refused T) (b_ulaw_refused T) (a_cons (v_var 3) (a_cons (v_var 4) a_nil))))) (s_one (s_ret v_bl)) s_nil)) (s_one (s_if (t_not (t_tru rfl (v_call tk (ok_ulaw_is T) (hr.mono (by decide)) (T.glo 24) (kp_ulaw_is T) (b_ulaw_is T) (a_cons (v_meth rfl (clsAll T) tk (one_all (P := fun c m => MetOk _ _ _ _ c m) ⟨⟨_, _, _, _, ⟨(T.met 36).1, (T.met 36).2, (kp_Ratio_over T)⟩, (ok_Ratio_over T), (hr.mono (by decide)), (b_Ratio_over T)⟩, by decide +kernel⟩) (v_var 5) (a_cons (v_var 6) a_nil)) (a_cons (v_call tk (ok_ulaw_less T) (hr.mono (by decide)) (T.glo 17) (kp_ulaw_less T) (b_ulaw_less T) (a_cons (v_bin ob_mul (v_bin ob_mul (v_ix rfl (v_var 3) v_int) (v_ix rfl (v_var 4) v_int)) (v_var 9)) (a_cons (v_bin ob_mul (v_bin ob_mul (v_ix rfl (v_var 3) v_int) (v_ix rfl (v_var 4) v_int)) (v_var 9)) a_nil))) a_nil))))) (s_one (s_ret v_bl)) s_nil)))
      (s_one (s_if (PW.pt (w_or (t_not (t_tru rfl (v_call tk (ok_ulaw_is T) (hr.mono (by decide)) (T.glo 24) (kp_ulaw_is T) (b_ulaw_is T) (a_cons (v_var 5) (a_cons (v_var 7) a_nil))))) (pw_or1 (t_not (t_tru rfl (v_call tk (ok_ulaw_is T) (hr.mono (by decide)) (T.glo 24) (kp_ulaw_is T) (b_ulaw_is T) (a_cons (v_var 6) (a_cons (v_call tk (ok_ulaw_less T) (hr.mono (by decide)) (T.glo 17) (kp_ulaw_less T) (b_ulaw_less T) (a_cons (v_ix rfl (v_var 4) v_int) (a_cons (v_ix rfl (v_var 4) v_int) a_nil))) a_nil)))))))) (s_one (s_ret v_bl)) s_nil)))))))))))))))))
      (s_cons (s_for (vs := [2]) hp rfl (i_range (T.free 2) v_int) (g_name 2 sc_law.nd) (s_cons (s_set 10 sc_law.nd (v_ix rfl (v_tup (a_cons (v_bin ob_sub (v_call tk (ok_ulaw_draw T) (hr.mono (by decide)) (T.glo 5) (kp_ulaw_draw T) (b_ulaw_draw T) (a_cons (v_var 1) (a_cons v_int a_nil))) v_int) (a_cons (v_ix rfl (v_call tk (ok_ulaw_pair T) (hr.mono (by decide)) (T.glo 6) (kp_ulaw_pair T) (b_ulaw_pair T) (a_cons (v_var 1) a_nil)) v_int) a_nil))) (v_call tk (ok_ulaw_draw T) (hr.mono (by decide)) (T.glo 5) (kp_ulaw_draw T) (b_ulaw_draw T) (a_cons (v_var 1) (a_cons v_int a_nil)))))
      (s_cons (s_set 11 sc_law.nd (v_ix rfl (v_tup (a_cons (v_call tk (ok_ulaw_draw T) (hr.mono (by decide)) (T.glo 5) (kp_ulaw_draw T) (b_ulaw_draw T) (a_cons (v_var 1) (a_cons v_int a_nil))) (a_cons (v_call tk (ok_ulaw_draw T) (hr.mono (by decide)) (T.glo 5) (kp_ulaw_draw T) (b_ulaw_draw T) (a_cons (v_var 1) (a_cons v_int a_nil))) (a_cons (v_bin ob_pow v_int v_int) a_nil)))) (v_bin (ob_add rfl) (v_var 2) (v_callT ok_int rfl (T.free 4) (a_cons (v_and (v_cmp (oc_eq rfl (hu64 hr)) (v_call tk (ok_ulaw_draw T) (hr.mono (by decide)) (T.glo 5) (kp_ulaw_draw T) (b_ulaw_draw T) (a_cons (v_var 1) (a_cons v_int a_nil))) v_int (nomark _)) (v_one (v_cmp (oc_eq rfl (hu64 hr)) (v_var 2) v_int (nomark _)))) a_nil)))))
      (s_one (s_if (t_not (t_tru rfl (v_call tk (ok_ulaw_refused T) (hr.mono (by decide)) (T.glo 49) (kp_ulaw_refused T) (b_ulaw_refused T) (a_cons (v_tup (a_cons (v_var 10) (a_cons (v_bin ob_sub v_int (v_var 11)) a_nil))) (a_cons v_non a_nil))))) (s_one (s_ret v_bl)) s_nil)))))
      (s_one (s_ret (v_call tk (ok_ulaw_is T) (hr.mono (by decide)) (T.glo 24) (kp_ulaw_is T) (b_ulaw_is T) (a_cons (v_cal (CalM.pure (mkD_Ratio___init__ tk T (hr.mono (by decide)))) (T.glo 14) (T.keep 13) (a_cons v_int a_nil)) (a_cons (v_tup (a_cons v_int (a_cons v_int a_nil))) a_nil))))))))
end
end K00

namespace K00
open PySem L2 Z
/-! ### lowest terms -/
def gI (n d : Int) : Int := (Nat.gcd n.natAbs d.natAbs : Nat)
theorem gI_pos {n d : Int} (h : 0 < d) : 0 < gI n d := by
  have : 0 < Nat.gcd n.natAbs d.natAbs := Nat.gcd_pos_of_pos_right _ (by omega)
  unfold gI; omega
theorem gI_le {n d : Int} (h : 0 < d) : gI n d ≤ d := by
  have := Nat.gcd_le_right (n := d.natAbs) n.natAbs (by omega)
  unfold gI; omega
theorem log_le {a b : Nat} (h : a ≤ b) : a.log2 ≤ b.log2 := by
  by_cases ha : a = 0
  · subst ha; simp
  · exact (Nat.le_log2 (by omega)).mpr (Nat.le_trans (Nat.log2_self_le ha) h)
theorem log_lt {a : Nat} {k : Nat} (h : a < 2 ^ k) (hk : 0 < k) : a.log2 < k := by
  by_cases ha : a = 0
  · subst ha; simpa using hk
  · exact (Nat.log2_lt ha).mpr h
theorem half {a b n : Nat} (hb : 0 < b) (h : b < 2 ^ (n + 1)) : (a % b = 0 ∨ b % (a % b) < 2 ^ n) := by
  by_cases h0 : a % b = 0
  · exact .inl h0
  · right
    have h1 := Nat.mod_lt a hb
    have h2 := Nat.mod_lt b (Nat.pos_of_ne_zero h0)
    have h3 : 2 ^ (n + 1) = 2 * 2 ^ n := by rw [Nat.pow_succ]; omega
    by_cases h4 : a % b < 2 ^ n
    · omega
    · have : b % (a % b) = (b - a % b) % (a % b) := by rw [Nat.mod_eq_sub_mod (by omega)]
      rw [this]
      exact Nat.lt_of_le_of_lt (Nat.mod_le _ _) (by omega)
noncomputable def gBody : MS := (sSeq (sIf (mCmp cEq (mVar 3) (mC (.int 0))) sBreak sNil)
    (sPar 2 3 (mCons (mVar 3) (mCons (mBin bMod (mCallF fInt (mCons (mVar 2) mNil)) (mVar 3)) mNil))))
theorem gBody_0 (e0 e1 e4 : Option MV) (a : Int) (st : Sto) : gBody [e0, e1, some (.int a), some (.int 0), e4] st = .bk [e0, e1, some (.int a), some (.int 0), e4] st := by
  simp [gBody]
theorem gBody_n (e0 e1 e4 : Option MV) (a b : Int) (hb : 0 < b) (st : Sto) : gBody [e0, e1, some (.int a), some (.int b), e4] st = .nx [e0, e1, some (.int b), some (.int (a % b)), e4] st := by
  have h0 : ¬ b = 0 := by omega
  simp [gBody, h0, bMod_i hb]
theorem gLoop : ∀ (n : Nat) (xs : List MV) (a b : Nat) (e0 e1 e4 : Option MV) (st : Sto), b < 2 ^ n → 2 * n + 1 ≤ xs.length →
    ∃ e3 e4', forL (tgName 4) gBody (fun _ => True) xs [e0, e1, some (.int a), some (.int b), e4] st = .nx [e0, e1, some (.int (Nat.gcd a b : Nat)), e3, e4'] st := by
  intro n
  induction n with
  | zero =>
    intro xs a b e0 e1 e4 st hb hx
    have hb0 : b = 0 := by simpa using hb
    subst hb0
    match xs, hx with
    | x :: r, _ =>
      refine ⟨some (.int 0), some x, ?_⟩
      rw [for_T_cons]
      simp [gBody_0]
  | succ n ih =>
    intro xs a b e0 e1 e4 st hb hx
    match xs, hx with
    | x :: y :: r, hx =>
      rcases Nat.eq_zero_or_pos b with h0 | h0
      · subst h0
        refine ⟨some (.int 0), some x, ?_⟩
        rw [for_T_cons]
        simp [gBody_0]
      · rw [for_T_cons]
        have hbi : (0 : Int) < (b : Int) := by omega
        have e1' : ((a : Int) % (b : Int)) = ((a % b : Nat) : Int) := by simp
        simp only [tgName_run, List.set_cons_succ, List.set_cons_zero, gBody_n _ _ _ _ _ hbi, e1']
        rcases half (a := a) h0 hb with h | h
        · rw [for_T_cons]
          rw [h]
          refine ⟨some (.int 0), some y, ?_⟩
          have := gBody_0 e0 e1 (some y) (b : Int) st
          simp only [tgName_run, List.set_cons_succ, List.set_cons_zero]
          simp only [Int.natCast_zero] at this ⊢
          rw [this]
          have hg : Nat.gcd a b = b := by rw [Nat.gcd_comm, Nat.gcd_rec, h, Nat.gcd_zero_left]
          rw [hg]
        · rcases Nat.eq_zero_or_pos (a % b) with hz | hz
          · rw [for_T_cons]
            rw [hz]
            refine ⟨some (.int 0), some y, ?_⟩
            have := gBody_0 e0 e1 (some y) (b : Int) st
            simp only [tgName_run, List.set_cons_succ, List.set_cons_zero]
            simp only [Int.natCast_zero] at this ⊢
            rw [this]
            have hg : Nat.gcd a b = b := by rw [Nat.gcd_comm, Nat.gcd_rec, hz, Nat.gcd_zero_left]
            rw [hg]
          · rw [for_T_cons]
            have hbi2 : (0 : Int) < ((a % b : Nat) : Int) := by omega
            have e2' : ((b : Int) % ((a % b : Nat) : Int)) = ((b % (a % b) : Nat) : Int) := by simp
            simp only [tgName_run, List.set_cons_succ, List.set_cons_zero, gBody_n _ _ _ _ _ hbi2, e2']
            have hg : Nat.gcd a b = Nat.gcd (a % b) (b % (a % b)) := by
              rw [Nat.gcd_comm a b, Nat.gcd_rec b a, Nat.gcd_rec (a % b) b, Nat.gcd_comm]
            rw [hg]
            refine ih r (a % b) (b % (a % b)) e0 e1 (some y) st h ?_
            simp only [List.length_cons] at hx
            omega
/-! ### the law's helpers -/
theorem gcd_run (n d : Int) (st : Sto) (h : nb d ≤ 100000) : m_ulaw_gcd [.int n, .int d] st = .ok (.int (gI n d)) st := by
  have hb : nb (d.natAbs : Int) ≤ 100000 := nb_abs (by simp) h
  have hlt : d.natAbs < 2 ^ nb (d.natAbs : Int) := lt_nb (x := (d.natAbs : Int)) (Nat.le_refl _)
  generalize hk : nb (d.natAbs : Int) = k at hb hlt
  have hk' : Builtin.Int.intBits (d.natAbs : Int) = k := hk
  obtain ⟨e3, e4, hl⟩ := gLoop k (intsM 0 (4000 + 2 * (k : Int)).toNat) n.natAbs d.natAbs (some (.int n)) (some (.int d)) none st hlt (by rw [ints_len]; omega)
  have hs : small (4000 + 2 * (k : Int)) = true := decide_eq_true (by omega)
  have hm : bMul st (.int 2) (.int (k : Nat)) = some (.int (2 * (k : Nat))) := bMul_i (by
    have h1 := Nat.log2_le_self k
    have h2 : (2 : Int).natAbs.log2 = 1 := by decide
    have h3 : ((k : Int)).natAbs = k := by simp
    rw [h2, h3]; omega)
  unfold m_ulaw_gcd
  rw [mFun_run]
  simp [hm, hs, hk']
  unfold gBody at hl
  simp only [hl]
  simp [gI]
/-- lowest terms -/
def rn (n d : Int) : Int := n / gI n d
def rd (n d : Int) : Int := d / gI n d
theorem less_run (n d : Int) (st : Sto) (hd : 0 < d) (h : nb d ≤ 5000) : m_ulaw_less [.int n, .int d] st = .ok (.tup [.int (rn n d), .int (rd n d)]) st := by
  have hg := gI_pos (n := n) hd
  have hgs : nb (gI n d) ≤ 5000 := nb_abs (by have := gI_le (n := n) hd; omega) h
  unfold m_ulaw_less
  rw [mFun_run]
  by_cases h0 : n = 0
  · subst h0
    have e1 : gI 0 d = d := by unfold gI; simp; omega
    have e2 : rn 0 d = 0 := by unfold rn; simp
    have e3 : rd 0 d = 1 := by unfold rd; rw [e1]; exact Int.ediv_self (by omega)
    simp [e2, e3, line]
  · have d1 : bDiv st (.int n) (.int (gI n d)) = some (.int (rn n d)) := divS hg hgs (by omega)
    have d2 : bDiv st (.int d) (.int (gI n d)) = some (.int (rd n d)) := divS hg hgs (by omega)
    simp [h0, gcd_run n d st (nb_mono h (by omega)), d1, d2, line]
/-- a Ratio -/
abbrev rat (n d : Int) : MV := .ins 20 [.int n, .int d]
theorem make_run (n d : Int) (st : Sto) (hd : 0 < d) (h : nb d ≤ 5000) : mPure (newC 20 m_Ratio___init__) [.int n, .int d] st = .ok (rat (rn n d) (rd n d)) st := by
  have hg := gI_pos (n := n) hd
  have hgs : nb (gI n d) ≤ 5000 := nb_abs (by have := gI_le (n := n) hd; omega) h
  have d1 : ∀ st, bDiv st (.int n) (.int (gI n d)) = some (.int (rn n d)) := fun st => divS hg hgs (by omega)
  have d2 : ∀ st, bDiv st (.int d) (.int (gI n d)) = some (.int (rd n d)) := fun st => divS hg hgs (by omega)
  have hd1 : ¬ d < 1 := by omega
  have e : m_Ratio___init__ [.ref st.length, .int n, .int d] (st ++ [.ins 20 []]) = .ok .non (st ++ [.ins 20 [(2, .int (rn n d)), (3, .int (rd n d))]]) := by
    unfold m_Ratio___init__
    rw [mFun_run]
    have eg : ((Nat.gcd n.natAbs d.natAbs : Nat) : Int) = gI n d := rfl
    have f20 : fieldsOf 20 = [2, 3] := by decide
    simp [hd1, eg, d1, d2, setFld, f20, putN]
  have e2 : newC 20 m_Ratio___init__ [.int n, .int d] st = .ok (.ref st.length) (st ++ [.ins 20 [(2, .int (rn n d)), (3, .int (rd n d))]]) := by
    unfold newC
    rw [e]
  unfold mPure
  rw [e2]
  have f20 : fieldsOf 20 = [2, 3] := by decide
  simp [frzM, f20]
theorem make_bad (n d : Int) (st : Sto) (hd : d < 1) : mPure (newC 20 m_Ratio___init__) [.int n, .int d] st = .ex 7 [] st := by
  have e : m_Ratio___init__ [.ref st.length, .int n, .int d] (st ++ [.ins 20 []]) = .ex 7 [] (st ++ [.ins 20 []]) := by
    unfold m_Ratio___init__
    rw [mFun_run]
    simp [hd]
  unfold mPure newC
  rw [e]
  simp
end K00

namespace K00
open PySem L2 Z
theorem same_int (k : Nat) (a b : Int) (st : Sto) : m_ulaw_same (k + 1) [.int a, .int b] st = .ok (.bl (decide (a = b))) st := by
  unfold m_ulaw_same
  rw [mFun_run]
  simp [tyM, isTup, isLst, isBl, isInt, isN]
theorem same_bl (k : Nat) (a b : Bool) (st : Sto) : m_ulaw_same (k + 1) [.bl a, .bl b] st = .ok (.bl (a == b)) st := by
  unfold m_ulaw_same
  rw [mFun_run]
  simp [tyM, isTup, isLst, isBl, isInt, isN]
theorem same_str (k : Nat) (a b : Str) (st : Sto) : m_ulaw_same (k + 1) [.str a, .str b] st = .ok (.bl (decide (a = b))) st := by
  unfold m_ulaw_same
  rw [mFun_run]
  simp [tyM, isTup, isLst, isBl, isInt, isStr, isN]
theorem same_two (k : Nat) (a b : Int) (st : Sto) : m_ulaw_same (k + 2) [.lst [.int a, .int b], .lst [.int a, .int b]] st = .ok (.bl true) st := by
  unfold m_ulaw_same
  rw [mFun_run]
  have e2 : intsM 0 2 = [.int 0, .int 1] := by simp [intsM, List.range, List.range.loop]
  have sm : small 2 = true := by decide
  simp [tyM, isTup, isLst, isBl, isInt, isStr, isN, fLen, seqOf, sm, e2, for_T_cons, for_T_nil, same_int]
theorem is_run (a b : Int) (st : Sto) : m_ulaw_is [rat a b, .tup [.int a, .int b]] st = .ok (.bl true) st := by
  have f20 : fieldsOf 20 = [2, 3] := by decide
  unfold m_ulaw_is
  rw [mFun_run]
  simp [tyM, isOwn, fldOf, zipLook, f20, line, fList, seqOf, same_two]
/-! the program's operators -/
theorem add_run (a b c d : Int) (st : Sto) (hb : 0 < b) (hd : 0 < d) (sa : nb a ≤ 2000) (sb : nb b ≤ 2000) (sc : nb c ≤ 2000) (sd : nb d ≤ 2000) : m_Ratio___add__ [rat a b, rat c d] st = .ok (rat (rn (a * d + c * b) (b * d)) (rd (a * d + c * b) (b * d))) st := by
  have f20 : fieldsOf 20 = [2, 3] := by decide
  have m1 : bMul st (.int a) (.int d) = some (.int (a * d)) := mulS sa sd (by omega)
  have m2 : bMul st (.int c) (.int b) = some (.int (c * b)) := mulS sc sb (by omega)
  have m3 : bMul st (.int b) (.int d) = some (.int (b * d)) := mulS sb sd (by omega)
  unfold m_Ratio___add__
  rw [mFun_run]
  simp [fldOf, zipLook, f20, m1, m2, m3, make_run _ _ st (Int.mul_pos hb hd) (nb_mono (nb_mul sb sd) (by omega))]
theorem sub_run (a b c d : Int) (st : Sto) (hb : 0 < b) (hd : 0 < d) (sa : nb a ≤ 2000) (sb : nb b ≤ 2000) (sc : nb c ≤ 2000) (sd : nb d ≤ 2000) : m_Ratio___sub__ [rat a b, rat c d] st = .ok (rat (rn (a * d - c * b) (b * d)) (rd (a * d - c * b) (b * d))) st := by
  have f20 : fieldsOf 20 = [2, 3] := by decide
  have m1 : bMul st (.int a) (.int d) = some (.int (a * d)) := mulS sa sd (by omega)
  have m2 : bMul st (.int c) (.int b) = some (.int (c * b)) := mulS sc sb (by omega)
  have m3 : bMul st (.int b) (.int d) = some (.int (b * d)) := mulS sb sd (by omega)
  unfold m_Ratio___sub__
  rw [mFun_run]
  simp [fldOf, zipLook, f20, m1, m2, m3, make_run _ _ st (Int.mul_pos hb hd) (nb_mono (nb_mul sb sd) (by omega))]
theorem mul_run (a b c d : Int) (st : Sto) (hb : 0 < b) (hd : 0 < d) (sa : nb a ≤ 2000) (sb : nb b ≤ 2000) (sc : nb c ≤ 2000) (sd : nb d ≤ 2000) : m_Ratio___mul__ [rat a b, rat c d] st = .ok (rat (rn (a * c) (b * d)) (rd (a * c) (b * d))) st := by
  have f20 : fieldsOf 20 = [2, 3] := by decide
  have m1 : bMul st (.int a) (.int c) = some (.int (a * c)) := mulS sa sc (by omega)
  have m3 : bMul st (.int b) (.int d) = some (.int (b * d)) := mulS sb sd (by omega)
  unfold m_Ratio___mul__
  rw [mFun_run]
  simp [fldOf, zipLook, f20, m1, m3, make_run _ _ st (Int.mul_pos hb hd) (nb_mono (nb_mul sb sd) (by omega))]
theorem eq_run (a b c d : Int) (st : Sto) : m_Ratio___eq__ [rat a b, rat c d] st = .ok (.bl (decide (a = c) && decide (b = d))) st := by
  have f20 : fieldsOf 20 = [2, 3] := by decide
  unfold m_Ratio___eq__
  rw [mFun_run]
  by_cases h : a = c
  · simp [fldOf, zipLook, f20, tyM, isOwn, h]
  · simp [fldOf, zipLook, f20, tyM, isOwn, h]
theorem less_op (a b c d : Int) (st : Sto) (sa : nb a ≤ 2000) (sb : nb b ≤ 2000) (sc : nb c ≤ 2000) (sd : nb d ≤ 2000) : m_Ratio_less [rat a b, rat c d] st = .ok (.bl (decide (a * d < c * b))) st := by
  have f20 : fieldsOf 20 = [2, 3] := by decide
  have m1 : bMul st (.int a) (.int d) = some (.int (a * d)) := mulS sa sd (by omega)
  have m2 : bMul st (.int c) (.int b) = some (.int (c * b)) := mulS sc sb (by omega)
  unfold m_Ratio_less
  rw [mFun_run]
  simp [fldOf, zipLook, f20, m1, m2]
/-- the sign that the law takes -/
def sg (c : Int) : Int := if c < 0 then -1 else 1
theorem over_run (a b c d : Int) (st : Sto) (hb : 0 < b) (hd : 0 < d) (hc : c ≠ 0) (sa : nb a ≤ 2000) (sb : nb b ≤ 2000) (sc : nb c ≤ 2000) (sd : nb d ≤ 2000) : m_Ratio_over [rat a b, rat c d] st = .ok (rat (rn (a * d * sg c) (b * c * sg c)) (rd (a * d * sg c) (b * c * sg c))) st := by
  have f20 : fieldsOf 20 = [2, 3] := by decide
  have m1 : bMul st (.int a) (.int d) = some (.int (a * d)) := mulS sa sd (by omega)
  have m2 : bMul st (.int b) (.int c) = some (.int (b * c)) := mulS sb sc (by omega)
  have s2 : nb (b * c) ≤ 4000 := nb_mul sb sc
  unfold m_Ratio_over
  rw [mFun_run]
  rcases Int.lt_or_le c 0 with h | h
  · have e : sg c = -1 := if_pos h
    have p : 0 < -(b * c) := by
      have : 0 < b * (-c) := Int.mul_pos hb (by omega)
      rw [Int.mul_neg] at this; exact this
    have e1 : a * d * -1 = -(a * d) := by omega
    have e2 : b * c * -1 = -(b * c) := by omega
    rw [e, e1, e2]
    simp [fldOf, zipLook, f20, m1, m2, hc, h, make_run _ _ st p (nb_mono (nb_neg s2) (by omega))]
  · have e : sg c = 1 := if_neg (by omega)
    have p : 0 < b * c := Int.mul_pos hb (by omega)
    have h' : ¬ c < 0 := by omega
    rw [e, Int.mul_one, Int.mul_one]
    simp [fldOf, zipLook, f20, m1, m2, hc, h', make_run _ _ st p (nb_mono s2 (by omega))]
theorem over_bad (a b d : Int) (st : Sto) : m_Ratio_over [rat a b, rat 0 d] st = .ex 7 [] st := by
  have f20 : fieldsOf 20 = [2, 3] := by decide
  unfold m_Ratio_over
  rw [mFun_run]
  simp [fldOf, zipLook, f20]
/-! the law's own -/
theorem plus_run (a b c d : Int) (st : Sto) (hb : 0 < b) (hd : 0 < d) (sa : nb a ≤ 2000) (sb : nb b ≤ 2000) (sc : nb c ≤ 2000) (sd : nb d ≤ 2000) : m_ulaw_plus [.tup [.int a, .int b], .tup [.int c, .int d]] st =
    .ok (if a = 0 then .tup [.int c, .int d] else if c = 0 then .tup [.int a, .int b] else .tup [.int (rn (a * d + c * b) (b * d)), .int (rd (a * d + c * b) (b * d))]) st := by
  have m1 : bMul st (.int a) (.int d) = some (.int (a * d)) := mulS sa sd (by omega)
  have m2 : bMul st (.int c) (.int b) = some (.int (c * b)) := mulS sc sb (by omega)
  have m3 : bMul st (.int b) (.int d) = some (.int (b * d)) := mulS sb sd (by omega)
  unfold m_ulaw_plus
  rw [mFun_run]
  by_cases h1 : a = 0
  · simp [h1]
  · by_cases h2 : c = 0
    · simp [h1, h2]
    · simp [h1, h2, m1, m2, m3, less_run _ _ st (Int.mul_pos hb hd) (nb_mono (nb_mul sb sd) (by omega))]
theorem minus_run (a b c d : Int) (st : Sto) (hb : 0 < b) (hd : 0 < d) (sa : nb a ≤ 2000) (sb : nb b ≤ 2000) (sc : nb c ≤ 2000) (sd : nb d ≤ 2000) : m_ulaw_minus [.tup [.int a, .int b], .tup [.int c, .int d]] st =
    .ok (if a = 0 then .tup [.int (-c), .int d] else if c = 0 then .tup [.int a, .int b] else .tup [.int (rn (a * d - c * b) (b * d)), .int (rd (a * d - c * b) (b * d))]) st := by
  unfold m_ulaw_minus
  rw [mFun_run]
  have e := plus_run a b (-c) d st hb hd sa sb (nb_neg sc) sd
  have e1 : a * d + -c * b = a * d - c * b := by rw [Int.neg_mul]; omega
  have e2 : (-c = 0) = (c = 0) := by simp
  rw [e1] at e
  simp only [e2] at e
  simp [line, e]
theorem times_run (a b c d : Int) (st : Sto) (hb : 0 < b) (hd : 0 < d) (sa : nb a ≤ 2000) (sb : nb b ≤ 2000) (sc : nb c ≤ 2000) (sd : nb d ≤ 2000) : m_ulaw_times [.tup [.int a, .int b], .tup [.int c, .int d]] st =
    .ok (.tup [.int (rn (a * c) (b * d)), .int (rd (a * c) (b * d))]) st := by
  have m1 : bMul st (.int a) (.int c) = some (.int (a * c)) := mulS sa sc (by omega)
  have m3 : bMul st (.int b) (.int d) = some (.int (b * d)) := mulS sb sd (by omega)
  unfold m_ulaw_times
  rw [mFun_run]
  simp [m1, m3, less_run _ _ st (Int.mul_pos hb hd) (nb_mono (nb_mul sb sd) (by omega))]
theorem below_run (a b c d : Int) (st : Sto) (sa : nb a ≤ 2000) (sb : nb b ≤ 2000) (sc : nb c ≤ 2000) (sd : nb d ≤ 2000) : m_ulaw_below [.tup [.int a, .int b], .tup [.int c, .int d]] st = .ok (.bl (decide (a * d < c * b))) st := by
  have m1 : bMul st (.int a) (.int d) = some (.int (a * d)) := mulS sa sd (by omega)
  have m2 : bMul st (.int c) (.int b) = some (.int (c * b)) := mulS sc sb (by omega)
  unfold m_ulaw_below
  rw [mFun_run]
  simp [m1, m2]
end K00

namespace K00
open PySem L2 Z
/-! ### str -/
theorem str_len {a : Int} (h : a.natAbs.log2 < 1920) : (toString a : Str).length ≤ 1921 := by
  have := int_text_length_le (a := a) (by omega) h
  show (Str.ofString (toString a)).length ≤ 1921
  rw [ofString_length]; exact this
def text (a b : Int) : Str := if 1 < b then ((toString a : Str) ++ ("/" : Str)) ++ (toString b : Str) else (toString a : Str)
theorem str_run (a b : Int) (st : Sto) (hb : 0 < b) (sa : nb a ≤ 1000) (sb : nb b ≤ 1000) : m_Ratio___str__ [rat a b] st = .ok (.str (text a b)) st := by
  have f20 : fieldsOf 20 = [2, 3] := by decide
  have la : a.natAbs.log2 < 1920 := by have := nb_log sa; omega
  have lb : b.natAbs.log2 < 1920 := by have := nb_log sb; omega
  have za := str_len la
  have zb := str_len lb
  have z1 : ("/" : Str).length = 1 := by decide
  unfold m_Ratio___str__
  rw [mFun_run]
  by_cases h : b = 1
  · subst h
    simp [fldOf, zipLook, f20, strM, clsOf, la, text]
  · have h1 : 1 < b := by omega
    have za : (Str.ofString a.repr).length ≤ 1921 := za
    have zb : (Str.ofString b.repr).length ≤ 1921 := zb
    have z1 : (Str.ofString "/").length = 1 := z1
    have g1 : (Str.ofString a.repr).length ≤ line := by show _ ≤ 100000; omega
    have g2 : (Str.ofString a.repr ++ Str.ofString "/").length ≤ line := by rw [Str.length_append]; show _ ≤ 100000; omega
    have g3 : (Str.ofString a.repr ++ Str.ofString "/" ++ Str.ofString b.repr).length ≤ line := by rw [Str.length_append, Str.length_append]; show _ ≤ 100000; omega
    simp [fldOf, zipLook, f20, h, la, lb, Str.empty_append, g1, g2, g3, text, h1]
/-! ### draws -/
def P (ns : List Int) (i c2 c3 c4 : Int) : Cell := .lst [.lst (ns.map .int), .int i, .int c2, .int c3, .int c4, .int 0]
section
variable {ns : List Int} {i c2 c3 c4 : Int}
theorem p0 : ixF [P ns i c2 c3 c4] (.ref 0) (.int 0) = some (.lst (ns.map .int)) := atI_n _ 0
theorem p1 : ixF [P ns i c2 c3 c4] (.ref 0) (.int 1) = some (.int i) := atI_n _ 1
theorem p2 : ixF [P ns i c2 c3 c4] (.ref 0) (.int 2) = some (.int c2) := atI_n _ 2
theorem p3 : ixF [P ns i c2 c3 c4] (.ref 0) (.int 3) = some (.int c3) := atI_n _ 3
theorem p4 : ixF [P ns i c2 c3 c4] (.ref 0) (.int 4) = some (.int c4) := atI_n _ 4
theorem q1 (v : Int) : setL (.ref 0) (.int 1) (.int v) [P ns i c2 c3 c4] = some [P ns v c2 c3 c4] := by simp [setL, P, ixN]
theorem q2 (v : Int) : setL (.ref 0) (.int 2) (.int v) [P ns i c2 c3 c4] = some [P ns i v c3 c4] := by simp [setL, P, ixN]
theorem q3 (v : Int) : setL (.ref 0) (.int 3) (.int v) [P ns i c2 c3 c4] = some [P ns i c2 v c4] := by simp [setL, P, ixN]
theorem q4 (v : Int) : setL (.ref 0) (.int 4) (.int v) [P ns i c2 c3 c4] = some [P ns i c2 c3 v] := by simp [setL, P, ixN]
theorem pw18 {s : Sto} : bPow s (.int 10) (.int 18) = some (.int 1000000000000000000) := by simp [bPow]
theorem nb3 {c : Int} (h0 : 0 ≤ c) (h : c < 2147483647) : nb c ≤ 31 := nb_lt (by omega)
theorem draw_run (size : Int) (hi : 0 ≤ i) (h3 : 0 ≤ c3) (h3' : c3 < 2147483647) (hs : 0 < size) (hs2 : nb size ≤ 100) :
    ∃ v i' c2' c3' c4', m_ulaw_draw [.ref 0, .int size] [P ns i c2 c3 c4] = .ok (.int v) [P ns i' c2' c3' c4'] ∧ 0 ≤ v ∧ v < size ∧ 0 ≤ i' ∧ 0 ≤ c3' ∧ c3' < 2147483647 := by
  have M : ∀ (s : Sto) (x : Int), bMod s (.int x) (.int 2147483647) = some (.int (x % 2147483647)) := fun s x => bMod_i (by omega)
  have M2 : ∀ (s : Sto) (x : Int), bMod s (.int x) (.int size) = some (.int (x % size)) := fun s x => bMod_i hs
  have D : ∀ (s : Sto) (x : Int), bDiv s (.int x) (.int size) = some (.int (x / size)) := fun s x => divS hs hs2 (by omega)
  have k1 : nb (31 : Int) ≤ 10 := by decide
  have k2 : nb (48271 : Int) ≤ 20 := by decide
  have k3 : nb (69621 : Int) ≤ 20 := by decide
  have X : ∀ (s : Sto) {x y : Int} {n : Nat}, 0 ≤ x → x < 2147483647 → nb y ≤ n → n < 1000 → bMul s (.int x) (.int y) = some (.int (x * y)) := fun s x y n h1 h2 h3 h4 => mulS (nb3 h1 h2) h3 (by omega)
  have md : ∀ x : Int, 0 ≤ x % 2147483647 ∧ x % 2147483647 < 2147483647 := fun x => ⟨Int.emod_nonneg _ (by omega), Int.emod_lt_of_pos _ (by omega)⟩
  have ms : ∀ x : Int, 0 ≤ x % size ∧ x % size < size := fun x => ⟨Int.emod_nonneg _ (by omega), Int.emod_lt_of_pos _ hs⟩
  -- the second half
  have B : ∀ (i c2 c3 c4 : Int) (e2 : Option MV), 0 ≤ i → 0 ≤ c3 → c3 < 2147483647 → ∃ v i' c2' c3' c4', flowR ((sSeq (sIf (mCmp cGt (mIx (mVar 0) (mC (.int 2))) (mC (.int 0))) (sSeq (sAsg 3 (mBin bMod (mCallF fInt (mCons (mIx (mVar 0) (mC (.int 2))) mNil)) (mVar 1)))
    (sSeq (sSub (mVar 0) (mC (.int 2)) (mBin bDiv (mIx (mVar 0) (mC (.int 2))) (mVar 1)))
    (sSeq (sSub (mVar 0) (mC (.int 4)) (mC (.int 0)))
    (sRet (mVar 3))))) sNil)
    (sSeq (sSub (mVar 0) (mC (.int 4)) (mBin bSub (mIx (mVar 0) (mC (.int 4))) (mC (.int 1))))
    (sSeq (sSub (mVar 0) (mC (.int 3)) (mBin bMod (mCallF fInt (mCons (mBin bAdd (mBin bMul (mIx (mVar 0) (mC (.int 3))) (mC (.int 48271))) (mC (.int 12345))) mNil)) (mC (.int 2147483647))))
    (sRet (mBin bMod (mBin bMod (mCallF fInt (mCons (mBin bAdd (mBin bMul (mIx (mVar 0) (mC (.int 3))) (mC (.int 69621))) (mC (.int 7919))) mNil)) (mC (.int 2147483647))) (mVar 1)))))) [some (.ref 0), some (.int size), e2, none] [P ns i c2 c3 c4]) = .ok (.int v) [P ns i' c2' c3' c4'] ∧ 0 ≤ v ∧ v < size ∧ 0 ≤ i' ∧ 0 ≤ c3' ∧ c3' < 2147483647 := by
    intro i c2 c3 c4 e2 hi h3 h3'
    by_cases h : 0 < c2
    · refine ⟨c2 % size, i, c2 / size, c3, 0, ?_, (ms c2).1, (ms c2).2, hi, h3, h3'⟩
      simp [p2, h, M2, D, q2, q4]
    · have m := md (c3 * 48271 + 12345)
      refine ⟨(((c3 * 48271 + 12345) % 2147483647) * 69621 + 7919) % 2147483647 % size, i, c2, (c3 * 48271 + 12345) % 2147483647, c4 - 1, ?_, (ms _).1, (ms _).2, hi, m.1, m.2⟩
      simp [p2, p3, p4, h, M, M2, q3, q4, X _ h3 h3' k2 (by omega), X _ m.1 m.2 k3 (by omega)]
  unfold m_ulaw_draw
  rw [mFun_run]
  by_cases hc : c2 ≤ 0 ∧ c4 ≤ 0 ∧ i < (ns.length : Int)
  · obtain ⟨g1, g2, g3⟩ := hc
    have hin : i.toNat < ns.length := by omega
    obtain ⟨cell, hcell⟩ : ∃ c, ns[i.toNat]? = some c := ⟨ns[i.toNat], List.getElem?_eq_getElem hin⟩
    have pc : ∀ s : Sto, ixF s (.lst (ns.map .int)) (.int i) = some (.int cell) := fun s => by
      have e : i = ((i.toNat : Nat) : Int) := by omega
      show atI (ns.map MV.int) i = _
      rw [e, atI_n, List.getElem?_map, hcell]; rfl
    have m := md (c3 * 31 + cell)
    by_cases hbig : (1000000000000000000 : Int) ≤ cell
    · have b := B (i + 1) cell ((c3 * 31 + cell) % 2147483647) 7 (some (.int cell)) (by omega) m.1 m.2
      simp only [sSeq_run] at b ⊢
      simp [p0, p1, p2, p3, p4, q1, q2, q3, q4, g1, g2, g3, fLen, seqOf, pc, M, X _ h3 h3' k1 (by omega), pw18, hbig] at b ⊢
      exact b
    · have b := B (i + 1) c2 ((c3 * 31 + cell) % 2147483647) 7 (some (.int cell)) (by omega) m.1 m.2
      simp only [sSeq_run] at b ⊢
      simp [p0, p1, p2, p3, p4, q1, q2, q3, q4, g1, g2, g3, fLen, seqOf, pc, M, X _ h3 h3' k1 (by omega), pw18, hbig] at b ⊢
      exact b
  · have b := B i c2 c3 c4 none hi h3 h3'
    have e : (mAnd (mCmp cLe (mIx (mVar 0) (mC (.int 2))) (mC (.int 0))) (mAnd (mCmp cLe (mIx (mVar 0) (mC (.int 4))) (mC (.int 0))) (mCmp cLt (mIx (mVar 0) (mC (.int 1))) (mCallF fLen (mCons (mIx (mVar 0) (mC (.int 0))) mNil))))) [some (.ref 0), some (.int size), none, none] [P ns i c2 c3 c4] = .ok false [P ns i c2 c3 c4] := by
      by_cases g1 : c2 ≤ 0
      · by_cases g2 : c4 ≤ 0
        · have g3 : ¬ i < (ns.length : Int) := fun z => hc ⟨g1, g2, z⟩
          simp [p0, p1, p2, p4, g1, g2, g3, fLen, seqOf]
        · simp [p0, p1, p2, p4, g1, g2, fLen, seqOf]
      · simp [p0, p1, p2, p4, g1, fLen, seqOf]
    have e0 : ([MV.ref 0, MV.int size].map some ++ List.replicate (4 - [MV.ref 0, MV.int size].length) none : Ev) = [some (.ref 0), some (.int size), none, none] := rfl
    rw [e0, sSeq_run, sIf_run, e]
    simpa using b
end
end K00

namespace K00
open PySem L2 Z
noncomputable def fBody : MS := sPar 1 2 (mCons (mVar 2) (mCons (mBin bAdd (mVar 1) (mVar 2)) mNil))
theorem fLoop : ∀ (xs : List MV) (k : Nat) (a b : Int) (e0 e3 e4 : Option MV) (st : Sto), 0 < a → 0 < b → a.natAbs < 2 ^ (k + 1) → b.natAbs < 2 ^ (k + 2) →
    ∃ a' b' e3', forL (tgName 3) fBody (fun _ => True) xs [e0, some (.int a), some (.int b), e3, e4] st = .nx [e0, some (.int a'), some (.int b'), e3', e4] st ∧ 0 < a' ∧ 0 < b' ∧ a'.natAbs < 2 ^ (k + xs.length + 1) ∧ b'.natAbs < 2 ^ (k + xs.length + 2)
  | [], k, a, b, e0, e3, e4, st, ha, hb, sa, sb => ⟨a, b, e3, for_T_nil _ _, ha, hb, sa, sb⟩
  | x :: xs, k, a, b, e0, e3, e4, st, ha, hb, sa, sb => by
    have e1 : 2 ^ (k + 1 + 2) = 2 * 2 ^ (k + 2) := by rw [show k + 1 + 2 = (k + 2) + 1 by omega, Nat.pow_succ]; omega
    have e2 : 2 ^ (k + 2) = 2 * 2 ^ (k + 1) := by rw [show k + 2 = (k + 1) + 1 by omega, Nat.pow_succ]; omega
    obtain ⟨a', b', e3', h, h1, h2, h3, h4⟩ := fLoop xs (k + 1) b (a + b) e0 (some x) e4 st hb (by omega) (by rw [show k + 1 + 1 = k + 2 by omega]; exact sb) (by omega)
    refine ⟨a', b', e3', ?_, h1, h2, ?_, ?_⟩
    · rw [for_T_cons]
      have : fBody [e0, some (.int a), some (.int b), some x, e4] st = .nx [e0, some (.int b), some (.int (a + b)), some x, e4] st := by
        unfold fBody; simp
      simp only [tgName_run, List.set_cons_succ, List.set_cons_zero, this, h]
    · rw [List.length_cons, show k + (xs.length + 1) + 1 = k + 1 + xs.length + 1 by omega]; exact h3
    · rw [List.length_cons, show k + (xs.length + 1) + 2 = k + 1 + xs.length + 2 by omega]; exact h4
theorem small_of_lt {v : Int} (h0 : 0 ≤ v) (h : v < 1000000) : small v = true := decide_eq_true (by omega)
theorem pair_run {ns : List Int} {i c2 c3 c4 : Int} (hi : 0 ≤ i) (h3 : 0 ≤ c3) (h3' : c3 < 2147483647) :
    ∃ n d i' c2' c3' c4', m_ulaw_pair [.ref 0] [P ns i c2 c3 c4] = .ok (.tup [.int n, .int d]) [P ns i' c2' c3' c4'] ∧ 0 < d ∧ nb n ≤ 300 ∧ nb d ≤ 300 ∧ 0 ≤ i' ∧ 0 ≤ c3' ∧ c3' < 2147483647 := by
  obtain ⟨v1, i1, a1, b1, d1, q1, r1, s1, t1, u1, w1⟩ := draw_run (ns := ns) (c2 := c2) (c4 := c4) 12 hi h3 h3' (by omega) (by decide)
  unfold m_ulaw_pair
  rw [mFun_run]
  by_cases h0 : v1 = 0
  · subst h0
    obtain ⟨v2, i2, a2, b2, d2, q2, r2, s2, t2, u2, w2⟩ := draw_run (ns := ns) (c2 := a1) (c4 := d1) 284 t1 u1 w1 (by omega) (by decide)
    obtain ⟨x, y, e3, hl, hx, hy, sx, sy⟩ := fLoop (intsM 0 v2.toNat) 0 1 1 (some (.ref 0)) none none [P ns i2 a2 b2 d2] (by omega) (by omega) (by decide) (by decide)
    rw [ints_len] at sx sy
    have sx' : nb x ≤ 290 := nb_mono (nb_lt sx) (by omega)
    have sy' : nb y ≤ 290 := nb_mono (nb_lt sy) (by omega)
    have k7 : nb (7 : Int) ≤ 3 := by decide
    obtain ⟨v3, i3, a3, b3, d3, q3, r3, s3, t3, u3, w3⟩ := draw_run (ns := ns) (c2 := a2) (c4 := d2) 3 t2 u2 w2 (by omega) (by decide)
    have m7 : ∀ s : Sto, bMul s (.int y) (.int 7) = some (.int (y * 7)) := fun s => mulS sy' k7 (by omega)
    have hs : small v2 = true := small_of_lt r2 (by omega)
    unfold fBody at hl
    have c3 : v3 = 0 ∨ v3 = 1 ∨ v3 = 2 := by omega
    rcases c3 with rfl | rfl | rfl
    · refine ⟨x, y, i3, a3, b3, d3, ?_, hy, nb_mono sx' (by omega), nb_mono sy' (by omega), t3, u3, w3⟩
      simp [q1, q2, hs, hl, line, m7, q3]
    · refine ⟨-x, y, i3, a3, b3, d3, ?_, hy, nb_mono (nb_neg sx') (by omega), nb_mono sy' (by omega), t3, u3, w3⟩
      simp [q1, q2, hs, hl, line, m7, q3]
    · refine ⟨y * 7, y, i3, a3, b3, d3, ?_, hy, nb_mono (nb_mul sy' k7) (by omega), nb_mono sy' (by omega), t3, u3, w3⟩
      simp [q1, q2, hs, hl, line, m7, q3]
  · obtain ⟨v2, i2, a2, b2, d2, q2, r2, s2, t2, u2, w2⟩ := draw_run (ns := ns) (c2 := a1) (c4 := d1) 2000001 t1 u1 w1 (by omega) (by decide)
    obtain ⟨v3, i3, a3, b3, d3, q3, r3, s3, t3, u3, w3⟩ := draw_run (ns := ns) (c2 := a2) (c4 := d2) 9 t2 u2 w2 (by omega) (by decide)
    obtain ⟨v4, i4, a4, b4, d4, q4, r4, s4, t4, u4, w4⟩ := draw_run (ns := ns) (c2 := a3) (c4 := d3) 3 t3 u3 w3 (by omega) (by decide)
    obtain ⟨v5, i5, a5, b5, d5, q5, r5, s5, t5, u5, w5⟩ := draw_run (ns := ns) (c2 := a4) (c4 := d4) 1000 t4 u4 w4 (by omega) (by decide)
    obtain ⟨v6, i6, a6, b6, d6, q6, r6, s6, t6, u6, w6⟩ := draw_run (ns := ns) (c2 := a5) (c4 := d5) 6 t5 u5 w5 (by omega) (by decide)
    obtain ⟨v7, i7, a7, b7, d7, q7, r7, s7, t7, u7, w7⟩ := draw_run (ns := ns) (c2 := a6) (c4 := d6) 2 t6 u6 w6 (by omega) (by decide)
    have b2 : nb (v2 - 1000000) ≤ 300 := nb_mono (nb_lt (m := 30) (by omega)) (by omega)
    have b3 : nb (v3 - 4) ≤ 300 := nb_mono (nb_lt (m := 30) (by omega)) (by omega)
    have b5 : nb (1 + v5) ≤ 300 := nb_mono (nb_lt (m := 30) (by omega)) (by omega)
    have b6 : nb (1 + v6) ≤ 300 := nb_mono (nb_lt (m := 30) (by omega)) (by omega)
    have b0 : nb (0 : Int) ≤ 300 := by decide
    have c4 : v4 = 0 ∨ v4 = 1 ∨ v4 = 2 := by omega
    have c7 : v7 = 0 ∨ v7 = 1 := by omega
    rcases c4 with rfl | rfl | rfl <;> rcases c7 with rfl | rfl
    · exact ⟨v2 - 1000000, 1 + v5, _, _, _, _, by simp [q1, h0, q2, q3, q4, q5, q6, q7, line]; exact rfl, by omega, b2, b5, t7, u7, w7⟩
    · exact ⟨v2 - 1000000, 1 + v6, _, _, _, _, by simp [q1, h0, q2, q3, q4, q5, q6, q7, line]; exact rfl, by omega, b2, b6, t7, u7, w7⟩
    · exact ⟨v3 - 4, 1 + v5, _, _, _, _, by simp [q1, h0, q2, q3, q4, q5, q6, q7, line]; exact rfl, by omega, b3, b5, t7, u7, w7⟩
    · exact ⟨v3 - 4, 1 + v6, _, _, _, _, by simp [q1, h0, q2, q3, q4, q5, q6, q7, line]; exact rfl, by omega, b3, b6, t7, u7, w7⟩
    · exact ⟨0, 1 + v5, _, _, _, _, by simp [q1, h0, q2, q3, q4, q5, q6, q7, line]; exact rfl, by omega, b0, b5, t7, u7, w7⟩
    · exact ⟨0, 1 + v6, _, _, _, _, by simp [q1, h0, q2, q3, q4, q5, q6, q7, line]; exact rfl, by omega, b0, b6, t7, u7, w7⟩
/-! what is refused -/
theorem refused_den (n d : Int) (st : Sto) (hd : d < 1) : m_ulaw_refused [.tup [.int n, .int d], .non] st = .ok (.bl true) st := by
  unfold m_ulaw_refused
  rw [mFun_run]
  simp [sTry, make_bad n d st hd, isN, subX, subXs, mExcIs, unsetN]
theorem refused_0 (a b d : Int) (st : Sto) (hb : 0 < b) (hd : 0 < d) (sb : nb b ≤ 5000) (sd : nb d ≤ 5000) : m_ulaw_refused [.tup [.int a, .int b], .tup [.int 0, .int d]] st = .ok (.bl true) st := by
  have e : rn 0 d = 0 := by unfold rn; simp
  unfold m_ulaw_refused
  rw [mFun_run]
  simp [sTry, make_run a b st hb sb, make_run 0 d st hd sd, e, over_bad, isN, subX, subXs, mExcIs, unsetN, clsOf]
end K00

namespace K00
open PySem L2 Z
/-! ### lowest terms: the mathematics -/
theorem gI_dvd1 (n d : Int) : gI n d ∣ n := by
  unfold gI; exact Int.natAbs_dvd_natAbs.mp (by simpa using Nat.gcd_dvd_left _ _)
theorem gI_dvd2 (n d : Int) : gI n d ∣ d := by
  unfold gI; exact Int.natAbs_dvd_natAbs.mp (by simpa using Nat.gcd_dvd_right _ _)
theorem rn_eq (n d : Int) : gI n d * rn n d = n := Int.mul_ediv_cancel' (gI_dvd1 n d)
theorem rd_eq (n d : Int) : gI n d * rd n d = d := Int.mul_ediv_cancel' (gI_dvd2 n d)
theorem rd_pos {n d : Int} (h : 0 < d) : 0 < rd n d := by
  have h1 := rd_eq n d
  have h2 := gI_pos (n := n) h
  rcases Int.lt_or_le 0 (rd n d) with z | z
  · exact z
  · have := Int.mul_nonpos_of_nonneg_of_nonpos (show 0 ≤ gI n d by omega) z
    omega
theorem gI_scale {k n d : Int} (hk : 0 < k) : gI (k * n) (k * d) = k * gI n d := by
  unfold gI
  rw [Int.natAbs_mul, Int.natAbs_mul, Nat.gcd_mul_left]
  have : (k.natAbs : Int) = k := by omega
  rw [Int.natCast_mul, this]
theorem rn_scale {k n d : Int} (hk : 0 < k) : rn (k * n) (k * d) = rn n d := by
  unfold rn; rw [gI_scale hk]; exact Int.mul_ediv_mul_of_pos _ _ hk
theorem rd_scale {k n d : Int} (hk : 0 < k) : rd (k * n) (k * d) = rd n d := by
  unfold rd; rw [gI_scale hk]; exact Int.mul_ediv_mul_of_pos _ _ hk
theorem gI_red {n d : Int} (hd : 0 < d) : gI (rn n d) (rd n d) = 1 := by
  have hg := gI_pos (n := n) hd
  have h := gI_scale (k := gI n d) (n := rn n d) (d := rd n d) hg
  rw [rn_eq, rd_eq] at h
  have h2 : gI n d * 1 = gI n d * gI (rn n d) (rd n d) := by rw [Int.mul_one]; exact h
  exact (Int.eq_of_mul_eq_mul_left (by omega) h2).symm
theorem rn_red {n d : Int} (hd : 0 < d) : rn (rn n d) (rd n d) = rn n d := by
  show rn n d / gI (rn n d) (rd n d) = rn n d
  rw [gI_red hd]; simp
theorem rd_red {n d : Int} (hd : 0 < d) : rd (rn n d) (rd n d) = rd n d := by
  show rd n d / gI (rn n d) (rd n d) = rd n d
  rw [gI_red hd]; simp
theorem rd_of_zero {n d : Int} (hd : 0 < d) (h : rn n d = 0) : rd n d = 1 := by
  have e := gI_red (n := n) hd
  have p := rd_pos (n := n) hd
  rw [h] at e
  unfold gI at e
  simp at e
  omega
theorem nb_rn {n d : Int} {m : Nat} (hd : 0 < d) (h : nb n ≤ m) : nb (rn n d) ≤ m := nb_div h (gI_pos hd)
theorem nb_rd {n d : Int} {m : Nat} (hd : 0 < d) (h : nb d ≤ m) : nb (rd n d) ≤ m := nb_div h (gI_pos hd)
theorem rn_zero {n d : Int} (hd : 0 < d) : rn n d = 0 ↔ n = 0 := by
  have e := rn_eq n d
  have hg := gI_pos (n := n) hd
  constructor
  · intro h; rw [h, Int.mul_zero] at e; exact e.symm
  · intro h; subst h; unfold rn; simp
/-- a sum of two in lowest terms, one of them 0 -/
theorem plus_eq {a b c d : Int} (hb : 0 < b) (hd : 0 < d) (h1 : gI a b = 1) (h2 : gI c d = 1) :
    (if a = 0 then MV.tup [.int c, .int d] else if c = 0 then .tup [.int a, .int b] else .tup [.int (rn (a * d + c * b) (b * d)), .int (rd (a * d + c * b) (b * d))]) = .tup [.int (rn (a * d + c * b) (b * d)), .int (rd (a * d + c * b) (b * d))] := by
  have one : ∀ x y : Int, gI x y = 1 → rn x y = x ∧ rd x y = y := fun x y h => by unfold rn rd; rw [h]; simp
  by_cases ha : a = 0
  · subst ha
    have hb1 : b = 1 := by unfold gI at h1; simp at h1; omega
    subst hb1
    have := one c d h2
    simp [this.1, this.2]
  · by_cases hc : c = 0
    · subst hc
      have hd1 : d = 1 := by unfold gI at h2; simp at h2; omega
      subst hd1
      have := one a b h1
      simp [this.1, this.2, ha]
    · simp [ha, hc]
theorem minus_eq {a b c d : Int} (hb : 0 < b) (hd : 0 < d) (h1 : gI a b = 1) (h2 : gI c d = 1) :
    (if a = 0 then MV.tup [.int (-c), .int d] else if c = 0 then .tup [.int a, .int b] else .tup [.int (rn (a * d - c * b) (b * d)), .int (rd (a * d - c * b) (b * d))]) = .tup [.int (rn (a * d - c * b) (b * d)), .int (rd (a * d - c * b) (b * d))] := by
  have h2' : gI (-c) d = 1 := by unfold gI at h2 ⊢; rw [Int.natAbs_neg]; exact h2
  have e := plus_eq (c := -c) hb hd h1 h2'
  have e1 : a * d + -c * b = a * d - c * b := by rw [Int.neg_mul]; omega
  have e2 : (-c = 0) = (c = 0) := by simp
  rw [e1] at e
  simp only [e2] at e
  exact e
/-- products: of the parts as drawn, of the parts in lowest terms -/
theorem times_eq {n d m e : Int} (hd : 0 < d) (he : 0 < e) : rn (rn n d * rn m e) (rd n d * rd m e) = rn (n * m) (d * e) ∧ rd (rn n d * rn m e) (rd n d * rd m e) = rd (n * m) (d * e) := by
  have g1 := gI_pos (n := n) hd
  have g2 := gI_pos (n := m) he
  have p : 0 < gI n d * gI m e := Int.mul_pos g1 g2
  have e1 : n * m = (gI n d * gI m e) * (rn n d * rn m e) := by
    conv => lhs; rw [← rn_eq n d, ← rn_eq m e]
    rw [Int.mul_assoc, Int.mul_assoc, ← Int.mul_assoc (rn n d), Int.mul_comm (rn n d) (gI m e), Int.mul_assoc (gI m e)]
  have e2 : d * e = (gI n d * gI m e) * (rd n d * rd m e) := by
    conv => lhs; rw [← rd_eq n d, ← rd_eq m e]
    rw [Int.mul_assoc, Int.mul_assoc, ← Int.mul_assoc (rd n d), Int.mul_comm (rd n d) (gI m e), Int.mul_assoc (gI m e)]
  rw [e1, e2, rn_scale p, rd_scale p]
  exact ⟨rfl, rfl⟩
theorem quot_eq {n d m e s : Int} (hd : 0 < d) (he : 0 < e) : rn (rn n d * rd m e * s) (rd n d * rn m e * s) = rn (n * e * s) (d * m * s) ∧ rd (rn n d * rd m e * s) (rd n d * rn m e * s) = rd (n * e * s) (d * m * s) := by
  have g1 := gI_pos (n := n) hd
  have g2 := gI_pos (n := m) he
  have p : 0 < gI n d * gI m e := Int.mul_pos g1 g2
  have e1 : n * e * s = (gI n d * gI m e) * (rn n d * rd m e * s) := by
    conv => lhs; rw [← rn_eq n d, ← rd_eq m e]
    simp only [Int.mul_assoc, Int.mul_comm, Int.mul_left_comm]
  have e2 : d * m * s = (gI n d * gI m e) * (rd n d * rn m e * s) := by
    conv => lhs; rw [← rd_eq n d, ← rn_eq m e]
    simp only [Int.mul_assoc, Int.mul_comm, Int.mul_left_comm]
  rw [e1, e2, rn_scale p, rd_scale p]
  exact ⟨rfl, rfl⟩
theorem below_eq {n d m e : Int} (hd : 0 < d) (he : 0 < e) : (rn n d * rd m e < rn m e * rd n d) ↔ (n * e < m * d) := by
  have g1 := gI_pos (n := n) hd
  have g2 := gI_pos (n := m) he
  have p : 0 < gI n d * gI m e := Int.mul_pos g1 g2
  have e1 : n * e = (gI n d * gI m e) * (rn n d * rd m e) := by
    conv => lhs; rw [← rn_eq n d, ← rd_eq m e]
    simp only [Int.mul_assoc, Int.mul_comm, Int.mul_left_comm]
  have e2 : m * d = (gI n d * gI m e) * (rn m e * rd n d) := by
    conv => lhs; rw [← rd_eq n d, ← rn_eq m e]
    simp only [Int.mul_assoc, Int.mul_comm, Int.mul_left_comm]
  rw [e1, e2]
  exact (Int.mul_lt_mul_left p).symm
theorem sg_rn {n d : Int} (hd : 0 < d) : sg (rn n d) = sg n := by
  have e := rn_eq n d
  have g := gI_pos (n := n) hd
  unfold sg
  by_cases h : n < 0
  · have : rn n d < 0 := by
      rcases Int.lt_or_le (rn n d) 0 with z | z
      · exact z
      · have := Int.mul_nonneg (show 0 ≤ gI n d by omega) z
        omega
    rw [if_pos h, if_pos this]
  · have : ¬ rn n d < 0 := fun z => by
      have := Int.mul_neg_of_pos_of_neg g z
      omega
    rw [if_neg h, if_neg this]
end K00

namespace K00
open PySem L2 Z
theorem cEq_2 (a b c d : Int) (s : Sto) : cEq s (.tup [.int a, .int b]) (.tup [.int c, .int d]) = some (decide (a = c) && decide (b = d)) := by
  have e : cEq s (.tup [.int a, .int b]) (.tup [.int c, .int d]) = deepEq s (.tup [.int a, .int b]) (.tup [.int c, .int d]) := rfl
  rw [e]
  have s1 : ∀ x y : Int, SeqAt.shaped (.tuple [.int x, .int y]) = true := fun x y => by simp [SeqAt.shaped, PyData.canLay0, PyData.canLayAll0, PyData.depth, PyData.depthAll]
  simp [deepEq, toPy, s1, PyData.eqv, PyData.eqvAll]
  by_cases h1 : a = c <;> by_cases h2 : b = d <;> simp [h1, h2]
def ts (x : Int) : Str := toString x
theorem strI (x : Int) (s : Sto) (h : x.natAbs.log2 < 1920) : strM [] [.int x] s = .ok (.str (ts x)) s := by
  simp [strM, clsOf, h, ts]
theorem ts_len {a : Int} (h : a.natAbs.log2 < 1920) : (ts a).length ≤ 1921 := str_len h
theorem text_eq (a b : Int) : text a b = if 1 < b then ((ts a) ++ ("/" : Str)) ++ (ts b) else ts a := rfl
theorem bAdd_s {s : Sto} {a b : Str} (h : a.length + b.length ≤ line) : bAdd s (.str a) (.str b) = some (.str (a ++ b)) := if_pos h
theorem is_same (a b c d : Int) (s : Sto) (h1 : a = c) (h2 : b = d) : m_ulaw_is [rat a b, .tup [.int c, .int d]] s = .ok (.bl true) s := by
  subst h1 h2; exact is_run _ _ _
theorem str_own {a b : Int} {y : Str} {s : Sto} (h : m_Ratio___str__ [rat a b] s = .ok (.str y) s) : strM [(20, m_Ratio___str__)] [rat a b] s = .ok (.str y) s := by
  simp [strM, clsOf, h]
noncomputable def rest : MS := (sSeq (sAsg 5 (mCall (mPure (newC 20 m_Ratio___init__)) (mCons (mIx (mVar 3) (mC (.int 0))) (mCons (mIx (mVar 3) (mC (.int 1))) mNil))))
    (sSeq (sIf (mCmp cEq (mVar 2) (mC (.int 1))) (sAsg 5 (mKw kw_Ratio_1_den_g (mPure (newC 20 m_Ratio___init__)) (mCons (mIx (mVar 3) (mC (.int 0))) mNil) (mCons (mIx (mVar 3) (mC (.int 1))) mNil))) sNil)
    (sSeq (sIf (mCmp cEq (mVar 2) (mC (.int 2))) (sAsg 5 (mKw kw_Ratio_0_den_num_g (mPure (newC 20 m_Ratio___init__)) mNil (mCons (mIx (mVar 3) (mC (.int 1))) (mCons (mIx (mVar 3) (mC (.int 0))) mNil)))) sNil)
    (sSeq (sAsg 6 (mCall (mPure (newC 20 m_Ratio___init__)) (mCons (mIx (mVar 4) (mC (.int 0))) (mCons (mIx (mVar 4) (mC (.int 1))) mNil))))
    (sSeq (sAsg 7 (mCall m_ulaw_less (mCons (mIx (mVar 3) (mC (.int 0))) (mCons (mIx (mVar 3) (mC (.int 1))) mNil))))
    (sSeq (sAsg 8 (mCall (strM []) (mCons (mIx (mVar 7) (mC (.int 0))) mNil)))
    (sSeq (sIf (mCmp cGt (mIx (mVar 7) (mC (.int 1))) (mC (.int 1))) (sAsg 8 (mBin bAdd (mBin bAdd (mVar 8) (mC (.str ("/" : Str)))) (mCall (strM []) (mCons (mIx (mVar 7) (mC (.int 1))) mNil)))) sNil)
    (sSeq (sIf (mOr (mNot (mTru (mCall m_ulaw_is (mCons (mVar 5) (mCons (mVar 7) mNil))))) (mOr (mNot (mTru (mCall (m_ulaw_same 3) (mCons (mCall (strM [(20, m_Ratio___str__)]) (mCons (mVar 5) mNil)) (mCons (mVar 8) mNil))))) (mNot (mTru (mCall m_ulaw_is (mCons (mBinM (ownM [(20, m_Ratio___add__)] (optM bAdd)) (mVar 5) (mVar 6)) (mCons (mCall m_ulaw_plus (mCons (mVar 7) (mCons (mCall m_ulaw_less (mCons (mIx (mVar 4) (mC (.int 0))) (mCons (mIx (mVar 4) (mC (.int 1))) mNil))) mNil))) mNil))))))) (sRet (mC (.bl false))) sNil)
    (sSeq (sIf (mOr (mNot (mTru (mCall m_ulaw_is (mCons (mBinM (ownM [(20, m_Ratio___sub__)] (optM bSub)) (mVar 5) (mVar 6)) (mCons (mCall m_ulaw_minus (mCons (mVar 7) (mCons (mCall m_ulaw_less (mCons (mIx (mVar 4) (mC (.int 0))) (mCons (mIx (mVar 4) (mC (.int 1))) mNil))) mNil))) mNil))))) (mNot (mTru (mCall m_ulaw_is (mCons (mBinM (ownM [(20, m_Ratio___mul__)] (optM bMul)) (mVar 5) (mVar 6)) (mCons (mCall m_ulaw_times (mCons (mVar 3) (mCons (mVar 4) mNil))) mNil)))))) (sRet (mC (.bl false))) sNil)
    (sSeq (sIf (mOr (mNot (mTru (mCall (m_ulaw_same 3) (mCons (mMeth [(20, m_Ratio_less)] (mVar 5) (mCons (mVar 6) mNil)) (mCons (mCall m_ulaw_below (mCons (mVar 3) (mCons (mVar 4) mNil))) mNil))))) (mNot (mTru (mCall (m_ulaw_same 3) (mCons (mBinM (ownM [(20, m_Ratio___eq__)] (cmpB cEq)) (mVar 5) (mVar 6)) (mCons (mV (mCmp cEq (mCall m_ulaw_less (mCons (mIx (mVar 4) (mC (.int 0))) (mCons (mIx (mVar 4) (mC (.int 1))) mNil))) (mVar 7))) mNil)))))) (sRet (mC (.bl false))) sNil)
    (sSeq (sAsg 9 (mBin bSub (mC (.int 1)) (mBin bMul (mC (.int 2)) (mCallF fInt (mCons (mV (mCmp cLt (mIx (mVar 4) (mC (.int 0))) (mC (.int 0)))) mNil)))))
    (sSeq (sIf (mCmp cEq (mIx (mVar 4) (mC (.int 0))) (mC (.int 0))) (sIf (mNot (mTru (mCall m_ulaw_refused (mCons (mVar 3) (mCons (mVar 4) mNil))))) (sRet (mC (.bl false))) sNil) (sIf (mNot (mTru (mCall m_ulaw_is (mCons (mMeth [(20, m_Ratio_over)] (mVar 5) (mCons (mVar 6) mNil)) (mCons (mCall m_ulaw_less (mCons (mBin bMul (mBin bMul (mIx (mVar 3) (mC (.int 0))) (mIx (mVar 4) (mC (.int 1)))) (mVar 9)) (mCons (mBin bMul (mBin bMul (mIx (mVar 3) (mC (.int 1))) (mIx (mVar 4) (mC (.int 0)))) (mVar 9)) mNil))) mNil))))) (sRet (mC (.bl false))) sNil))
    (sIf (mOr (mNot (mTru (mCall m_ulaw_is (mCons (mVar 5) (mCons (mVar 7) mNil))))) (mNot (mTru (mCall m_ulaw_is (mCons (mVar 6) (mCons (mCall m_ulaw_less (mCons (mIx (mVar 4) (mC (.int 0))) (mCons (mIx (mVar 4) (mC (.int 1))) mNil))) mNil)))))) (sRet (mC (.bl false))) sNil)))))))))))))
noncomputable def body1 : MS := (sSeq (sAsg 3 (mCall m_ulaw_pair (mCons (mVar 1) mNil)))
    (sSeq (sAsg 4 (mIx (mTup (mCons (mCall m_ulaw_pair (mCons (mVar 1) mNil)) (mCons (mVar 3) mNil))) (mCallF fInt (mCons (mV (mCmp cEq (mCall m_ulaw_draw (mCons (mVar 1) (mCons (mC (.int 5)) mNil))) (mC (.int 0)))) mNil))))
    rest))
noncomputable def body2 : MS := (sSeq (sAsg 10 (mIx (mTup (mCons (mBin bSub (mCall m_ulaw_draw (mCons (mVar 1) (mCons (mC (.int 9)) mNil))) (mC (.int 4))) (mCons (mIx (mCall m_ulaw_pair (mCons (mVar 1) mNil)) (mC (.int 0))) mNil))) (mCall m_ulaw_draw (mCons (mVar 1) (mCons (mC (.int 2)) mNil)))))
    (sSeq (sAsg 11 (mIx (mTup (mCons (mCall m_ulaw_draw (mCons (mVar 1) (mCons (mC (.int 3)) mNil))) (mCons (mCall m_ulaw_draw (mCons (mVar 1) (mCons (mC (.int 1001)) mNil))) (mCons (mBin bPow (mC (.int 10)) (mC (.int 20))) mNil)))) (mBin bAdd (mVar 2) (mCallF fInt (mCons (mAndV (mV (mCmp cEq (mCall m_ulaw_draw (mCons (mVar 1) (mCons (mC (.int 6)) mNil))) (mC (.int 0)))) (mV (mCmp cEq (mVar 2) (mC (.int 1))))) mNil)))))
    (sIf (mNot (mTru (mCall m_ulaw_refused (mCons (mTup (mCons (mVar 10) (mCons (mBin bSub (mC (.int 0)) (mVar 11)) mNil))) (mCons (mC .non) mNil))))) (sRet (mC (.bl false))) sNil)))
theorem rest_run (n d m e : Int) (e0 e2 e5 e6 e7 e8 e9 e10 e11 : Option MV) (t : Int) (s : Sto) (hd : 0 < d) (he : 0 < e) (sn : nb n ≤ 300) (sd : nb d ≤ 300) (sm : nb m ≤ 300) (se : nb e ≤ 300) :
    ∃ f5 f6 f7 f8 f9, rest [e0, some (.ref 0), some (.int t), some (.tup [.int n, .int d]), some (.tup [.int m, .int e]), e5, e6, e7, e8, e9, e10, e11] s = .nx [e0, some (.ref 0), some (.int t), some (.tup [.int n, .int d]), some (.tup [.int m, .int e]), f5, f6, f7, f8, f9, e10, e11] s := by
  have d1 : nb d ≤ 5000 := nb_mono sd (by omega)
  have e1 : nb e ≤ 5000 := nb_mono se (by omega)
  have pa := rd_pos (n := n) hd
  have pb := rd_pos (n := m) he
  have za : nb (rn n d) ≤ 300 := nb_rn hd sn
  have zb : nb (rd n d) ≤ 300 := nb_rd hd sd
  have zc : nb (rn m e) ≤ 300 := nb_rn he sm
  have zd : nb (rd m e) ≤ 300 := nb_rd he se
  have wa := nb_mono za (show 300 ≤ 2000 by omega)
  have wb := nb_mono zb (show 300 ≤ 2000 by omega)
  have wc := nb_mono zc (show 300 ≤ 2000 by omega)
  have wd := nb_mono zd (show 300 ≤ 2000 by omega)
  have wn := nb_mono sn (show 300 ≤ 2000 by omega)
  have wd' := nb_mono sd (show 300 ≤ 2000 by omega)
  have wm := nb_mono sm (show 300 ≤ 2000 by omega)
  have we := nb_mono se (show 300 ≤ 2000 by omega)
  have rA := make_run n d s hd d1
  have rB := make_run m e s he e1
  have lA := less_run n d s hd d1
  have lB := less_run m e s he e1
  have la : (rn n d).natAbs.log2 < 1920 := by have := nb_log za; omega
  have lb : (rd n d).natAbs.log2 < 1920 := by have := nb_log zb; omega
  have tA := strI (rn n d) s la
  have tB := strI (rd n d) s lb
  have xa := ts_len la
  have xb := ts_len lb
  have x1 : ("/" : Str).length = 1 := by decide
  have S := str_run (rn n d) (rd n d) s pa (nb_mono za (by omega)) (nb_mono zb (by omega))
  have a1 : bAdd s (.str (ts (rn n d))) (.str ("/" : Str)) = some (.str (ts (rn n d) ++ ("/" : Str))) := bAdd_s (by show _ ≤ 100000; omega)
  have a2 : bAdd s (.str (ts (rn n d) ++ ("/" : Str))) (.str (ts (rd n d))) = some (.str ((ts (rn n d) ++ ("/" : Str)) ++ ts (rd n d))) := bAdd_s (by rw [Str.length_append]; show _ ≤ 100000; omega)
  rw [text_eq] at S
  have ra := gI_red (n := n) hd
  have rb := gI_red (n := m) he
  have A := add_run (rn n d) (rd n d) (rn m e) (rd m e) s pa pb wa wb wc wd
  have B := sub_run (rn n d) (rd n d) (rn m e) (rd m e) s pa pb wa wb wc wd
  have M := mul_run (rn n d) (rd n d) (rn m e) (rd m e) s pa pb wa wb wc wd
  have A' := plus_run (rn n d) (rd n d) (rn m e) (rd m e) s pa pb wa wb wc wd
  rw [plus_eq pa pb ra rb] at A'
  have B' := minus_run (rn n d) (rd n d) (rn m e) (rd m e) s pa pb wa wb wc wd
  rw [minus_eq pa pb ra rb] at B'
  have M' := times_run n d m e s hd he wn wd' wm we
  obtain ⟨tm1, tm2⟩ := times_eq (n := n) (m := m) hd he
  rw [tm1, tm2] at M
  have L := less_op (rn n d) (rd n d) (rn m e) (rd m e) s wa wb wc wd
  have L' := below_run n d m e s wn wd' wm we
  have lq : decide (rn n d * rd m e < rn m e * rd n d) = decide (n * e < m * d) := decide_eq_decide.mpr (below_eq hd he)
  rw [lq] at L
  have E := eq_run (rn n d) (rd n d) (rn m e) (rd m e) s
  have E' := cEq_2 (rn m e) (rd m e) (rn n d) (rd n d) s
  have eqq : (decide (rn n d = rn m e) && decide (rd n d = rd m e)) = (decide (rn m e = rn n d) && decide (rd m e = rd n d)) := by
    rw [decide_eq_decide.mpr (eq_comm (a := rn n d)), decide_eq_decide.mpr (eq_comm (a := rd n d))]
  rw [eqq] at E
  have k2 : nb (2 : Int) ≤ 2 := by decide
  have k1 : ∀ x : Int, x = 0 ∨ x = 1 → nb x ≤ 2 := fun x h => by rcases h with rfl | rfl <;> decide
  have sg2 : bMul s (.int 2) (.int (if m < 0 then 1 else 0)) = some (.int (2 * (if m < 0 then 1 else 0))) := mulS k2 (k1 _ (by split <;> simp)) (by omega)
  have sgm : 1 - 2 * (if m < 0 then (1 : Int) else 0) = sg m := by unfold sg; split <;> rfl
  have o20 : ∀ x y : Int, clsOf s (rat x y) = some 20 := fun _ _ => rfl
  have nsg : nb (sg m) ≤ 2 := by unfold sg; split <;> decide
  have p1 : bMul s (.int n) (.int e) = some (.int (n * e)) := mulS sn se (by omega)
  have p2 : bMul s (.int (n * e)) (.int (sg m)) = some (.int (n * e * sg m)) := mulS (nb_mul sn se) nsg (by omega)
  have p3 : bMul s (.int d) (.int m) = some (.int (d * m)) := mulS sd sm (by omega)
  have p4 : bMul s (.int (d * m)) (.int (sg m)) = some (.int (d * m * sg m)) := mulS (nb_mul sd sm) nsg (by omega)
  have turn1 : ∀ x y : MV, kw_Ratio_1_den_g [x] [y] = [x, y] := fun _ _ => rfl
  have turn2 : ∀ x y : MV, kw_Ratio_0_den_num_g [] [y, x] = [x, y] := fun _ _ => rfl
  have IA := is_run (rn n d) (rd n d) s
  have IB := is_run (rn m e) (rd m e) s
  by_cases hm : m = 0
  · have R0 : m_ulaw_refused [.tup [.int n, .int d], .tup [.int m, .int e]] s = .ok (.bl true) s := by rw [hm]; exact refused_0 n d e s hd he d1 e1
    by_cases h1 : 1 < rd n d
    · rw [if_pos h1] at S
      have S2 := str_own S
      by_cases t1 : t = 1
      · simp [rest, rA, rB, lA, lB, tA, tB, a1, a2, S2, ownM, o20, A, B, M, A', B', M', L, L', E, E', is_run, same_str, same_bl, sg2, turn1, turn2, h1, t1, R0, if_pos hm]
      · by_cases t2 : t = 2
        · simp [rest, rA, rB, lA, lB, tA, tB, a1, a2, S2, ownM, o20, A, B, M, A', B', M', L, L', E, E', is_run, same_str, same_bl, sg2, turn1, turn2, h1, t1, t2, R0, if_pos hm]
        · simp [rest, rA, rB, lA, lB, tA, tB, a1, a2, S2, ownM, o20, A, B, M, A', B', M', L, L', E, E', is_run, same_str, same_bl, sg2, turn1, turn2, h1, t1, t2, R0, if_pos hm]
    · rw [if_neg h1] at S
      have S2 := str_own S
      by_cases t1 : t = 1
      · simp [rest, rA, rB, lA, lB, tA, tB, a1, a2, S2, ownM, o20, A, B, M, A', B', M', L, L', E, E', is_run, same_str, same_bl, sg2, turn1, turn2, h1, t1, R0, if_pos hm]
      · by_cases t2 : t = 2
        · simp [rest, rA, rB, lA, lB, tA, tB, a1, a2, S2, ownM, o20, A, B, M, A', B', M', L, L', E, E', is_run, same_str, same_bl, sg2, turn1, turn2, h1, t1, t2, R0, if_pos hm]
        · simp [rest, rA, rB, lA, lB, tA, tB, a1, a2, S2, ownM, o20, A, B, M, A', B', M', L, L', E, E', is_run, same_str, same_bl, sg2, turn1, turn2, h1, t1, t2, R0, if_pos hm]
  · have hq : rn m e ≠ 0 := fun z => hm ((rn_zero he).mp z)
    have O := over_run (rn n d) (rd n d) (rn m e) (rd m e) s pa pb hq wa wb wc wd
    rw [sg_rn he] at O
    obtain ⟨tq1, tq2⟩ := quot_eq (n := n) (m := m) (s := sg m) hd he
    rw [tq1, tq2] at O
    have ps : 0 < d * m * sg m := by
      unfold sg
      split
      · rename_i z
        have := Int.mul_pos hd (show 0 < -m by omega)
        rw [Int.mul_neg] at this
        omega
      · have := Int.mul_pos hd (show 0 < m by omega)
        omega
    have lQ := less_run (n * e * sg m) (d * m * sg m) s ps (nb_mono (nb_mul (nb_mul sd sm) nsg) (by omega))
    by_cases h1 : 1 < rd n d
    · rw [if_pos h1] at S
      have S2 := str_own S
      by_cases t1 : t = 1
      · simp [rest, rA, rB, lA, lB, tA, tB, a1, a2, S2, ownM, o20, A, B, M, A', B', M', L, L', E, E', is_run, same_str, same_bl, sg2, turn1, turn2, h1, t1, O, lQ, sgm, p1, p2, p3, p4, if_neg hm, clsOf]
      · by_cases t2 : t = 2
        · simp [rest, rA, rB, lA, lB, tA, tB, a1, a2, S2, ownM, o20, A, B, M, A', B', M', L, L', E, E', is_run, same_str, same_bl, sg2, turn1, turn2, h1, t1, t2, O, lQ, sgm, p1, p2, p3, p4, if_neg hm, clsOf]
        · simp [rest, rA, rB, lA, lB, tA, tB, a1, a2, S2, ownM, o20, A, B, M, A', B', M', L, L', E, E', is_run, same_str, same_bl, sg2, turn1, turn2, h1, t1, t2, O, lQ, sgm, p1, p2, p3, p4, if_neg hm, clsOf]
    · rw [if_neg h1] at S
      have S2 := str_own S
      by_cases t1 : t = 1
      · simp [rest, rA, rB, lA, lB, tA, tB, a1, a2, S2, ownM, o20, A, B, M, A', B', M', L, L', E, E', is_run, same_str, same_bl, sg2, turn1, turn2, h1, t1, O, lQ, sgm, p1, p2, p3, p4, if_neg hm, clsOf]
      · by_cases t2 : t = 2
        · simp [rest, rA, rB, lA, lB, tA, tB, a1, a2, S2, ownM, o20, A, B, M, A', B', M', L, L', E, E', is_run, same_str, same_bl, sg2, turn1, turn2, h1, t1, t2, O, lQ, sgm, p1, p2, p3, p4, if_neg hm, clsOf]
        · simp [rest, rA, rB, lA, lB, tA, tB, a1, a2, S2, ownM, o20, A, B, M, A', B', M', L, L', E, E', is_run, same_str, same_bl, sg2, turn1, turn2, h1, t1, t2, O, lQ, sgm, p1, p2, p3, p4, if_neg hm, clsOf]
end K00

namespace K00
open PySem L2 Z
section
variable {ns : List Int}
theorem body1_run {i c2 c3 c4 : Int} (hi : 0 ≤ i) (h3 : 0 ≤ c3) (h3' : c3 < 2147483647) (e0 e3 e4 e5 e6 e7 e8 e9 e10 e11 : Option MV) (t : Int) :
    ∃ f3 f4 f5 f6 f7 f8 f9 i' c2' c3' c4', body1 [e0, some (.ref 0), some (.int t), e3, e4, e5, e6, e7, e8, e9, e10, e11] [P ns i c2 c3 c4] = .nx [e0, some (.ref 0), some (.int t), f3, f4, f5, f6, f7, f8, f9, e10, e11] [P ns i' c2' c3' c4'] ∧ 0 ≤ i' ∧ 0 ≤ c3' ∧ c3' < 2147483647 := by
  obtain ⟨n, d, i1, a1, b1, d1, q1, p1, sn, sd, t1, u1, w1⟩ := pair_run (ns := ns) (c2 := c2) (c4 := c4) hi h3 h3'
  obtain ⟨m, e, i2, a2, b2, d2, q2, p2, sm, se, t2, u2, w2⟩ := pair_run (ns := ns) (c2 := a1) (c4 := d1) t1 u1 w1
  obtain ⟨v3, i3, a3, b3, d3, q3, r3, s3, t3, u3, w3⟩ := draw_run (ns := ns) (c2 := a2) (c4 := d2) 5 t2 u2 w2 (by omega) (by decide)
  by_cases h : v3 = 0
  · obtain ⟨f5, f6, f7, f8, f9, R⟩ := rest_run n d n d e0 e0 e5 e6 e7 e8 e9 e10 e11 t [P ns i3 a3 b3 d3] p1 p1 sn sd sn sd
    refine ⟨some (.tup [.int n, .int d]), some (.tup [.int n, .int d]), f5, f6, f7, f8, f9, i3, a3, b3, d3, ?_, t3, u3, w3⟩
    unfold body1
    simp [q1, q2, q3, h, line, R]
  · obtain ⟨f5, f6, f7, f8, f9, R⟩ := rest_run n d m e e0 e0 e5 e6 e7 e8 e9 e10 e11 t [P ns i3 a3 b3 d3] p1 p2 sn sd sm se
    refine ⟨some (.tup [.int n, .int d]), some (.tup [.int m, .int e]), f5, f6, f7, f8, f9, i3, a3, b3, d3, ?_, t3, u3, w3⟩
    unfold body1
    simp [q1, q2, q3, h, line, R]
theorem loop1 : ∀ (xs : List MV), (∀ x ∈ xs, ∃ t : Int, x = .int t) → ∀ {i c2 c3 c4 : Int} (e0 e2 e3 e4 e5 e6 e7 e8 e9 e10 e11 : Option MV), 0 ≤ i → 0 ≤ c3 → c3 < 2147483647 →
    ∃ f2 f3 f4 f5 f6 f7 f8 f9 i' c2' c3' c4', forL (tgName 2) body1 (fun _ => True) xs [e0, some (.ref 0), e2, e3, e4, e5, e6, e7, e8, e9, e10, e11] [P ns i c2 c3 c4] = .nx [e0, some (.ref 0), f2, f3, f4, f5, f6, f7, f8, f9, e10, e11] [P ns i' c2' c3' c4'] ∧ 0 ≤ i' ∧ 0 ≤ c3' ∧ c3' < 2147483647
  | [], _, i, c2, c3, c4, e0, e2, e3, e4, e5, e6, e7, e8, e9, e10, e11, hi, h3, h3' => ⟨e2, e3, e4, e5, e6, e7, e8, e9, i, c2, c3, c4, for_T_nil _ _, hi, h3, h3'⟩
  | x :: xs, hx, i, c2, c3, c4, e0, e2, e3, e4, e5, e6, e7, e8, e9, e10, e11, hi, h3, h3' => by
    obtain ⟨t, rfl⟩ := hx x List.mem_cons_self
    obtain ⟨f3, f4, f5, f6, f7, f8, f9, i', c2', c3', c4', B, g1, g2, g3⟩ := body1_run (ns := ns) (c2 := c2) (c4 := c4) hi h3 h3' e0 e3 e4 e5 e6 e7 e8 e9 e10 e11 t
    obtain ⟨k2, k3, k4, k5, k6, k7, k8, k9, i'', c2'', c3'', c4'', L, z⟩ := loop1 xs (fun y hy => hx y (List.mem_cons_of_mem _ hy)) (c2 := c2') (c4 := c4') e0 (some (.int t)) f3 f4 f5 f6 f7 f8 f9 e10 e11 g1 g2 g3
    refine ⟨k2, k3, k4, k5, k6, k7, k8, k9, i'', c2'', c3'', c4'', ?_, z⟩
    rw [for_T_cons]
    simp only [tgName_run, List.set_cons_succ, List.set_cons_zero, B, L]
theorem pw20 {s : Sto} : bPow s (.int 10) (.int 20) = some (.int 100000000000000000000) := by simp [bPow]
theorem body2_run {i c2 c3 c4 : Int} (hi : 0 ≤ i) (h3 : 0 ≤ c3) (h3' : c3 < 2147483647) (e0 e3 e4 e5 e6 e7 e8 e9 e10 e11 : Option MV) (t : Int) (ht : t = 0 ∨ t = 1) :
    ∃ f10 f11 i' c2' c3' c4', body2 [e0, some (.ref 0), some (.int t), e3, e4, e5, e6, e7, e8, e9, e10, e11] [P ns i c2 c3 c4] = .nx [e0, some (.ref 0), some (.int t), e3, e4, e5, e6, e7, e8, e9, f10, f11] [P ns i' c2' c3' c4'] ∧ 0 ≤ i' ∧ 0 ≤ c3' ∧ c3' < 2147483647 := by
  obtain ⟨v1, i1, a1, b1, d1, q1, r1, s1, t1, u1, w1⟩ := draw_run (ns := ns) (c2 := c2) (c4 := c4) 9 hi h3 h3' (by omega) (by decide)
  obtain ⟨n, d, i2, a2, b2, d2, q2, p2, sn, sd, t2, u2, w2⟩ := pair_run (ns := ns) (c2 := a1) (c4 := d1) t1 u1 w1
  obtain ⟨v3, i3, a3, b3, d3, q3, r3, s3, t3, u3, w3⟩ := draw_run (ns := ns) (c2 := a2) (c4 := d2) 2 t2 u2 w2 (by omega) (by decide)
  obtain ⟨v4, i4, a4, b4, d4, q4, r4, s4, t4, u4, w4⟩ := draw_run (ns := ns) (c2 := a3) (c4 := d3) 3 t3 u3 w3 (by omega) (by decide)
  obtain ⟨v5, i5, a5, b5, d5, q5, r5, s5, t5, u5, w5⟩ := draw_run (ns := ns) (c2 := a4) (c4 := d4) 1001 t4 u4 w4 (by omega) (by decide)
  obtain ⟨v6, i6, a6, b6, d6, q6, r6, s6, t6, u6, w6⟩ := draw_run (ns := ns) (c2 := a5) (c4 := d5) 6 t5 u5 w5 (by omega) (by decide)
  have D : ∀ (x y : Int), 0 ≤ y → m_ulaw_refused [.tup [.int x, .int (-y)], .non] [P ns i6 a6 b6 d6] = .ok (.bl true) [P ns i6 a6 b6 d6] := fun x y h => refused_den x (-y) _ (by omega)
  have c3 : v3 = 0 ∨ v3 = 1 := by omega
  have D4 := fun x => D x v4 r4
  have D5 := fun x => D x v5 r5
  have D20 := fun x => D x 100000000000000000000 (by omega)
  rcases c3 with rfl | rfl <;> rcases ht with rfl | rfl <;> by_cases h6 : v6 = 0
  all_goals exact ⟨_, _, i6, a6, b6, d6, by unfold body2; simp [q1, q2, q3, q4, q5, q6, h6, line, pw20, D4, D5, D20]; exact ⟨rfl, rfl⟩, t6, u6, w6⟩
theorem loop2 : ∀ (xs : List MV), (∀ x ∈ xs, x = .int 0 ∨ x = .int 1) → ∀ {i c2 c3 c4 : Int} (e0 e2 e3 e4 e5 e6 e7 e8 e9 e10 e11 : Option MV), 0 ≤ i → 0 ≤ c3 → c3 < 2147483647 →
    ∃ f2 f10 f11 i' c2' c3' c4', forL (tgName 2) body2 (fun _ => True) xs [e0, some (.ref 0), e2, e3, e4, e5, e6, e7, e8, e9, e10, e11] [P ns i c2 c3 c4] = .nx [e0, some (.ref 0), f2, e3, e4, e5, e6, e7, e8, e9, f10, f11] [P ns i' c2' c3' c4']
  | [], _, i, c2, c3, c4, e0, e2, e3, e4, e5, e6, e7, e8, e9, e10, e11, hi, h3, h3' => ⟨e2, e10, e11, i, c2, c3, c4, for_T_nil _ _⟩
  | x :: xs, hx, i, c2, c3, c4, e0, e2, e3, e4, e5, e6, e7, e8, e9, e10, e11, hi, h3, h3' => by
    obtain ⟨t, ht, rfl⟩ : ∃ t : Int, (t = 0 ∨ t = 1) ∧ x = .int t := by
      rcases hx x List.mem_cons_self with rfl | rfl
      · exact ⟨0, .inl rfl, rfl⟩
      · exact ⟨1, .inr rfl, rfl⟩
    obtain ⟨f10, f11, i', c2', c3', c4', B, g1, g2, g3⟩ := body2_run (ns := ns) (c2 := c2) (c4 := c4) hi h3 h3' e0 e3 e4 e5 e6 e7 e8 e9 e10 e11 t ht
    obtain ⟨k2, k10, k11, i'', c2'', c3'', c4'', L⟩ := loop2 xs (fun y hy => hx y (List.mem_cons_of_mem _ hy)) (c2 := c2') (c4 := c4') e0 (some (.int t)) e3 e4 e5 e6 e7 e8 e9 f10 f11 g1 g2 g3
    refine ⟨k2, k10, k11, i'', c2'', c3'', c4'', ?_⟩
    rw [for_T_cons]
    simp only [tgName_run, List.set_cons_succ, List.set_cons_zero, B, L]
end
theorem pool_run (ns : List Int) : m_ulaw_pool [.frz (ns.map .int), .int 0] [] = .ok (.ref 0) [P ns 0 0 1 0] := by
  unfold m_ulaw_pool
  rw [mFun_run]
  simp [fList, seqOf, line, P]
theorem seven (s : Sto) : mPure (withD [.int 1] (newC 20 m_Ratio___init__)) [.int 7] s = .ok (rat 7 1) s := by
  have e : mPure (withD [.int 1] (newC 20 m_Ratio___init__)) [.int 7] s = mPure (newC 20 m_Ratio___init__) [.int 7, .int 1] s := rfl
  rw [e, make_run 7 1 s (by decide) (by decide)]
  have h1 : rn 7 1 = 7 := by decide
  have h2 : rd 7 1 = 1 := by decide
  rw [h1, h2]
theorem law_true (ns : List Int) (_ : ns.length ≤ 63) : ∃ s, m_law [.frz (ns.map .int)] [] = .ok (.bl true) s := by
  have i4 : intsM 0 4 = [.int 0, .int 1, .int 2, .int 3] := by simp [intsM, List.range, List.range.loop]
  have i2 : intsM 0 2 = [.int 0, .int 1] := by simp [intsM, List.range, List.range.loop]
  have s4 : small 4 = true := by decide
  have s2 : small 2 = true := by decide
  obtain ⟨f2, f3, f4, f5, f6, f7, f8, f9, i', c2', c3', c4', L, g1, g2, g3⟩ := loop1 (ns := ns) [.int 0, .int 1, .int 2, .int 3] (by intro x hx; simp at hx; rcases hx with rfl | rfl | rfl | rfl <;> exact ⟨_, rfl⟩) (i := 0) (c2 := 0) (c3 := 1) (c4 := 0) (some (.frz (ns.map .int))) none none none none none none none none none none (by omega) (by omega) (by omega)
  obtain ⟨k2, k10, k11, i'', c2'', c3'', c4'', L2⟩ := loop2 (ns := ns) [.int 0, .int 1] (by intro x hx; simpa using hx) (c2 := c2') (c4 := c4') (some (.frz (ns.map .int))) f2 f3 f4 f5 f6 f7 f8 f9 none none g1 g2 g3
  have I := is_run 7 1 [P ns i'' c2'' c3'' c4'']
  refine ⟨[P ns i'' c2'' c3'' c4''], ?_⟩
  unfold body1 rest at L
  unfold body2 at L2
  unfold m_law
  rw [mFun_run]
  simp [pool_run]
  simp [s4, i4, L, s2, i2, L2, seven, line, I]
end K00

namespace K00
open PySem L2 Z
abbrev hk : PySem.W.Hook := hookZ 5 facts fn
def ob (s : PySem.W.SharedT) : He.AlD := obsZG 5 facts fn (HandSHeadRun.getT s)
theorem ob_eq (s : PySem.W.SharedT) : ob s = hk.obs s.abs := obsZG_eq (HandSHeadRun.getT_eq s)
abbrev R : PySem.W.OpenRow := PySem.W.OpenLaw.row PySem.Challenge.rw_stillframe_k00_fractions
theorem run (w : World) : HandSHeadRun.RunEqI R (PySem.W.view R.prog [0, 26]) hk ob 3000 ["_wall", "FrameError", "BadText", "BadFrame", "BadPlan", "BadLoad", "BadPaper", "BadDeed", "BadRatio", "Ratio", "_law_pool", "_law_draw", "_law_same", "_law_gcd", "_law_less", "_law_plus", "_law_minus", "_law_times", "_law_below", "_law_is", "_law_refused", "_law_pair"] w := by
  unfold HandSHeadRun.RunEqI
  kernel_rfl
end K00
open PySem PySem.W PySem.Calls PyProof.Rows
theorem PySem.Challenge.holds_of_K00 (hl : ∀ ns : List Int, ns.length ≤ 63 → ∃ s, K00.m_law [.frz (ns.map .int)] [] = .ok (.bl true) s) : PySem.Challenge.rw_stillframe_k00_fractions.Holds := by
  w_on; o_law
  refine HandSHeadRun.head_imp (r := OpenLaw.row PySem.Challenge.rw_stillframe_k00_fractions) (q := view (OpenLaw.row PySem.Challenge.rw_stillframe_k00_fractions).prog [0, 26]) (H := K00.hk) (ob := K00.ob) (M := 3000) (loose := ["_wall", "FrameError", "BadText", "BadFrame", "BadPlan", "BadLoad", "BadPaper", "BadDeed", "BadRatio", "Ratio", "_law_pool", "_law_draw", "_law_same", "_law_gcd", "_law_less", "_law_plus", "_law_minus", "_law_times", "_law_below", "_law_is", "_law_refused", "_law_pair"]) (d := HandSHeadRun.topDef (OpenLaw.row PySem.Challenge.rw_stillframe_k00_fractions).prog 26) (kwd := []) K00.ob_eq
    K00.run (by kernel_rfl) (by kernel_rfl) (by kernel_rfl) (by rfl) (by first | assumption | decide +kernel) (by decide +kernel) ⟨rfl, rfl, rfl, rfl, rfl, by decide +kernel⟩ ?hw ?hc
  case hw => w_witness2
  case hc =>
    refine Z.walk_ofW (l := PySem.Challenge.rw_stillframe_k00_fractions) (n := 63) (k := 6) (x := "script") (CX := fun w => L2.CX (PySem.Challenge.rw_stillframe_k00_fractions).prog w) rfl (by decide) (by kernel_rfl) ⟨rfl, by decide, by decide⟩ ?F Z.cx_no
    intro w mg fa h Y G hmg0
    obtain ⟨K, KX, c⟩ := Y
    have hmg : mg ("law" : PySem.Str) = some (.ref fa) := by
      have e : (HandSHeadRun.topDef (OpenLaw.row PySem.Challenge.rw_stillframe_k00_fractions).prog 26).name = ("law" : PySem.Str) := by kernel_rfl
      rw [← e]
      exact hmg0
    have T : K00.TT K mg := Z.txt_of KX G c
    have e := hmg.symm.trans (T.glo 55)
    cases e
    refine ⟨K, Z.fdOf K K00.at_law, Z.spM (K00.tx K) 1 K00.m_law, KX, ?_, fun H a ns hn _ hS => Z.law_sp rfl rfl hS (hl ns hn), fun base KB GB => K00.ok_law T⟩
    exact fun s v => L2.FunD.bindsA (ps := ["script"]) (K00.F_law T) (fun _ _ _ _ _ _ us hl => match us, hl with | [_], _ => rfl) s [v] rfl

theorem PySem.Challenge.cw_stillframe_k00_fractions_holds : PySem.Challenge.rw_stillframe_k00_fractions.Holds := by
  exact PySem.Challenge.holds_of_K00 K00.law_true
#print axioms PySem.Challenge.cw_stillframe_k00_fractions_holds
