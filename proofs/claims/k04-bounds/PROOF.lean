import PyProof.Rows.All
import Wide.All
import OpenK.AllK
import Wide.FinOn
import HandS.ForMost
import HandS.ForExc
import HandS.Wide
import HandS.Gcd
import HandS.IsInst
import HandS.CallSlots
import HandS.TupAny
import HandS.Text
import HandS.Deep
import HandS.WideBits
import HandS.Defaults
import HandS.Zip
import KE.GoesEnum
import HandS.ExcIs
import HandS.TryOnly
import HandS.ExcField
import HandS.FStr
import HandS.MakeKw
import HandS.MakeKwOnly
import HandS.Words
import HandS.WordsExc
import HandS.Head0
import HandS.Head1
import HandS.Head2
import HandS.Head3
import HandS.HeadEnd
import HandS.HeadHook1
import HandS.HeadHook2
import KE.IntBitsLaws
import KE.KExcSuper
import KE.KSuper
import KE.KExcIs
import HandS.SetFor
import HandS.More
import HandS.TryMany
import HandS.HotCalls
import HandS.EndBits
import KE.KRevSl
import HandS.Strs
import PySem.Challenge.RW_stillframe_k04_bounds_of_texts
set_option Elab.async false
set_option linter.all false
set_option maxRecDepth 100000
set_option maxHeartbeats 0
/-! Z: a plain reading of a Python text: values MV, a store of cells, the relation to what the hand layer tracks. -/
namespace Z
open PySem L2

/-- a value: inline data (never changed), or a cell of the store -/
inductive MV where
  | non | bl (b : Bool) | int (i : Int) | str (s : Str)
  | tup (xs : List MV) | lst (xs : List MV) | frz (xs : List MV) | ins (c : Nat) (xs : List MV)
  | ref (n : Nat) | fn (k : Nat) | exc
/-- what may change -/
inductive Cell where
  | lst (xs : List MV) | ins (c : Nat) (fs : List (Nat × MV)) | dct (kvs : List (MV × MV))
abbrev Sto := List Cell

/-! ### the names of fields, by number; the classes, by number -/
def fnames : List Str := ("at" : Str) :: ("what" : Str) :: ("num" : Str) :: ("den" : Str) :: ("joints" : Str) :: ("rods" : Str) :: ("holds" : Str) :: ("words" : Str) :: ("cursor" : Str) :: ("width" : Str) :: ("many" : Str) :: ("steps" : Str) :: ("loose" : Str) :: ("height" : Str) :: ("flips" : Str) :: ("rows" : Str) :: ("basis" : Str) :: ("costs" : Str) :: ("frame" : Str) :: ("axes" : Str) :: ("sides" : Str) :: ("bounded" : Str) :: ("bounds" : Str) :: ("loads" : Str) :: ("leads" : Str) :: ("size" : Str) :: ("pairs" : Str) :: ("squares" : Str) :: ("first" : Str) :: ("deeds" : Str) :: ("frames" : Str) :: ("later" : Str) :: ("watches" : Str) :: ("known" : Str) :: []
def fnm (i : Nat) : Str := fnames.getD i "?"
theorem fnames_nodup : fnames.Nodup := by decide +kernel
theorem fnm_inj {i j : Nat} (hi : i < 34) (hj : j < 34) (h : fnm i = fnm j) : i = j := by
  have li : i < fnames.length := hi
  have lj : j < fnames.length := hj
  unfold fnm at h
  rw [List.getD_eq_getElem?_getD, List.getD_eq_getElem?_getD, List.getElem?_eq_getElem li, List.getElem?_eq_getElem lj] at h
  exact (List.getElem_inj fnames_nodup).mp h
/-- the fields of each class, in the order in which they are stored -/
def fieldTab : List (Nat × List Nat) := [(1, [0]), (2, [1]), (3, [1]), (4, [1]), (5, [0]), (6, [1]), (8, [1]), (9, [1]), (10, [1]), (11, [1]), (12, [1]),
  (20, [2, 3]), (21, [4, 5, 6]), (22, [7, 0]), (23, [8, 4, 5, 6]), (24, [9, 10, 11, 12]), (25, [13, 9, 14, 15, 16, 3, 17]), (26, [18, 19, 20, 21, 9, 15, 22]), (27, [18, 23, 5, 19, 9, 15]),
  (28, [24]), (29, [25, 5]), (30, [25, 26]), (31, [25, 5]), (32, [27]), (33, [18, 28, 29, 30, 31, 32, 33])]
def fieldsOf (c : Nat) : List Nat := (fieldTab.lookup c).getD []
theorem fieldTab_lt : (fieldTab.all fun p => p.2.all fun f => decide (f < 34)) = true := by decide +kernel
theorem lookup_mem {α : Type} : ∀ {l : List (Nat × α)} {c : Nat} {x : α}, l.lookup c = some x → (c, x) ∈ l
  | (d, y) :: l, c, x, h => by
    rw [List.lookup_cons] at h
    split at h
    · rename_i e
      have e' : c = d := by simpa using e
      cases h; subst e'; exact List.mem_cons_self
    · exact List.mem_cons_of_mem _ (lookup_mem h)
theorem fieldsOf_lt {c f : Nat} (h : f ∈ fieldsOf c) : f < 34 := by
  unfold fieldsOf at h
  cases e : fieldTab.lookup c with
  | none => rw [e] at h; exact absurd h (by simp)
  | some l =>
    rw [e] at h
    have m := lookup_mem e
    have q := List.all_eq_true.mp fieldTab_lt _ m
    have q2 := List.all_eq_true.mp q f h
    simpa using q2
/-- a field of inline data: its place -/
def zipLook : List Nat → List MV → Nat → Option MV
  | i :: is, v :: vs, f => if i = f then some v else zipLook is vs f
  | _, _, _ => none
def putN (f : Nat) (v : MV) : List (Nat × MV) → List (Nat × MV)
  | [] => [(f, v)]
  | (g, w) :: r => if g = f then (g, v) :: r else (g, w) :: putN f v r
def lookN (f : Nat) : List (Nat × MV) → Option MV
  | [] => none
  | (g, w) :: r => if g = f then some w else lookN f r

/-! ### the relation -/
/-- the text's written part: where its classes and defs stand -/
structure Co where
  K : PySem.W.Frag
  cls : Nat → Addr
  has : Nat → Bool
  hasX : Nat → Bool
  fnA : Nat → Addr
/-- .. and the exception that is handled: its class, its fields, the class object, its dict -/
structure Tx extends Co where
  exc : Option (Nat × List (Nat × MV) × Value × Option Addr × Addr)

def FzT (K : PySem.W.Frag) (ρ : List Addr) (H : Hp) (a : Addr) (ys : List V) : Prop :=
  (a ∉ ρ ∧ Rd H a (.tup ys)) ∨ ∃ (o : Obj) (its : Array Value) (n : Nat), K.lookup a = some o ∧ o.cls = .type "tuple" ∧ o.data = .seq its n ∧ its.size ≤ sizeLine ∧ Vals ys its.toList
/-- a list that is locked, or of the written part: read, copied -/
def FzL (K : PySem.W.Frag) (ρ : List Addr) (H : Hp) (a : Addr) (ys : List V) : Prop :=
  (a ∉ ρ ∧ Rd H a (.lst ys)) ∨ ∃ (o : Obj) (its : Array Value) (n : Nat), K.lookup a = some o ∧ o.cls = .type "list" ∧ o.dict = none ∧ o.data = .seq its n ∧ its.size ≤ sizeLine ∧ Vals ys its.toList
theorem FzT.sq {K : PySem.W.Frag} {ρ : List Addr} {H : Hp} {a : Addr} {ys : List V} (h : FzT K ρ H a ys) : SqT K H a ys := h.imp (·.2) id
theorem FzL.sq {K : PySem.W.Frag} {ρ : List Addr} {H : Hp} {a : Addr} {ys : List V} (h : FzL K ρ H a ys) : SqL K H a ys := h.imp (·.2) id

mutual
def RV' (T : Co) (ρ : List Addr) (H : Hp) : MV → V → Prop
  | .non, v => v = .non
  | .bl b, v => v = .bl b
  | .int i, v => v = .int i
  | .str s, v => v = .str s
  | .tup xs, v => ∃ a ys, v = .ref a ∧ FzT T.K ρ H a ys ∧ RVs' T ρ H xs ys
  | .lst xs, v => ∃ a ys, v = .ref a ∧ a ∉ ρ ∧ H a = some (.lst ys) ∧ RVs' T ρ H xs ys
  | .frz xs, v => ∃ a ys, v = .ref a ∧ FzL T.K ρ H a ys ∧ RVs' T ρ H xs ys
  | .ins c xs, v => ∃ a dx vs, v = .ref a ∧ a ∉ ρ ∧ T.has c = true ∧ xs.length = (fieldsOf c).length ∧ H a = some (.ins (T.cls c) dx (((fieldsOf c).map fnm).zip vs)) ∧ RVs' T ρ H xs vs
  | .ref n, v => ∃ a, ρ[n]? = some a ∧ v = .ref a
  | .fn k, v => v = .ref (T.fnA k)
  | .exc, _ => False
def RVs' (T : Co) (ρ : List Addr) (H : Hp) : List MV → List V → Prop
  | [], vs => vs = []
  | x :: xs, vs => ∃ y ys, vs = y :: ys ∧ RV' T ρ H x y ∧ RVs' T ρ H xs ys
end
abbrev RV (T : Tx) := RV' T.toCo
abbrev RVs (T : Tx) := RVs' T.toCo

/-- a dict's key -/
def keyOf : MV → Option Key
  | .int i => some (.inl i)
  | .str s => some (.inr s)
  | _ => none
def keysOf : MV → Option (List Key)
  | .tup xs => xs.mapM keyOf
  | _ => none
def RD (T : Tx) (ρ : List Addr) (H : Hp) (kvs : List (MV × MV)) (o : HO) : Prop :=
  (∃ ys : List (Key × V), o = .dK ys ∧ kvs.map (fun p => keyOf p.1) = ys.map (fun p => some p.1) ∧ RVs T ρ H (kvs.map (·.2)) (ys.map (·.2))) ∨
  (∃ ys : List (List Key × V), o = .dT ys ∧ kvs.map (fun p => keysOf p.1) = ys.map (fun p => some p.1) ∧ RVs T ρ H (kvs.map (·.2)) (ys.map (·.2)))
def RC (T : Tx) (ρ : List Addr) (H : Hp) : Cell → Option HO → Prop
  | .lst xs, o => ∃ ys, o = some (.lst ys) ∧ RVs T ρ H xs ys
  | .ins c fs, o => ∃ dx vs, o = some (.ins (T.cls c) dx ((fs.map fun p => fnm p.1).zip vs)) ∧ T.has c = true ∧ (∀ p ∈ fs, p.1 ∈ fieldsOf c) ∧ fs.length ≤ 40 ∧ RVs T ρ H (fs.map (·.2)) vs
  | .dct kvs, o => ∃ u, o = some u ∧ RD T ρ H kvs u
/-- an exception -/
def RX (T : Tx) (ρ : List Addr) (H : Hp) (c : Nat) (fs : List (Nat × MV)) (cl : Value) (d : Option Addr) : Prop :=
  cl = .ref (T.cls c) ∧ T.hasX c = true ∧ (∀ p ∈ fs, p.1 < 34) ∧ ((fs = [] ∧ d = none) ∨ ∃ dd vs, d = some dd ∧ fs ≠ [] ∧ dd ∉ ρ ∧ H dd = some (.xd ((fs.map fun p => fnm p.1).zip vs)) ∧ RVs T ρ H (fs.map (·.2)) vs)
structure Sim (T : Tx) (ρ : List Addr) (st : Sto) (H : Hp) : Prop where
  len : ρ.length = st.length
  nd : ρ.Nodup
  exc : ∀ c fs cl d a, T.exc = some (c, fs, cl, d, a) → RX T ρ H c fs cl d
  cell : ∀ (i : Nat) (a : Addr) (c : Cell), ρ[i]? = some a → st[i]? = some c → RC T ρ H c (H a)
/-- what is still true later: cells have come, what is inline stays -/
structure Fut (T : Tx) (ρ : List Addr) (H : Hp) (ρ' : List Addr) (st' : Sto) (H' : Hp) : Prop where
  more : ∃ e, ρ' = ρ ++ e ∧ ∀ a ∈ e, H a = none
  sim : Sim T ρ' st' H'
  keep : ∀ a o, a ∉ ρ → H a = some o → H' a = some o

section
variable {T : Tx} {ρ ρ' ρ1 ρ2 : List Addr} {H H' H1 H2 : Hp} {st st' st1 st2 : Sto}
theorem RC.some {c : Cell} {o : Option HO} (h : RC T ρ H c o) : ∃ u, o = some u := by
  cases c with
  | lst xs => obtain ⟨ys, e, _⟩ := h; exact ⟨_, e⟩
  | ins c fs => obtain ⟨dx, vs, e, _⟩ := h; exact ⟨_, e⟩
  | dct kvs => obtain ⟨u, e, _⟩ := h; exact ⟨_, e⟩
theorem Sim.tracked (S : Sim T ρ st H) {a : Addr} (h : a ∈ ρ) : ∃ u, H a = some u := by
  obtain ⟨i, hi, e⟩ := List.mem_iff_getElem.mp h
  have e1 : ρ[i]? = some a := by rw [List.getElem?_eq_getElem hi, e]
  have hs : i < st.length := by rw [← S.len]; exact hi
  exact (S.cell i a st[i] e1 (List.getElem?_eq_getElem hs)).some
theorem Sim.at (S : Sim T ρ st H) {i : Nat} {c : Cell} (h : st[i]? = some c) : ∃ a, ρ[i]? = some a ∧ RC T ρ H c (H a) := by
  have hi : i < ρ.length := by rw [S.len]; exact (List.getElem?_eq_some_iff.mp h).1
  exact ⟨ρ[i], List.getElem?_eq_getElem hi, S.cell i _ c (List.getElem?_eq_getElem hi) h⟩
theorem Sim.inj (S : Sim T ρ st H) {i j : Nat} {a : Addr} (h : ρ[i]? = some a) (h' : ρ[j]? = some a) : i = j := by
  obtain ⟨hi, e⟩ := List.getElem?_eq_some_iff.mp h
  obtain ⟨hj, e'⟩ := List.getElem?_eq_some_iff.mp h'
  exact (List.getElem_inj S.nd).mp (e.trans e'.symm)
/-! ### later -/
/-- the part of Fut that values lean on -/
structure Lat (ρ : List Addr) (H : Hp) (ρ' : List Addr) (H' : Hp) : Prop where
  more : ∃ e, ρ' = ρ ++ e ∧ ∀ a ∈ e, H a = none
  keep : ∀ a o, a ∉ ρ → H a = some o → H' a = some o
theorem Fut.lat (F : Fut T ρ H ρ' st' H') : Lat ρ H ρ' H' := ⟨F.more, F.keep⟩
theorem Lat.refl : Lat ρ H ρ H := ⟨⟨[], by simp, by simp⟩, fun _ _ _ h => h⟩
theorem Lat.out (L : Lat ρ H ρ' H') {a : Addr} {o : HO} (n : a ∉ ρ) (h : H a = some o) : a ∉ ρ' ∧ H' a = some o := by
  obtain ⟨e, rfl, he⟩ := L.more
  refine ⟨fun m => ?_, L.keep a o n h⟩
  rcases List.mem_append.mp m with m | m
  · exact n m
  · rw [he a m] at h; cases h
theorem Lat.rd (L : Lat ρ H ρ' H') {a : Addr} {u : HO} (n : a ∉ ρ) (h : Rd H a u) : a ∉ ρ' ∧ Rd H' a u := by
  rcases h with h | ⟨o, h⟩
  · exact ⟨(L.out n h).1, .inl (L.out n h).2⟩
  · exact ⟨(L.out n h).1, .inr ⟨o, (L.out n h).2⟩⟩
theorem Lat.ix (L : Lat ρ H ρ' H') {i : Nat} {a : Addr} (h : ρ[i]? = some a) : ρ'[i]? = some a := by
  obtain ⟨e, rfl, _⟩ := L.more
  have hi := (List.getElem?_eq_some_iff.mp h).1
  rw [List.getElem?_append_left hi]; exact h
mutual
theorem RV.later (L : Lat ρ H ρ' H') : ∀ (m : MV) (v : V), RV T ρ H m v → RV T ρ' H' m v
  | .non, v, h => h
  | .bl _, v, h => h
  | .int _, v, h => h
  | .str _, v, h => h
  | .fn _, v, h => h
  | .exc, v, h => h
  | .tup xs, v, h => by
    obtain ⟨a, ys, e, z, r⟩ := h
    refine ⟨a, ys, e, ?_, RVs.later L xs ys r⟩
    rcases z with ⟨n, z⟩ | z
    · exact .inl (L.rd n z)
    · exact .inr z
  | .lst xs, v, h => by
    obtain ⟨a, ys, e, n, z, r⟩ := h
    exact ⟨a, ys, e, (L.out n z).1, (L.out n z).2, RVs.later L xs ys r⟩
  | .frz xs, v, h => by
    obtain ⟨a, ys, e, z, r⟩ := h
    refine ⟨a, ys, e, ?_, RVs.later L xs ys r⟩
    rcases z with ⟨n, z⟩ | z
    · exact .inl (L.rd n z)
    · exact .inr z
  | .ins c xs, v, h => by
    obtain ⟨a, dx, vs, e, n, hc, hl, z, r⟩ := h
    exact ⟨a, dx, vs, e, (L.out n z).1, hc, hl, (L.out n z).2, RVs.later L xs vs r⟩
  | .ref n, v, h => by
    obtain ⟨a, e, e2⟩ := h
    exact ⟨a, L.ix e, e2⟩
theorem RVs.later (L : Lat ρ H ρ' H') : ∀ (ms : List MV) (vs : List V), RVs T ρ H ms vs → RVs T ρ' H' ms vs
  | [], vs, h => h
  | x :: xs, vs, h => by
    obtain ⟨y, ys, e, h1, h2⟩ := h
    exact ⟨y, ys, e, RV.later L x y h1, RVs.later L xs ys h2⟩
end
theorem Lat.trans (a : Lat ρ H ρ1 H1) (b : Lat ρ1 H1 ρ2 H2) (S : ∀ x ∈ ρ, ∃ u, H1 x = some u) : Lat ρ H ρ2 H2 := by
  obtain ⟨e1, rfl, n1⟩ := a.more
  obtain ⟨e2, rfl, n2⟩ := b.more
  refine ⟨⟨e1 ++ e2, by rw [List.append_assoc], fun x hx => ?_⟩, fun x o n h => (b.out (a.out n h).1 (a.out n h).2).2⟩
  rcases List.mem_append.mp hx with hx | hx
  · exact n1 x hx
  · cases q : H x with
    | none => rfl
    | some o =>
      by_cases hr : x ∈ ρ
      · obtain ⟨u, hu⟩ := S x hr
        rw [n2 x hx] at hu; cases hu
      · have := (a.out hr q).2
        rw [n2 x hx] at this; cases this
theorem Fut.refl (S : Sim T ρ st H) : Fut T ρ H ρ st H := ⟨Lat.refl.more, S, Lat.refl.keep⟩
theorem Fut.sub (F : Fut T ρ H ρ' st' H') : ∀ x ∈ ρ, ∃ u, H' x = some u := fun x hx => by
  obtain ⟨e, rfl, _⟩ := F.more
  exact F.sim.tracked (List.mem_append_left _ hx)
theorem Fut.trans (a : Fut T ρ H ρ1 st1 H1) (b : Fut T ρ1 H1 ρ2 st2 H2) : Fut T ρ H ρ2 st2 H2 :=
  let L := a.lat.trans b.lat a.sub
  ⟨L.more, b.sim, L.keep⟩
theorem RVs.length : ∀ {ms : List MV} {vs : List V}, RVs T ρ H ms vs → ms.length = vs.length
  | [], vs, h => by subst h; rfl
  | x :: xs, vs, h => by
    obtain ⟨y, ys, rfl, _, h2⟩ := h
    rw [List.length_cons, List.length_cons, RVs.length h2]
theorem RVs.get : ∀ {ms : List MV} {vs : List V} {i : Nat} {m : MV}, RVs T ρ H ms vs → ms[i]? = some m → ∃ v, vs[i]? = some v ∧ RV T ρ H m v
  | [], vs, i, m, _, e => by simp at e
  | x :: xs, vs, 0, m, h, e => by
    obtain ⟨y, ys, rfl, h1, _⟩ := h
    simp at e; subst e
    exact ⟨y, rfl, h1⟩
  | x :: xs, vs, i + 1, m, h, e => by
    obtain ⟨y, ys, rfl, _, h2⟩ := h
    obtain ⟨v, q, r⟩ := RVs.get (i := i) h2 (by simpa using e)
    exact ⟨v, by simpa using q, r⟩
theorem RVs.getV : ∀ {ms : List MV} {vs : List V} {i : Nat} {v : V}, RVs T ρ H ms vs → vs[i]? = some v → ∃ m, ms[i]? = some m ∧ RV T ρ H m v := fun {ms vs i v} h e => by
  have hi : i < ms.length := by rw [h.length]; exact (List.getElem?_eq_some_iff.mp e).1
  obtain ⟨v', e', r⟩ := h.get (List.getElem?_eq_getElem hi)
  rw [e] at e'; cases e'
  exact ⟨_, List.getElem?_eq_getElem hi, r⟩
theorem RVs.append : ∀ {ms ns : List MV} {vs us : List V}, RVs T ρ H ms vs → RVs T ρ H ns us → RVs T ρ H (ms ++ ns) (vs ++ us)
  | [], ns, vs, us, h, h' => by cases h; exact h'
  | x :: xs, ns, vs, us, h, h' => by
    obtain ⟨y, ys, rfl, h1, h2⟩ := h
    exact ⟨y, ys ++ us, rfl, h1, RVs.append h2 h'⟩
theorem RVs.one {m : MV} {v : V} (h : RV T ρ H m v) : RVs T ρ H [m] [v] := ⟨v, [], rfl, h, rfl⟩
theorem RVs.set {m : MV} {v : V} (r : RV T ρ H m v) : ∀ {ms : List MV} {vs : List V} (i : Nat), RVs T ρ H ms vs → RVs T ρ H (ms.set i m) (vs.set i v)
  | [], vs, i, h => by cases h; exact rfl
  | x :: xs, vs, 0, h => by
    obtain ⟨y, ys, rfl, _, h2⟩ := h
    exact ⟨v, ys, rfl, r, h2⟩
  | x :: xs, vs, i + 1, h => by
    obtain ⟨y, ys, rfl, h1, h2⟩ := h
    exact ⟨y, ys.set i v, rfl, h1, RVs.set r i h2⟩
theorem RVs.drop : ∀ {ms : List MV} {vs : List V} (i : Nat), RVs T ρ H ms vs → RVs T ρ H (ms.drop i) (vs.drop i)
  | ms, vs, 0, h => h
  | [], vs, i + 1, h => by cases h; exact rfl
  | x :: xs, vs, i + 1, h => by
    obtain ⟨y, ys, rfl, h1, h2⟩ := h
    exact RVs.drop i h2
theorem RVs.take : ∀ {ms : List MV} {vs : List V} (i : Nat), RVs T ρ H ms vs → RVs T ρ H (ms.take i) (vs.take i)
  | ms, vs, 0, h => rfl
  | [], vs, i + 1, h => by cases h; exact rfl
  | x :: xs, vs, i + 1, h => by
    obtain ⟨y, ys, rfl, h1, h2⟩ := h
    exact ⟨y, ys.take i, rfl, h1, RVs.take i h2⟩
theorem RVs.erase : ∀ {ms : List MV} {vs : List V} (i : Nat), RVs T ρ H ms vs → RVs T ρ H (ms.eraseIdx i) (vs.eraseIdx i)
  | [], vs, i, h => by cases h; exact rfl
  | x :: xs, vs, 0, h => by
    obtain ⟨y, ys, rfl, h1, h2⟩ := h
    exact h2
  | x :: xs, vs, i + 1, h => by
    obtain ⟨y, ys, rfl, h1, h2⟩ := h
    exact ⟨y, ys.eraseIdx i, rfl, h1, RVs.erase i h2⟩
theorem RC.later (L : Lat ρ H ρ' H') : ∀ {c : Cell} {o : Option HO}, RC T ρ H c o → RC T ρ' H' c o
  | .lst xs, o, h => by obtain ⟨ys, e, r⟩ := h; exact ⟨ys, e, RVs.later L _ _ r⟩
  | .ins c fs, o, h => by obtain ⟨dx, vs, e, hc, hf, hz, r⟩ := h; exact ⟨dx, vs, e, hc, hf, hz, RVs.later L _ _ r⟩
  | .dct kvs, o, h => by
    obtain ⟨u, e, r⟩ := h
    refine ⟨u, e, ?_⟩
    rcases r with ⟨ys, e2, k, r⟩ | ⟨ys, e2, k, r⟩
    · exact .inl ⟨ys, e2, k, RVs.later L _ _ r⟩
    · exact .inr ⟨ys, e2, k, RVs.later L _ _ r⟩
theorem RX.later (L : Lat ρ H ρ' H') {c : Nat} {fs : List (Nat × MV)} {cl : Value} {d : Option Addr} (h : RX T ρ H c fs cl d) : RX T ρ' H' c fs cl d := by
  obtain ⟨h1, h2, h3, h4⟩ := h
  refine ⟨h1, h2, h3, ?_⟩
  rcases h4 with h4 | ⟨dd, vs, e, ne, n, z, r⟩
  · exact .inl h4
  · exact .inr ⟨dd, vs, e, ne, (L.out n z).1, (L.out n z).2, RVs.later L _ _ r⟩
/-! ### what may happen to the store -/
/-- a new object that is no cell -/
theorem Sim.fresh (S : Sim T ρ st H) {p : Addr} {o : HO} (hp : H p = none) : Fut T ρ H ρ st (upd H p o) := by
  have np : p ∉ ρ := fun h => by obtain ⟨u, e⟩ := S.tracked h; rw [hp] at e; cases e
  have L : Lat ρ H ρ (upd H p o) := ⟨Lat.refl.more, fun a u _ h => by rw [upd_ne (ne_of_none h hp)]; exact h⟩
  refine ⟨L.more, ⟨S.len, S.nd, fun c fs cl d a h => (S.exc c fs cl d a h).later L, fun i a c e1 e2 => ?_⟩, L.keep⟩
  have r := S.cell i a c e1 e2
  obtain ⟨u, hu⟩ := r.some
  rw [upd_ne (ne_of_none hu hp)]
  exact r.later L
theorem Sim.free (S : Sim T ρ st H) {p : Addr} (hp : H p = none) : p ∉ ρ := fun h => by obtain ⟨u, e⟩ := S.tracked h; rw [hp] at e; cases e
/-- a new cell -/
theorem Sim.push (S : Sim T ρ st H) {p : Addr} {o : HO} {c : Cell} (hp : H p = none) (r : ∀ ρ' H', Lat ρ H ρ' H' → RC T ρ' H' c (some o)) : Fut T ρ H (ρ ++ [p]) (st ++ [c]) (upd H p o) := by
  have np := S.free hp
  have L : Lat ρ H (ρ ++ [p]) (upd H p o) := ⟨⟨[p], rfl, fun a h => by rw [List.mem_singleton.mp h]; exact hp⟩, fun a u _ h => by rw [upd_ne (ne_of_none h hp)]; exact h⟩
  refine ⟨L.more, ⟨by simp [S.len], ?_, fun c fs cl d a h => (S.exc c fs cl d a h).later L, fun i a d e1 e2 => ?_⟩, L.keep⟩
  · rw [List.nodup_append]
    refine ⟨S.nd, by simp, fun a ha b hb => ?_⟩
    rw [List.mem_singleton.mp hb]
    exact fun e => np (e ▸ ha)
  · by_cases hi : i < st.length
    · rw [List.getElem?_append_left (by rw [S.len]; exact hi)] at e1
      rw [List.getElem?_append_left hi] at e2
      have q := S.cell i a d e1 e2
      obtain ⟨u, hu⟩ := q.some
      rw [upd_ne (ne_of_none hu hp)]
      exact q.later L
    · have hl := (List.getElem?_eq_some_iff.mp e2).1
      rw [List.length_append, List.length_singleton] at hl
      have ei : i = st.length := by omega
      subst ei
      rw [List.getElem?_append_right (Nat.le_refl _), Nat.sub_self] at e2
      rw [← S.len, List.getElem?_append_right (Nat.le_refl _), Nat.sub_self] at e1
      simp at e1 e2
      subst e1 e2
      rw [upd_same]
      exact r _ _ L
/-- a cell changed -/
theorem Sim.set (S : Sim T ρ st H) {i : Nat} {a : Addr} {o : HO} {c : Cell} (h : ρ[i]? = some a) (r : ∀ ρ' H', Lat ρ H ρ' H' → RC T ρ' H' c (some o)) : Fut T ρ H ρ (st.set i c) (upd H a o) := by
  have ma : a ∈ ρ := List.mem_of_getElem? h
  have L : Lat ρ H ρ (upd H a o) := ⟨Lat.refl.more, fun b u n e => by rw [upd_ne (fun z => n (by rw [z]; exact ma))]; exact e⟩
  refine ⟨L.more, ⟨by rw [List.length_set]; exact S.len, S.nd, fun c fs cl d a h => (S.exc c fs cl d a h).later L, fun j b d e1 e2 => ?_⟩, L.keep⟩
  by_cases hj : j = i
  · subst hj
    rw [h] at e1; cases e1
    have hl := (List.getElem?_eq_some_iff.mp e2).1
    rw [List.length_set] at hl
    rw [List.getElem?_set_self hl] at e2
    cases e2
    rw [upd_same]
    exact r _ _ L
  · rw [List.getElem?_set_ne (Ne.symm hj)] at e2
    have hb : b ≠ a := fun z => hj (S.inj e1 (z ▸ h))
    rw [upd_ne hb]
    exact (S.cell j b d e1 e2).later L
end
section
variable {T : Tx} {ρ ρ' : List Addr} {H H' : Hp}
theorem RV'.later {m : MV} {v : V} (h : RV' T.toCo ρ H m v) (L : Lat ρ H ρ' H') : RV T ρ' H' m v := RV.later (T := T) L m v h
theorem RVs'.later {ms : List MV} {vs : List V} (h : RVs' T.toCo ρ H ms vs) (L : Lat ρ H ρ' H') : RVs T ρ' H' ms vs := RVs.later (T := T) L ms vs h
theorem RVs'.length {ms : List MV} {vs : List V} (h : RVs' T.toCo ρ H ms vs) : ms.length = vs.length := RVs.length (T := T) h
theorem RVs'.get {ms : List MV} {vs : List V} {i : Nat} {m : MV} (h : RVs' T.toCo ρ H ms vs) (e : ms[i]? = some m) : ∃ v, vs[i]? = some v ∧ RV T ρ H m v := RVs.get (T := T) h e
theorem RVs'.append {ms ns : List MV} {vs us : List V} (h : RVs' T.toCo ρ H ms vs) (h' : RVs' T.toCo ρ H ns us) : RVs T ρ H (ms ++ ns) (vs ++ us) := RVs.append (T := T) h h'
theorem RVs'.set {ms : List MV} {vs : List V} {m : MV} {v : V} (h : RVs' T.toCo ρ H ms vs) (r : RV' T.toCo ρ H m v) (i : Nat) : RVs T ρ H (ms.set i m) (vs.set i v) := RVs.set (T := T) r i h
theorem RVs'.isEmpty {xs : List MV} {ys : List V} (r : RVs' T.toCo ρ H xs ys) : xs.isEmpty = ys.isEmpty := by
  have := RVs.length (T := T) r
  cases xs <;> cases ys <;> first | rfl | (simp at this)
end
end Z

namespace Z
open PySem L2

/-! ### the plain reading's own monad -/
inductive R (α : Type) where
  | ok (a : α) (s : Sto) | ex (c : Nat) (fs : List (Nat × MV)) (s : Sto) | bad
abbrev M (α : Type) := Sto → R α
def M.ret {α : Type} (a : α) : M α := fun s => .ok a s
def M.bnd {α β : Type} (m : M α) (f : α → M β) : M β := fun s => match m s with
  | .ok a t => f a t
  | .ex c fs t => .ex c fs t
  | .bad => .bad
def M.opt {α : Type} (o : Option α) : M α := fun s => match o with
  | some a => .ok a s
  | none => .bad
abbrev Ev := List (Option MV)
def REnv (T : Tx) (ρ : List Addr) (H : Hp) : Ev → St → Prop
  | [], σ => σ = []
  | none :: e, σ => ∃ o σ', σ = o :: σ' ∧ REnv T ρ H e σ'
  | some m :: e, σ => ∃ v σ', σ = some v :: σ' ∧ (RV T ρ H m v ∨ (m = .exc ∧ ∃ c fs cl d a, T.exc = some (c, fs, cl, d, a) ∧ v = .ref a)) ∧ REnv T ρ H e σ'
def Out {α β : Type} (T : Tx) (W : WX) (rel : List Addr → Hp → α → β → Prop) (ρ : List Addr) (H : Hp) (σ : St) (r : R α) (Q : β → Hp → Prop) : Prop :=
  match r with
  | .ok a s' => ∀ ρ' H' b, Fut T ρ H ρ' s' H' → rel ρ' H' a b → Q b H'
  | .ex c fs s' => ∀ ρ' H' cl d, Fut T ρ H ρ' s' H' → RX T ρ' H' c fs cl d → W cl d σ H'
  | .bad => False
def tG {α β : Type} (T : Tx) (W : WX) (rel : List Addr → Hp → α → β → Prop) (m : Ev → M α) : St → Hp → (β → Hp → Prop) → Prop := fun σ H Q =>
  ∃ ρ st env, Sim T ρ st H ∧ REnv T ρ H env σ ∧ Out T W rel ρ H σ (m env st) Q
abbrev tE (T : Tx) (W : WX) (m : Ev → M MV) : TE := tG T W (RV T) m
abbrev relB : List Addr → Hp → Bool → Bool → Prop := fun _ _ a b => a = b
abbrev tT (T : Tx) (W : WX) (m : Ev → M Bool) : TT := tG T W relB m
abbrev tA (T : Tx) (W : WX) (m : Ev → M (List MV)) : TA := tG T W (RVs T) m

section
variable {T : Tx} {W : WX} {ρ ρ' ρ1 : List Addr} {H H' H1 : Hp} {σ : St} {st s1 : Sto} {α β γ δ : Type}
theorem REnv.later (L : Lat ρ H ρ' H') : ∀ {e : Ev} {σ : St}, REnv T ρ H e σ → REnv T ρ' H' e σ
  | [], _, h => h
  | none :: e, _, h => by obtain ⟨o, σ', q, r⟩ := h; exact ⟨o, σ', q, REnv.later L r⟩
  | some m :: e, _, h => by obtain ⟨v, σ', q, r1, r⟩ := h; exact ⟨v, σ', q, r1.imp (fun z => z.later L) id, REnv.later L r⟩
theorem REnv.get : ∀ {e : Ev} {σ : St} {i : Nat} {m : MV}, REnv T ρ H e σ → e[i]? = some (some m) → ∃ v, σ[i]? = some (some v) ∧ (RV T ρ H m v ∨ (m = .exc ∧ ∃ c fs cl d a, T.exc = some (c, fs, cl, d, a) ∧ v = .ref a))
  | [], _, _, _, _, q => by simp at q
  | none :: e, _, 0, m, _, q => by simp at q
  | none :: e, _, i + 1, m, h, q => by
    obtain ⟨o, σ', rfl, r⟩ := h
    obtain ⟨v, q1, q2⟩ := REnv.get (i := i) r (by simpa using q)
    exact ⟨v, by simpa using q1, q2⟩
  | some m' :: e, _, 0, m, h, q => by
    obtain ⟨v, σ', rfl, r1, r⟩ := h
    simp at q; subst q
    exact ⟨v, rfl, r1⟩
  | some m' :: e, _, i + 1, m, h, q => by
    obtain ⟨v, σ', rfl, r1, r⟩ := h
    obtain ⟨v, q1, q2⟩ := REnv.get (i := i) r (by simpa using q)
    exact ⟨v, by simpa using q1, q2⟩
theorem REnv.set {m : MV} {v : V} (r : RV T ρ H m v) : ∀ {e : Ev} {σ : St} (i : Nat), REnv T ρ H e σ → REnv T ρ H (e.set i (some m)) (σ.set i (some v))
  | [], _, i, h => by cases h; exact rfl
  | none :: e, _, 0, h => by obtain ⟨o, σ', rfl, q⟩ := h; exact ⟨v, σ', rfl, .inl r, q⟩
  | none :: e, _, i + 1, h => by obtain ⟨o, σ', rfl, q⟩ := h; exact ⟨o, σ'.set i (some v), rfl, REnv.set r i q⟩
  | some m' :: e, _, 0, h => by obtain ⟨o, σ', rfl, _, q⟩ := h; exact ⟨v, σ', rfl, .inl r, q⟩
  | some m' :: e, _, i + 1, h => by obtain ⟨o, σ', rfl, r1, q⟩ := h; exact ⟨o, σ'.set i (some v), rfl, r1, REnv.set r i q⟩
theorem REnv.unset : ∀ {e : Ev} {σ : St} (i : Nat), REnv T ρ H e σ → REnv T ρ H (e.set i none) (σ.set i none)
  | [], _, i, h => by cases h; exact rfl
  | none :: e, _, 0, h => by obtain ⟨o, σ', rfl, q⟩ := h; exact ⟨none, σ', rfl, q⟩
  | none :: e, _, i + 1, h => by obtain ⟨o, σ', rfl, q⟩ := h; exact ⟨o, σ'.set i none, rfl, REnv.unset i q⟩
  | some m' :: e, _, 0, h => by obtain ⟨o, σ', rfl, _, q⟩ := h; exact ⟨none, σ', rfl, q⟩
  | some m' :: e, _, i + 1, h => by obtain ⟨o, σ', rfl, r1, q⟩ := h; exact ⟨o, σ'.set i none, rfl, r1, REnv.unset i q⟩
theorem REnv.start : ∀ {ms : List MV} {vs : List V}, RVs T ρ H ms vs → ∀ n : Nat, REnv T ρ H (ms.map some ++ List.replicate n none) (vs.map some ++ List.replicate n none)
  | [], vs, h, 0 => by cases h; exact rfl
  | [], vs, h, n + 1 => by cases h; exact ⟨none, _, rfl, REnv.start (ms := []) (vs := []) rfl n⟩
  | m :: ms, vs, h, n => by obtain ⟨y, ys, rfl, h1, h2⟩ := h; exact ⟨y, _, rfl, .inl h1, REnv.start h2 n⟩
theorem REnv.len : ∀ {e : Ev} {σ : St}, REnv T ρ H e σ → e.length = σ.length
  | [], _, h => by cases h; rfl
  | none :: e, _, h => by obtain ⟨o, σ', rfl, r⟩ := h; simp [REnv.len r]
  | some m :: e, _, h => by obtain ⟨o, σ', rfl, _, r⟩ := h; simp [REnv.len r]

theorem Out.imp {rel : List Addr → Hp → α → β → Prop} {r : R α} {Q Q' : β → Hp → Prop} (h : Out T W rel ρ H σ r Q) (q : ∀ b H', Q b H' → Q' b H') : Out T W rel ρ H σ r Q' := by
  cases r with
  | ok a s => exact fun ρ' H' b F r => q _ _ (h ρ' H' b F r)
  | ex c fs s => exact h
  | bad => exact h
theorem Out.fut {rel : List Addr → Hp → α → β → Prop} {r : R α} {Q : β → Hp → Prop} (F : Fut T ρ H ρ1 s1 H1) (h : Out T W rel ρ H σ r Q) : Out T W rel ρ1 H1 σ r Q := by
  cases r with
  | ok a s => exact fun ρ' H' b F' r => h ρ' H' b (F.trans F') r
  | ex c fs s => exact fun ρ' H' cl d F' r => h ρ' H' cl d (F.trans F') r
  | bad => exact h
theorem Out.bnd {rel : List Addr → Hp → α → β → Prop} {rel' : List Addr → Hp → γ → δ → Prop} {m : M α} {f : α → M γ} {Q : δ → Hp → Prop} (h : Out T W rel' ρ H σ (M.bnd m f st) Q) :
    Out T W rel ρ H σ (m st) (fun b H1 => ∃ ρ1 s1 a, Fut T ρ H ρ1 s1 H1 ∧ rel ρ1 H1 a b ∧ Out T W rel' ρ1 H1 σ (f a s1) Q) := by
  unfold M.bnd at h
  cases e : m st with
  | ok a t =>
    rw [e] at h
    exact fun ρ1 H1 b F r => ⟨ρ1, t, a, F, r, h.fut F⟩
  | ex c fs t =>
    rw [e] at h
    exact h
  | bad =>
    rw [e] at h
    exact h
theorem Out.now {rel : List Addr → Hp → α → β → Prop} {a : α} {b : β} {Q : β → Hp → Prop} (S : Sim T ρ st H) (h : Out T W rel ρ H σ (M.ret a st) Q) (r : rel ρ H a b) : Q b H := h ρ H b (Fut.refl S) r
/-- the state of a further step -/
theorem tG.step {rel : List Addr → Hp → α → β → Prop} {rel' : List Addr → Hp → γ → δ → Prop} {m : Ev → M α} {f : Ev → α → M γ} {Q : δ → Hp → Prop} (h : tG T W rel' (fun env => M.bnd (m env) (f env)) σ H Q) :
    tG T W rel m σ H (fun b H1 => ∃ ρ1 s1 env a, Sim T ρ1 s1 H1 ∧ REnv T ρ1 H1 env σ ∧ rel ρ1 H1 a b ∧ Out T W rel' ρ1 H1 σ (f env a s1) Q) := by
  obtain ⟨ρ, st, env, S, E, h⟩ := h
  exact ⟨ρ, st, env, S, E, h.bnd.imp fun b H1 ⟨ρ1, s1, a, F, r, q⟩ => ⟨ρ1, s1, env, a, F.sim, E.later F.lat, r, q⟩⟩
end

section
variable {X : Cx} {e : Expr} {st : Stmt} {sts : List Stmt}
theorem pe_mono {t t' : TE} (h : PE X e t) (q : ∀ σ H Q, t' σ H Q → t σ H Q) : PE X e t' := ⟨fun pins s σ H Q I z => h.run pins s σ H Q I (q σ H Q z)⟩
theorem pt_mono {t t' : TT} (h : PT X e t) (q : ∀ σ H Q, t' σ H Q → t σ H Q) : PT X e t' := ⟨fun pins s σ H Q I z => h.run pins s σ H Q I (q σ H Q z)⟩
theorem pw_mono {t t' : TT} (h : PW X e t) (q : ∀ σ H Q, t' σ H Q → t σ H Q) : PW X e t' := ⟨fun w pins s σ H Q I z => h.run w pins s σ H Q I (q σ H Q z)⟩
theorem pa_mono {es : List Expr} {t t' : TA} (h : PA X es t) (q : ∀ σ H Q, t' σ H Q → t σ H Q) : PA X es t' := ⟨fun pos pins s σ H Q I z => h.run pos pins s σ H Q I (q σ H Q z)⟩
theorem ps_mono {t t' : TS} (h : PS X st t) (q : ∀ D σ H, t' D σ H → t D σ H) : PS X st t' := ⟨fun pins s σ H D I z => h.run pins s σ H D I (q D σ H z)⟩
theorem pss_mono {t t' : TS} (h : PSs X sts t) (q : ∀ D σ H, t' D σ H → t D σ H) : PSs X sts t' := ⟨fun pins s σ H D I z => h.run pins s σ H D I (q D σ H z)⟩
end

/-! ### names, constants -/
def mVar (i : Nat) : Ev → M MV := fun env s => match env.getD i none with
  | some .exc => .bad
  | some v => .ok v s
  | none => .bad
def mC (v : MV) : Ev → M MV := fun _ => M.ret v
section
variable {X : Cx} {T : Tx} {W : WX} {ma mb mc : Ev → M MV} {a b c : Expr} {pos : Pos}
theorem v_var (i : Nat) {x : Str} (hN : X.N[i]? = some x := by rfl) (hv : Vis X.env.scope x := by first | exact Or.inl rfl | exact Or.inr (Or.inl rfl) | exact Or.inr (Or.inr rfl)) (hd : (x == ("__debug__" : Str)) = false := by decide)
    (hcd : (x == ("__classdict__" : Str)) = false := by decide) : PE X (.Name x pos) (tE T W (mVar i)) := by
  refine pe_mono (pv i hN hv hd hcd) fun σ H Q h => ?_
  obtain ⟨ρ, st, env, S, E, h⟩ := h
  unfold mVar at h
  cases e : env.getD i none with
  | none => simp only [e] at h; exact h.elim
  | some m =>
    simp only [e] at h
    have e' : env[i]? = some (some m) := by
      rw [List.getD_eq_getElem?_getD] at e
      cases q : env[i]? with
      | none => rw [q] at e; cases e
      | some o => rw [q] at e; simp at e; rw [e]
    obtain ⟨v, q, r⟩ := E.get e'
    rcases r with r | ⟨rfl, _⟩
    · cases m with
      | exc => exact r.elim
      | _ => exact ⟨v, q, h ρ H v (Fut.refl S) r⟩
    · exact h.elim
theorem v_c {v : MV} {w : V} (h : PE X a (tC w)) (r : ∀ ρ H, RV T ρ H v w) : PE X a (tE T W (mC v)) := by
  refine pe_mono h fun σ H Q h => ?_
  obtain ⟨ρ, st, env, S, E, h⟩ := h
  exact h ρ H w (Fut.refl S) (r _ _)
theorem v_int {i : Int} {j : Nat} : PE X (.Constant (.int i) j pos) (tE T W (mC (.int i))) := v_c pe_int fun _ _ => rfl
theorem v_bl {i : Bool} {j : Nat} : PE X (.Constant (.bool i) j pos) (tE T W (mC (.bl i))) := v_c pe_bl fun _ _ => rfl
theorem v_non {j : Nat} : PE X (.Constant .none j pos) (tE T W (mC .non)) := v_c pe_non fun _ _ => rfl
theorem v_str {i : Str} {j : Nat} : PE X (.Constant (.str i) j pos) (tE T W (mC (.str i))) := v_c pe_str fun _ _ => rfl

/-! ### operators on values: f reads the store, makes inline data -/
def mBin (f : Sto → MV → MV → Option MV) (ma mb : Ev → M MV) : Ev → M MV := fun env => M.bnd (ma env) fun x => M.bnd (mb env) fun y s => M.opt (f s x y) s
def mUn (f : Sto → MV → Option MV) (ma : Ev → M MV) : Ev → M MV := fun env => M.bnd (ma env) fun x s => M.opt (f s x) s
/-- what an operator on values is asked -/
def rB (T : Tx) (f : Sto → MV → MV → Option MV) : R2 := fun x y H Q => ∃ ρ st a b v, Sim T ρ st H ∧ RV T ρ H a x ∧ RV T ρ H b y ∧ f st a b = some v ∧ ∀ H' u, Fut T ρ H ρ st H' → RV T ρ H' v u → Q u H'
def rU1 (T : Tx) (f : Sto → MV → Option MV) : V → Hp → VK → Prop := fun x H Q => ∃ ρ st a v, Sim T ρ st H ∧ RV T ρ H a x ∧ f st a = some v ∧ ∀ H' u, Fut T ρ H ρ st H' → RV T ρ H' v u → Q u H'
theorem opt_out {α β : Type} {rel : List Addr → Hp → α → β → Prop} {ρ : List Addr} {H : Hp} {σ : St} {o : Option α} {st : Sto} {Q : β → Hp → Prop} (h : Out T W rel ρ H σ (M.opt o st) Q) : ∃ a, o = some a ∧ ∀ ρ' H' b, Fut T ρ H ρ' st H' → rel ρ' H' a b → Q b H' := by
  unfold M.opt at h
  cases o with
  | none => exact h.elim
  | some a => exact ⟨a, rfl, h⟩
theorem bin_red {f : Sto → MV → MV → Option MV} {σ : St} {H : Hp} {Q : VK} (h : tE T W (mBin f ma mb) σ H Q) : tOp (rB T f) (tE T W ma) (tE T W mb) σ H Q := by
  obtain ⟨ρ, st, env, S, E, h⟩ := h
  refine ⟨ρ, st, env, S, E, h.bnd.imp fun x H1 ⟨ρ1, s1, a, F1, r1, q1⟩ => ?_⟩
  refine ⟨ρ1, s1, env, F1.sim, E.later F1.lat, (Out.bnd q1).imp fun y H2 ⟨ρ2, s2, b, F2, r2, q2⟩ => ?_⟩
  obtain ⟨v, e, q3⟩ := opt_out q2
  exact ⟨ρ2, s2, a, b, v, F2.sim, r1.later F2.lat, r2, e, fun H' u F r => q3 ρ2 H' u F r⟩
theorem v_bin {op : Operator} {f : Sto → MV → MV → Option MV} (ho : OpR X (binaryOp op) (rB T f)) (ha : PE X a (tE T W ma)) (hb : PE X b (tE T W mb)) : PE X (.BinOp a op b pos) (tE T W (mBin f ma mb)) :=
  pe_mono (pe_op ho ha hb) fun σ H Q h => bin_red h
theorem v_un {op : UnaryOp} {f : Sto → MV → Option MV} (ho : UnR X (unaryOp op) (rU1 T f)) (ha : PE X a (tE T W ma)) : PE X (.UnaryOp op a pos) (tE T W (mUn f ma)) := by
  refine pe_mono (pe_un ho ha) fun σ H Q h => ?_
  obtain ⟨ρ, st, env, S, E, h⟩ := h
  refine ⟨ρ, st, env, S, E, h.bnd.imp fun x H1 ⟨ρ1, s1, a, F1, r1, q1⟩ => ?_⟩
  obtain ⟨v, e, q3⟩ := opt_out q1
  exact ⟨ρ1, s1, a, v, F1.sim, r1, e, fun H' u F r => q3 ρ1 H' u F r⟩
end

/-- the items of a list that stands inline or in a cell -/
def listOf (s : Sto) : MV → Option (List MV)
  | .lst xs => some xs
  | .ref n => match s[n]? with
    | some (.lst xs) => some xs
    | _ => none
  | _ => none
/-- .. of a list, a locked list, a tuple -/
def seqOf (s : Sto) : MV → Option (List MV)
  | .tup xs => some xs
  | .frz xs => some xs
  | .lst xs => some xs
  | .ref n => match s[n]? with
    | some (.lst xs) => some xs
    | _ => none
  | _ => none
section
variable {T : Tx} {ρ : List Addr} {H : Hp} {st : Sto} {m : MV} {v : V} {xs : List MV}
theorem list_of (S : Sim T ρ st H) (r : RV T ρ H m v) (h : listOf st m = some xs) : ∃ a ys, v = .ref a ∧ H a = some (.lst ys) ∧ RVs T ρ H xs ys := by
  cases m with
  | lst zs =>
    cases h
    obtain ⟨a, ys, e, _, e2, r⟩ := r
    exact ⟨a, ys, e, e2, r⟩
  | ref n =>
    obtain ⟨a, e, rfl⟩ := r
    unfold listOf at h
    cases q : st[n]? with
    | none => simp only [q] at h; cases h
    | some c =>
      cases c with
      | lst zs =>
        simp only [q] at h; cases h
        obtain ⟨ys, e2, r⟩ := S.cell n a _ e q
        exact ⟨a, ys, rfl, e2, r⟩
      | ins c fs => simp only [q] at h; cases h
      | dct kvs => simp only [q] at h; cases h
  | _ => cases h
theorem seq_of (S : Sim T ρ st H) (r : RV T ρ H m v) (h : seqOf st m = some xs) : ∃ a ys, v = .ref a ∧ (SqL T.K H a ys ∨ SqT T.K H a ys) ∧ RVs T ρ H xs ys := by
  cases m with
  | tup zs =>
    cases h
    obtain ⟨a, ys, e, z, r⟩ := r
    exact ⟨a, ys, e, .inr z.sq, r⟩
  | frz zs =>
    cases h
    obtain ⟨a, ys, e, z, r⟩ := r
    exact ⟨a, ys, e, .inl z.sq, r⟩
  | lst zs =>
    obtain ⟨a, ys, e, z, q⟩ := list_of S r h
    exact ⟨a, ys, e, .inl (SqL.of z), q⟩
  | ref n =>
    obtain ⟨a, ys, e, z, q⟩ := list_of S r h
    exact ⟨a, ys, e, .inl (SqL.of z), q⟩
  | _ => cases h
end

end Z

namespace Z
open PySem L2

/-! ### arithmetic -/
def line : Nat := 100000
theorem line_le {n : Nat} (h : n ≤ line) : n ≤ sizeLine := Nat.le_trans h (by decide)
theorem line_lt {n : Nat} (h : n < line) : n < sizeLine := Nat.lt_of_lt_of_le h (by decide)
def catOf (s : Sto) (x y : MV) : Option MV := match listOf s x, listOf s y with
  | some xs, some ys => if xs.length + ys.length ≤ line then some (.lst (xs ++ ys)) else none
  | _, _ => none
def bAdd (s : Sto) : MV → MV → Option MV
  | .int i, .int j => some (.int (i + j))
  | .str a, .str b => if a.length + b.length ≤ line then some (.str (a ++ b)) else none
  | .tup xs, .tup ys => if line < xs.length + ys.length then none else some (.tup (xs ++ ys))
  | .lst xs, y => catOf s (.lst xs) y
  | .ref n, y => catOf s (.ref n) y
  | _, _ => none
def bSub (_ : Sto) : MV → MV → Option MV
  | .int i, .int j => some (.int (i - j))
  | _, _ => none
def CMulV (i j : Int) : Prop := i.natAbs.log2 + j.natAbs.log2 < 100000000
theorem CMulV.ok {i j : Int} (h : CMulV i j) : IntMulOk i j := by
  have b : ∀ x : Int, Builtin.Int.intBits x ≤ x.natAbs.log2 + 1 := fun x => by
    unfold Builtin.Int.intBits
    split <;> omega
  have h1 := b i
  have h2 := b j
  have h3 : i.natAbs.log2 + j.natAbs.log2 < 100000000 := h
  have e : bitsLine = 134217728 := by decide
  unfold IntMulOk
  intro z
  rw [Bool.and_eq_true] at z
  have z2 := z.2
  unfold Builtin.Int.intTooBig at z2
  have z3 := of_decide_eq_true z2
  rw [e] at z3
  omega
open PySem.Spec PyProof.Rows in
theorem op_mulV {X : Cx} : OpR X (binaryOp .Mult) (rI CMulV fun i j => .int (i * j)) := opI fun _ _ _ _ _ _ _ hc q => mul_int q hc.ok
def mulOk (i j : Int) : Bool := decide (i.natAbs.log2 + j.natAbs.log2 < 100000000)
def repOf (s : Sto) (x : MV) (k : Int) : Option MV := match listOf s x with
  | some xs => if 0 ≤ k ∧ k < 2 ^ 62 ∧ xs.length * k.toNat ≤ line then some (.lst (List.replicate k.toNat xs).flatten) else none
  | none => none
def bMul (s : Sto) : MV → MV → Option MV
  | .int i, .int j => if mulOk i j then some (.int (i * j)) else none
  | .lst xs, .int k => repOf s (.lst xs) k
  | .ref n, .int k => repOf s (.ref n) k
  | _, _ => none
def divOk (j : Int) : Bool := decide (0 < j ∧ j.natAbs.log2 < 9000)
def bDiv (_ : Sto) : MV → MV → Option MV
  | .int i, .int j => if divOk j then some (.int (i / j)) else if j < 0 ∧ -1073741824 < j then some (.int (i.fdiv j)) else none
  | _, _ => none
def bMod (_ : Sto) : MV → MV → Option MV
  | .int i, .int j => if 0 < j then some (.int (i % j)) else if j < 0 then some (.int (i.fmod j)) else none
  | _, _ => none
def bPow (_ : Sto) : MV → MV → Option MV
  | .int i, .int j => if 0 ≤ j ∧ j ≤ 100000 ∧ i.natAbs < 2 ^ 64 then some (.int (i ^ j.toNat)) else none
  | _, _ => none
def uNeg (_ : Sto) : MV → Option MV
  | .int i => some (.int (-i))
  | _ => none
section
variable {X : Cx} {T : Tx}
theorem rB_now {f : Sto → MV → MV → Option MV} {x y : V} {H : Hp} {Q : VK} {ρ : List Addr} {st : Sto} {v : MV} {u : V} (S : Sim T ρ st H) (q : ∀ H' u, Fut T ρ H ρ st H' → RV T ρ H' v u → Q u H') (r : RV T ρ H v u) : Q u H := q H u (Fut.refl S) r
theorem q_new {ρ : List Addr} {st : Sto} {H : Hp} {v : MV} {Q : VK} {o : HO} (S : Sim T ρ st H) (q : ∀ H' u, Fut T ρ H ρ st H' → RV T ρ H' v u → Q u H') (r : ∀ p H', p ∉ ρ → H' p = some o → Lat ρ H ρ H' → RV T ρ H' v (.ref p)) : ∀ p, H p = none → Q (.ref p) (upd H p o) := fun p hp =>
  let F := S.fresh (o := o) hp
  q _ _ F (r p _ (S.free hp) upd_same F.lat)
theorem cat_ok {pins : List (Addr × Obj)} {s : Shared} {σ : St} {H : Hp} {x y : V} {v u : Value} {Q : VK} {ρ : List Addr} {st : Sto} {a b w : MV} (I : Inv X pins σ H s) (rx : RelV x v) (ry : RelV y u) (S : Sim T ρ st H) (ra : RV T ρ H a x) (rb : RV T ρ H b y)
    (e : catOf st a b = some w) (q : ∀ H' u, Fut T ρ H ρ st H' → RV T ρ H' w u → Q u H') : wpAny (model X.prog X.w) X.A (binaryOp .Add v u) (EP X pins σ Q) X.xe s := by
  unfold catOf at e
  split at e
  · rename_i xs ys h1 h2
    split at e
    · rename_i hl
      cases e
      obtain ⟨p1, vs, rfl, e1, r1⟩ := list_of S ra h1
      obtain ⟨p2, us, rfl, e2, r2⟩ := list_of S rb h2
      exact op_cat pins s σ H _ _ v u Q I rx ry ⟨p1, p2, vs, us, rfl, rfl, e1, e2, by rw [← r1.length, ← r2.length]; exact line_le hl, q_new S q fun p H' n hp L => ⟨p, _, rfl, n, hp, (r1.append r2).later L⟩⟩
    · cases e
  · cases e
theorem ob_add (hK : T.K = X.K) : OpR X (binaryOp .Add) (rB T bAdd) := by
  intro pins s σ H x y v u Q I rx ry ⟨ρ, st, a, b, w, S, ra, rb, e, q⟩
  unfold bAdd at e
  split at e
  · cases e
    exact op_add pins s σ H x y v u Q I rx ry ⟨_, _, ra, rb, rB_now (f := bAdd) (x := x) (y := y) S q rfl⟩
  · split at e
    · rename_i hl
      cases e
      exact op_add_str pins s σ H x y v u Q I rx ry ⟨_, _, ra, rb, line_le hl, rB_now (f := bAdd) (x := x) (y := y) S q rfl⟩
    · cases e
  · rename_i xs ys
    split at e
    · cases e
    · rename_i hn
      cases e
      obtain ⟨p1, vs, rfl, z1, r1⟩ := ra
      obtain ⟨p2, us, rfl, z2, r2⟩ := rb
      have l1 := r1.length
      have l2 := r2.length
      refine op_catA pins s σ H _ _ v u Q I rx ry ⟨p1, p2, vs, us, rfl, rfl, hK ▸ z1.sq, hK ▸ z2.sq, ?_, fun e => ?_, fun _ e => ?_, fun _ _ => ?_⟩
      · rw [← l1, ← l2]; exact line_le (Nat.not_lt.mp hn)
      · subst e
        have e2 : xs = [] := List.length_eq_zero_iff.mp l1
        subst e2
        exact q H _ (Fut.refl S) ⟨p2, us, rfl, z2, r2⟩
      · subst e
        have e2 : ys = [] := List.length_eq_zero_iff.mp l2
        subst e2
        rw [List.append_nil] at q
        exact q H _ (Fut.refl S) ⟨p1, vs, rfl, z1, r1⟩
      · exact q_new S q fun p H' n hp L => ⟨p, _, rfl, .inl ⟨n, .inl hp⟩, (r1.append r2).later L⟩
  · exact cat_ok I rx ry S ra rb e q
  · exact cat_ok I rx ry S ra rb e q
  · cases e
theorem ob_sub : OpR X (binaryOp .Sub) (rB T bSub) := by
  intro pins s σ H x y v u Q I rx ry ⟨ρ, st, a, b, w, S, ra, rb, e, q⟩
  unfold bSub at e
  split at e
  · cases e
    exact op_sub pins s σ H x y v u Q I rx ry ⟨_, _, ra, rb, rB_now (f := bSub) (x := x) (y := y) S q rfl⟩
  · cases e
theorem rep_ok {pins : List (Addr × Obj)} {s : Shared} {σ : St} {H : Hp} {x y : V} {v u : Value} {Q : VK} {ρ : List Addr} {st : Sto} {a w : MV} {k : Int} (I : Inv X pins σ H s) (rx : RelV x v) (ry : RelV y u) (S : Sim T ρ st H) (ra : RV T ρ H a x) (rb : RV T ρ H (.int k) y)
    (e : repOf st a k = some w) (q : ∀ H' u, Fut T ρ H ρ st H' → RV T ρ H' w u → Q u H') : wpAny (model X.prog X.w) X.A (binaryOp .Mult v u) (EP X pins σ Q) X.xe s := by
  unfold repOf at e
  split at e
  · rename_i xs h1
    split at e
    · rename_i hl
      cases e
      obtain ⟨p1, vs, rfl, e1, r1⟩ := list_of S ra h1
      refine op_rep pins s σ H _ _ v u Q I rx ry ⟨p1, k, vs, rfl, rb, e1, by omega, by omega, by rw [← r1.length]; exact line_le hl.2.2, q_new S q fun p H' n hp L => ⟨p, _, rfl, n, hp, ?_⟩⟩
      have r2 := r1.later L
      have go : ∀ n : Nat, RVs T ρ H' (List.replicate n xs).flatten (List.replicate n vs).flatten := fun n => by
        induction n with
        | zero => exact rfl
        | succ n ih => rw [List.replicate_succ, List.replicate_succ, List.flatten_cons, List.flatten_cons]; exact r2.append ih
      exact go _
    · cases e
  · cases e
theorem ob_mul : OpR X (binaryOp .Mult) (rB T bMul) := by
  intro pins s σ H x y v u Q I rx ry ⟨ρ, st, a, b, w, S, ra, rb, e, q⟩
  unfold bMul at e
  split at e
  · split at e
    · rename_i hl
      cases e
      exact op_mulV pins s σ H x y v u Q I rx ry ⟨_, _, ra, rb, (by unfold CMulV; exact of_decide_eq_true hl), rB_now (f := bMul) (x := x) (y := y) S q rfl⟩
    · cases e
  · exact rep_ok I rx ry S ra rb e q
  · exact rep_ok I rx ry S ra rb e q
  · cases e
theorem ob_div : OpR X (binaryOp .FloorDiv) (rB T bDiv) := by
  intro pins s σ H x y v u Q I rx ry ⟨ρ, st, a, b, w, S, ra, rb, e, q⟩
  unfold bDiv at e
  split at e
  · split at e
    · rename_i hl
      cases e
      exact op_fdivW pins s σ H x y v u Q I rx ry ⟨_, _, ra, rb, (by unfold CDivW; exact of_decide_eq_true hl), rB_now (f := bDiv) (x := x) (y := y) S q rfl⟩
    · split at e
      · rename_i hl
        cases e
        exact op_fdivN pins s σ H x y v u Q I rx ry ⟨_, _, ra, rb, by unfold CDivN; omega, rB_now (f := bDiv) (x := x) (y := y) S q rfl⟩
      · cases e
  · cases e
theorem ob_mod : OpR X (binaryOp .Mod) (rB T bMod) := by
  intro pins s σ H x y v u Q I rx ry ⟨ρ, st, a, b, w, S, ra, rb, e, q⟩
  unfold bMod at e
  split at e
  · split at e
    · rename_i hl
      cases e
      exact op_mod pins s σ H x y v u Q I rx ry ⟨_, _, ra, rb, hl, rB_now (f := bMod) (x := x) (y := y) S q rfl⟩
    · split at e
      · rename_i hl
        cases e
        exact op_modN pins s σ H x y v u Q I rx ry ⟨_, _, ra, rb, by omega, rB_now (f := bMod) (x := x) (y := y) S q rfl⟩
      · cases e
  · cases e
theorem ob_pow : OpR X (binaryOp .Pow) (rB T bPow) := by
  intro pins s σ H x y v u Q I rx ry ⟨ρ, st, a, b, w, S, ra, rb, e, q⟩
  unfold bPow at e
  split at e
  · split at e
    · rename_i hl
      cases e
      exact op_pow pins s σ H x y v u Q I rx ry ⟨_, _, ra, rb, ⟨hl.1, by omega, hl.2.2⟩, rB_now (f := bPow) (x := x) (y := y) S q rfl⟩
    · cases e
  · cases e
theorem ou_neg : UnR X (unaryOp .USub) (rU1 T uNeg) := by
  intro pins s σ H x v Q I rx ⟨ρ, st, a, w, S, ra, e, q⟩
  unfold uNeg at e
  split at e
  · cases e
    exact un_neg pins s σ H x v Q I rx ⟨_, ra, q H _ (Fut.refl S) rfl⟩
  · cases e
end

/-! ### comparisons -/
def mCmp (f : Sto → MV → MV → Option Bool) (ma mb : Ev → M MV) : Ev → M Bool := fun env => M.bnd (ma env) fun x => M.bnd (mb env) fun y s => M.opt (f s x y) s
def mV (m : Ev → M Bool) : Ev → M MV := fun env => M.bnd (m env) fun b => M.ret (.bl b)
def rP (T : Tx) (f : Sto → MV → MV → Option Bool) : R2 := fun x y H Q => ∃ ρ st a b k, Sim T ρ st H ∧ RV T ρ H a x ∧ RV T ρ H b y ∧ f st a b = some k ∧ Q (.bl k) H
section
variable {X : Cx} {T : Tx} {W : WX} {ma mb mc : Ev → M MV} {m m' : Ev → M Bool} {a b c : Expr} {pos : Pos} {f g : Sto → MV → MV → Option Bool}
theorem t_cmp {op : CmpOp} (ho : OpR X (compareOp op) (rP T f)) (ha : PE X a (tE T W ma)) (hb : PE X b (tE T W mb)) (hm : behindInMarks op b = false) : PT X (.Compare a [op] [b] pos) (tT T W (mCmp f ma mb)) :=
  pt_mono (pt_cmpR ho ha hb hm) fun σ H Q h => by
    obtain ⟨ρ, st, env, S, E, h⟩ := h
    refine ⟨ρ, st, env, S, E, h.bnd.imp fun x H1 ⟨ρ1, s1, a, F1, r1, q1⟩ => ?_⟩
    refine ⟨ρ1, s1, env, F1.sim, E.later F1.lat, (Out.bnd q1).imp fun y H2 ⟨ρ2, s2, b, F2, r2, q2⟩ => ?_⟩
    obtain ⟨v, e, q3⟩ := opt_out q2
    exact ⟨ρ2, s2, a, b, v, F2.sim, r1.later F2.lat, r2, e, v, rfl, q3 ρ2 H2 v (Fut.refl F2.sim) rfl⟩
theorem v_cmp {op : CmpOp} (ho : OpR X (compareOp op) (rP T f)) (ha : PE X a (tE T W ma)) (hb : PE X b (tE T W mb)) (hm : behindInMarks op b = false) : PE X (.Compare a [op] [b] pos) (tE T W (mV (mCmp f ma mb))) :=
  pe_mono (pe_cmpR ho ha hb hm) fun σ H Q h => by
    obtain ⟨ρ, st, env, S, E, h⟩ := h
    have h1 := (Out.bnd (rel := relB) h)
    refine ⟨ρ, st, env, S, E, (Out.bnd h1).imp fun x H1 ⟨ρ1, s1, a, F1, r1, q1⟩ => ?_⟩
    refine ⟨ρ1, s1, env, F1.sim, E.later F1.lat, (Out.bnd q1).imp fun y H2 ⟨ρ2, s2, b, F2, r2, q2⟩ => ?_⟩
    obtain ⟨v, e, q3⟩ := opt_out q2
    obtain ⟨ρ3, s3, k, F3, rfl, q4⟩ := q3 ρ2 H2 v (Fut.refl F2.sim) rfl
    exact ⟨ρ2, s2, a, b, k, F2.sim, r1.later F2.lat, r2, e, q4 ρ3 H2 _ (Fut.refl F3.sim) rfl⟩
/-- a test as a value -/
theorem v_of_bl {e : Expr} {t : TE} (h : PE X e t) (q : ∀ σ H Q, tT T W m σ H (fun b H' => Q (.bl b) H') → t σ H Q) : PE X e (tE T W (mV m)) := pe_mono h fun σ H Q h => by
  refine q σ H Q ?_
  obtain ⟨ρ, st, env, S, E, h⟩ := h
  refine ⟨ρ, st, env, S, E, (Out.bnd (rel := relB) h).imp fun b H1 ⟨ρ1, s1, k, F1, e, q1⟩ => ?_⟩
  subst e
  exact q1 ρ1 H1 _ (Fut.refl F1.sim) rfl
/-! a op1 b op2 c -/
def mChain (f g : Sto → MV → MV → Option Bool) (ma mb mc : Ev → M MV) : Ev → M Bool := fun env => M.bnd (ma env) fun x => M.bnd (mb env) fun y => M.bnd (fun s => M.opt (f s x y) s) fun k =>
  if k = true then M.bnd (mc env) fun z s => M.opt (g s y z) s else M.ret false
theorem chain_red {σ : St} {H : Hp} {Q : Bool → Hp → Prop} (h : tT T W (mChain f g ma mb mc) σ H Q) : tTest (tChain (rP T f) (rP T g) (tE T W ma) (tE T W mb) (tE T W mc)) σ H Q := by
  obtain ⟨ρ, st, env, S, E, h⟩ := h
  refine ⟨ρ, st, env, S, E, h.bnd.imp fun x H1 ⟨ρ1, s1, a, F1, r1, q1⟩ => ?_⟩
  refine ⟨ρ1, s1, env, F1.sim, E.later F1.lat, (Out.bnd q1).imp fun y H2 ⟨ρ2, s2, b, F2, r2, q2⟩ => ?_⟩
  obtain ⟨k, e, q3⟩ := opt_out (Out.bnd (rel := relB) q2)
  refine ⟨ρ2, s2, a, b, k, F2.sim, r1.later F2.lat, r2, e, k, rfl, ?_⟩
  obtain ⟨ρ3, s3, k', F3, rfl, q4⟩ := q3 ρ2 H2 k (Fut.refl F2.sim) rfl
  cases k' with
  | false =>
    rw [if_neg (by decide)] at q4
    rw [if_neg (by decide)]
    exact ⟨false, rfl, q4 ρ3 H2 false (Fut.refl F3.sim) rfl⟩
  | true =>
    rw [if_pos rfl] at q4
    rw [if_pos rfl]
    refine ⟨ρ3, s3, env, F3.sim, E.later (F1.trans (F2.trans F3)).lat, (Out.bnd q4).imp fun z H4 ⟨ρ4, s4, d, F4, r4, q5⟩ => ?_⟩
    obtain ⟨k2, e2, q6⟩ := opt_out q5
    exact ⟨ρ4, s4, b, d, k2, F4.sim, r2.later (F3.trans F4).lat, r4, e2, k2, rfl, q6 ρ4 H4 k2 (Fut.refl F4.sim) rfl⟩
theorem t_chain {op op' : CmpOp} (ho : OpR X (compareOp op) (rP T f)) (ho' : OpR X (compareOp op') (rP T g)) (ha : PE X a (tE T W ma)) (hb : PE X b (tE T W mb)) (hc : PE X c (tE T W mc)) (hm : lastMarks [op, op'] [b, c] = false := by with_unfolding_all rfl) :
    PT X (.Compare a [op, op'] [b, c] pos) (tT T W (mChain f g ma mb mc)) := pt_mono (pt_chain ho ho' ha hb hc hm) fun σ H Q h => chain_red h
theorem v_chain {op op' : CmpOp} (ho : OpR X (compareOp op) (rP T f)) (ho' : OpR X (compareOp op') (rP T g)) (ha : PE X a (tE T W ma)) (hb : PE X b (tE T W mb)) (hc : PE X c (tE T W mc)) (hm : lastMarks [op, op'] [b, c] = false := by with_unfolding_all rfl) :
    PE X (.Compare a [op, op'] [b, c] pos) (tE T W (mV (mChain f g ma mb mc))) := v_of_bl (pe_chain ho ho' ha hb hc hm) fun σ H Q h => by
  have q := chain_red h
  obtain ⟨ρ, st, env, S, E, h⟩ := q
  refine ⟨ρ, st, env, S, E, h.imp fun x H1 q1 => ?_⟩
  obtain ⟨ρ1, st1, env1, S1, E1, h1⟩ := q1
  refine ⟨ρ1, st1, env1, S1, E1, h1.imp fun y H2 q2 => ?_⟩
  obtain ⟨ρ2, st2, a, b, k, S2, r1, r2, e, k', ek, q3⟩ := q2
  refine ⟨ρ2, st2, a, b, k, S2, r1, r2, e, k', ek, ?_⟩
  split at q3
  · rename_i hk
    rw [if_pos hk]
    obtain ⟨ρ3, st3, env3, S3, E3, h3⟩ := q3
    refine ⟨ρ3, st3, env3, S3, E3, h3.imp fun z H4 q4 => ?_⟩
    obtain ⟨ρ4, st4, c, d, k4, S4, r4, r5, e4, k5, ek5, q5⟩ := q4
    cases ek5
    exact ⟨ρ4, st4, c, d, k4, S4, r4, r5, e4, q5⟩
  · rename_i hk
    rw [if_neg hk]
    obtain ⟨k5, ek5, q5⟩ := q3
    cases ek5
    exact q5
/-! tests: and, or, not, truth -/
def mAnd (m m' : Ev → M Bool) : Ev → M Bool := fun env => M.bnd (m env) fun k => if k = true then m' env else M.ret false
def mOr (m m' : Ev → M Bool) : Ev → M Bool := fun env => M.bnd (m env) fun k => if k = true then M.ret true else m' env
def mNot (m : Ev → M Bool) : Ev → M Bool := fun env => M.bnd (m env) fun k => M.ret (!k)
theorem not_red {σ : St} {H : Hp} {Q : Bool → Hp → Prop} (h : tT T W (mNot m) σ H Q) : tNot (tT T W m) σ H Q := by
  obtain ⟨ρ, st, env, S, E, h⟩ := h
  refine ⟨ρ, st, env, S, E, h.bnd.imp fun k H1 ⟨ρ1, s1, k', F1, r1, q1⟩ => ?_⟩
  subst r1
  exact q1 ρ1 H1 _ (Fut.refl F1.sim) rfl
theorem and_red {σ : St} {H : Hp} {Q : Bool → Hp → Prop} (h : tT T W (mAnd m m') σ H Q) : tAnd (tT T W m) (tT T W m') σ H Q := by
  obtain ⟨ρ, st, env, S, E, h⟩ := h
  refine ⟨ρ, st, env, S, E, h.bnd.imp fun k H1 ⟨ρ1, s1, k', F1, r1, q1⟩ => ?_⟩
  subst r1
  cases k' with
  | true =>
    rw [if_pos rfl] at q1
    exact ⟨ρ1, s1, env, F1.sim, E.later F1.lat, q1⟩
  | false =>
    rw [if_neg (by decide)] at q1
    exact q1 ρ1 H1 _ (Fut.refl F1.sim) rfl
theorem or_red {σ : St} {H : Hp} {Q : Bool → Hp → Prop} (h : tT T W (mOr m m') σ H Q) : tOr (tT T W m) (tT T W m') σ H Q := by
  obtain ⟨ρ, st, env, S, E, h⟩ := h
  refine ⟨ρ, st, env, S, E, h.bnd.imp fun k H1 ⟨ρ1, s1, k', F1, r1, q1⟩ => ?_⟩
  subst r1
  cases k' with
  | false =>
    rw [if_neg (by decide)] at q1
    exact ⟨ρ1, s1, env, F1.sim, E.later F1.lat, q1⟩
  | true =>
    rw [if_pos rfl] at q1
    exact q1 ρ1 H1 _ (Fut.refl F1.sim) rfl
theorem t_not (h : PT X a (tT T W m)) : PT X (.UnaryOp .Not a pos) (tT T W (mNot m)) := pt_mono (pt_not h) fun σ H Q h => not_red h
theorem w_and {rest : List Expr} (h : PT X a (tT T W m)) (h' : PW X (.BoolOp .And (b :: rest) pos) (tT T W m')) : PW X (.BoolOp .And (a :: b :: rest) pos) (tT T W (mAnd m m')) := pw_mono (pw_and h h') fun σ H Q h => and_red h
theorem w_or {rest : List Expr} (h : PT X a (tT T W m)) (h' : PW X (.BoolOp .Or (b :: rest) pos) (tT T W m')) : PW X (.BoolOp .Or (a :: b :: rest) pos) (tT T W (mOr m m')) := pw_mono (pw_or h h') fun σ H Q h => or_red h
/-- a value whose truth is asked -/
def truOf (s : Sto) : MV → Option Bool
  | .non => some false
  | .bl b => some b
  | .int i => some (i != 0)
  | .str x => if x.length ≤ line then some ((x.length : Int) != 0) else none
  | .tup xs => some (!xs.isEmpty)
  | .lst xs => some (!xs.isEmpty)
  | .frz xs => some (!xs.isEmpty)
  | .ref n => match s[n]? with
    | some (.lst xs) => some (!xs.isEmpty)
    | _ => none
  | _ => none
theorem RVs.isEmpty {ρ : List Addr} {H : Hp} {xs : List MV} {ys : List V} (r : RVs T ρ H xs ys) : xs.isEmpty = ys.isEmpty := by
  have := r.length
  cases xs <;> cases ys <;> first | rfl | (simp at this)
theorem tru_of {ρ : List Addr} {H : Hp} {st : Sto} {x : MV} {v : V} {k : Bool} (hK : T.K = X.K) (S : Sim T ρ st H) (r : RV T ρ H x v) (h : truOf st x = some k) : TruV X.K v H k := by
  cases x with
  | non => cases r; cases h; rfl
  | bl b => cases r; cases h; rfl
  | int i => cases r; cases h; rfl
  | str z =>
    cases r
    simp only [truOf] at h
    split at h
    · rename_i hl; cases h; exact ⟨line_le hl, rfl⟩
    · cases h
  | tup xs =>
    cases h
    obtain ⟨a, ys, rfl, z, r⟩ := r
    exact .inr (.inl ⟨ys, hK ▸ z.sq, by rw [r.isEmpty]⟩)
  | lst xs =>
    cases h
    obtain ⟨a, ys, rfl, _, z, r⟩ := r
    exact .inl ⟨ys, SqL.of z, by rw [r.isEmpty]⟩
  | frz xs =>
    cases h
    obtain ⟨a, ys, rfl, z, r⟩ := r
    exact .inl ⟨ys, hK ▸ z.sq, by rw [r.isEmpty]⟩
  | ref n =>
    have q : ∃ xs, st[n]? = some (.lst xs) ∧ k = !xs.isEmpty := by
      simp only [truOf] at h
      split at h
      · rename_i xs e; cases h; exact ⟨xs, e, rfl⟩
      · cases h
    obtain ⟨xs, e, rfl⟩ := q
    obtain ⟨a, e1, rfl⟩ := r
    obtain ⟨ys, e2, r⟩ := S.cell n a _ e1 e
    exact .inl ⟨ys, SqL.of e2, by rw [r.isEmpty]⟩
  | ins c xs => cases h
  | fn k => cases h
  | exc => cases h
def mTru (ma : Ev → M MV) : Ev → M Bool := fun env => M.bnd (ma env) fun x s => M.opt (truOf s x) s
theorem t_tru (hK : T.K = X.K) (ha : PE X a (tE T W ma)) (he : ∀ whole, isTrue a X.env whole = (do let v ← whole; standAt a.pos; holding [v] (truthy v)) := by intro _; rfl) : PT X a (tT T W (mTru ma)) :=
  pt_mono (pt_truth ha he) fun σ H Q h => by
    obtain ⟨ρ, st, env, S, E, h⟩ := h
    refine ⟨ρ, st, env, S, E, h.bnd.imp fun x H1 ⟨ρ1, s1, a, F1, r1, q1⟩ => ?_⟩
    obtain ⟨k, e, q2⟩ := opt_out q1
    exact ⟨k, tru_of hK F1.sim r1 e, q2 ρ1 H1 k (Fut.refl F1.sim) rfl⟩
/-! .. as values: what comes from the left must be a bool -/
def mAndV (ma mb : Ev → M MV) : Ev → M MV := fun env => M.bnd (ma env) fun x => match x with
  | .bl true => mb env
  | .bl false => M.ret (.bl false)
  | _ => fun _ => .bad
def mOrV (ma mb : Ev → M MV) : Ev → M MV := fun env => M.bnd (ma env) fun x => match x with
  | .bl true => M.ret (.bl true)
  | .bl false => mb env
  | _ => fun _ => .bad
def mNotV (ma : Ev → M MV) : Ev → M MV := fun env => M.bnd (ma env) fun x => match x with
  | .bl k => M.ret (.bl !k)
  | _ => fun _ => .bad
theorem v_and {rest : List Expr} (ha : PE X a (tE T W ma)) (hb : PE X (.BoolOp .And (b :: rest) pos) (tE T W mb)) : PE X (.BoolOp .And (a :: b :: rest) pos) (tE T W (mAndV ma mb)) :=
  pe_mono (pe_and ha hb) fun σ H Q h => by
    obtain ⟨ρ, st, env, S, E, h⟩ := h
    refine ⟨ρ, st, env, S, E, h.bnd.imp fun x H1 ⟨ρ1, s1, a, F1, r1, q1⟩ => ?_⟩
    cases a with
    | bl k =>
      cases r1
      refine ⟨k, rfl, ?_⟩
      cases k with
      | true => exact ⟨ρ1, s1, env, F1.sim, E.later F1.lat, q1⟩
      | false => exact q1 ρ1 H1 _ (Fut.refl F1.sim) rfl
    | _ => exact False.elim q1
theorem v_or {rest : List Expr} (ha : PE X a (tE T W ma)) (hb : PE X (.BoolOp .Or (b :: rest) pos) (tE T W mb)) : PE X (.BoolOp .Or (a :: b :: rest) pos) (tE T W (mOrV ma mb)) :=
  pe_mono (pe_or ha hb) fun σ H Q h => by
    obtain ⟨ρ, st, env, S, E, h⟩ := h
    refine ⟨ρ, st, env, S, E, h.bnd.imp fun x H1 ⟨ρ1, s1, a, F1, r1, q1⟩ => ?_⟩
    cases a with
    | bl k =>
      cases r1
      refine ⟨k, rfl, ?_⟩
      cases k with
      | false => exact ⟨ρ1, s1, env, F1.sim, E.later F1.lat, q1⟩
      | true => exact q1 ρ1 H1 _ (Fut.refl F1.sim) rfl
    | _ => exact False.elim q1
theorem v_one {op} (h : PE X a (tE T W ma)) : PE X (.BoolOp op [a] pos) (tE T W ma) := pe_one h
theorem v_not (ha : PE X a (tE T W ma)) : PE X (.UnaryOp .Not a pos) (tE T W (mNotV ma)) := pe_mono (pe_not ha) fun σ H Q h => by
  obtain ⟨ρ, st, env, S, E, h⟩ := h
  refine ⟨ρ, st, env, S, E, h.bnd.imp fun x H1 ⟨ρ1, s1, a, F1, r1, q1⟩ => ?_⟩
  cases a with
  | bl k =>
    cases r1
    exact ⟨k, rfl, q1 ρ1 H1 _ (Fut.refl F1.sim) rfl⟩
  | _ => exact False.elim q1
/-! a if t else b -/
def mIte (m : Ev → M Bool) (ma mb : Ev → M MV) : Ev → M MV := fun env => M.bnd (m env) fun k => if k = true then ma env else mb env
theorem v_ite (h : PT X c (tT T W m)) (ha : PE X a (tE T W ma)) (hb : PE X b (tE T W mb)) : PE X (.IfExp c a b pos) (tE T W (mIte m ma mb)) := pe_mono (pe_ifExp h ha hb) fun σ H Q h => by
  obtain ⟨ρ, st, env, S, E, h⟩ := h
  refine ⟨ρ, st, env, S, E, h.bnd.imp fun k H1 ⟨ρ1, s1, k', F1, r1, q1⟩ => ?_⟩
  subst r1
  cases k' with
  | true =>
    rw [if_pos rfl] at q1
    exact ⟨ρ1, s1, env, F1.sim, E.later F1.lat, q1⟩
  | false =>
    rw [if_neg (by decide)] at q1
    exact ⟨ρ1, s1, env, F1.sim, E.later F1.lat, q1⟩
end
end Z

namespace Z
open PySem L2

/-! ### data: what == looks at -/
def toPy (s : Sto) : Nat → MV → Option PyData
  | 0, _ => none
  | _ + 1, .non => some .none
  | _ + 1, .bl b => some (.bool b)
  | _ + 1, .int i => some (.int i)
  | _ + 1, .str x => some (.str x)
  | k + 1, .tup xs => (xs.mapM (toPy s k)).map .tuple
  | k + 1, .lst xs => (xs.mapM (toPy s k)).map .list
  | k + 1, .frz xs => (xs.mapM (toPy s k)).map .list
  | k + 1, .ref n => match s[n]? with
    | some (.lst xs) => (xs.mapM (toPy s k)).map .list
    | _ => none
  | _ + 1, .ins _ _ => none
  | _ + 1, .fn _ => none
  | _ + 1, .exc => none
theorem mapM_cons_some {α β : Type} {f : α → Option β} {x : α} {xs : List α} {ds : List β} (h : (x :: xs).mapM f = some ds) : ∃ d es, f x = some d ∧ xs.mapM f = some es ∧ ds = d :: es := by
  rw [List.mapM_cons] at h
  cases e : f x with
  | none => rw [e] at h; cases h
  | some d =>
    rw [e] at h
    cases e2 : xs.mapM f with
    | none => rw [e2] at h; cases h
    | some es => rw [e2] at h; cases h; exact ⟨d, es, rfl, rfl, rfl⟩
section
variable {T : Tx} {ρ : List Addr} {H : Hp} {st : Sto}
theorem dp_all {f : MV → Option PyData} (hf : ∀ m v d, RV T ρ H m v → f m = some d → Dp T.K H v d) : ∀ {xs : List MV} {vs : List V} {ds : List PyData}, RVs T ρ H xs vs → xs.mapM f = some ds → DpAll T.K H vs ds
  | [], vs, ds, r, h => by cases r; cases h; exact .nil
  | x :: xs, vs, ds, r, h => by
    obtain ⟨v, us, rfl, r1, r2⟩ := r
    obtain ⟨d, es, h1, h2, rfl⟩ := mapM_cons_some h
    exact .cons (hf x v d r1 h1) (dp_all hf r2 h2)
theorem dp_of (S : Sim T ρ st H) : ∀ (k : Nat) (m : MV) (v : V) (d : PyData), RV T ρ H m v → toPy st k m = some d → Dp T.K H v d := by
  intro k
  induction k with
  | zero => intro m v d _ h; cases h
  | succ k ih =>
    intro m v d r h
    have seq : ∀ {xs : List MV} {vs : List V} {g : List PyData → PyData}, RVs T ρ H xs vs → (xs.mapM (toPy st k)).map g = some d → ∃ ds, d = g ds ∧ DpAll T.K H vs ds := fun {xs vs g} r h => by
      cases e : xs.mapM (toPy st k) with
      | none => rw [e] at h; cases h
      | some ds => rw [e] at h; cases h; exact ⟨ds, rfl, dp_all ih r e⟩
    cases m with
    | non => cases h; cases r; exact .non
    | bl b => cases h; cases r; exact .bl b
    | int i => cases h; cases r; exact .int i
    | str x => cases h; cases r; exact .str x
    | tup xs =>
      obtain ⟨a, ys, rfl, z, r⟩ := r
      obtain ⟨ds, rfl, q⟩ := seq r h
      exact .tup z.sq q
    | lst xs =>
      obtain ⟨a, ys, rfl, _, z, r⟩ := r
      obtain ⟨ds, rfl, q⟩ := seq r h
      exact .lst (SqL.of z) q
    | frz xs =>
      obtain ⟨a, ys, rfl, z, r⟩ := r
      obtain ⟨ds, rfl, q⟩ := seq r h
      exact .lst z.sq q
    | ref n =>
      obtain ⟨a, e1, rfl⟩ := r
      have q : ∃ xs, st[n]? = some (.lst xs) ∧ (xs.mapM (toPy st k)).map .list = some d := by
        simp only [toPy] at h
        split at h
        · rename_i xs e; exact ⟨xs, e, h⟩
        · cases h
      obtain ⟨xs, e, h⟩ := q
      obtain ⟨ys, e2, r⟩ := S.cell n a _ e1 e
      obtain ⟨ds, rfl, q⟩ := seq r h
      exact .lst (SqL.of e2) q
    | ins c xs => cases h
    | fn k => cases h
    | exc => cases h
end
def deepEq (s : Sto) (x y : MV) : Option Bool := match toPy s 30 x, toPy s 30 y with
  | some d, some e => if SeqAt.shaped d = true ∧ SeqAt.shaped e = true then some (PyData.eqv d e) else none
  | _, _ => none
def cEq (s : Sto) : MV → MV → Option Bool
  | .int i, .int j => some (decide (i = j))
  | .str a, .str b => some (decide (a = b))
  | .bl a, .bl b => some (a == b)
  | .non, .non => some true
  | .non, .int _ => some false
  | .int _, .non => some false
  | .non, .str _ => some false
  | .str _, .non => some false
  | .int _, .str _ => some false
  | .str _, .int _ => some false
  | x, y => deepEq s x y
def cNe (s : Sto) (x y : MV) : Option Bool := (cEq s x y).map (!·)
def cLt (_ : Sto) : MV → MV → Option Bool
  | .int i, .int j => some (decide (i < j))
  | .str a, .str b => some (decide (a.cps.toList < b.cps.toList))
  | _, _ => none
def cLe (_ : Sto) : MV → MV → Option Bool
  | .int i, .int j => some (decide (i ≤ j))
  | .str a, .str b => some (!decide (b.cps.toList < a.cps.toList))
  | _, _ => none
def cGt (_ : Sto) : MV → MV → Option Bool
  | .int i, .int j => some (decide (j < i))
  | _, _ => none
def cGe (_ : Sto) : MV → MV → Option Bool
  | .int i, .int j => some (decide (j ≤ i))
  | _, _ => none
def isN : MV → Bool
  | .non => true
  | _ => false
def cIs (_ : Sto) (x : MV) : MV → Option Bool
  | .non => some (isN x)
  | _ => none
def cNot (_ : Sto) (x : MV) : MV → Option Bool
  | .non => some (!isN x)
  | _ => none
def flatM : MV → Bool
  | .non => true
  | .bl _ => true
  | .int _ => true
  | .str _ => true
  | _ => false
def flatEq : MV → MV → Bool
  | .non, .non => true
  | .bl a, .bl b => a == b
  | .bl a, .int b => (if a then 1 else 0) == b
  | .int a, .bl b => a == (if b then 1 else 0)
  | .int a, .int b => a == b
  | .str a, .str b => a == b
  | _, _ => false
def deepIn (s : Sto) (x : MV) (ys : List MV) : Option Bool := match toPy s 30 x, ys.mapM (toPy s 30) with
  | some d, some es => if SeqAt.shaped d = true ∧ SeqAt.shaped (.list es) = true then some (es.any fun z => PyData.eqv z d) else none
  | _, _ => none
def cIn (s : Sto) (x y : MV) : Option Bool := match seqOf s y with
  | some ys => if flatM x && ys.all flatM then some (ys.any fun z => flatEq z x) else deepIn s x ys
  | none => match x, y with
    | .str a, .str b => some (!(Builtin.Str.occurrences b a 0 b.length 1).isEmpty)
    | _, _ => none
def cNin (s : Sto) (x y : MV) : Option Bool := (cIn s x y).map (!·)
section
variable {X : Cx} {T : Tx}
theorem flat_of {ρ : List Addr} {H : Hp} {m : MV} {v : V} (r : RV T ρ H m v) (h : flatM m = true) : flatV v = true := by
  cases m <;> (try (cases h; done)) <;> (cases r; rfl)
theorem flat_all {ρ : List Addr} {H : Hp} : ∀ {ms : List MV} {vs : List V}, RVs T ρ H ms vs → ms.all flatM = true → vs.all flatV = true
  | [], vs, r, _ => by cases r; rfl
  | m :: ms, vs, r, h => by
    obtain ⟨v, us, rfl, r1, r2⟩ := r
    rw [List.all_cons, Bool.and_eq_true] at h
    rw [List.all_cons, flat_of r1 h.1, flat_all r2 h.2]; rfl
theorem flat_eq {ρ : List Addr} {H : Hp} {m n : MV} {v u : V} (r : RV T ρ H m v) (r' : RV T ρ H n u) (h : flatM m = true) (h' : flatM n = true) : eqV v u = flatEq m n := by
  cases m <;> (try (cases h; done)) <;> cases n <;> (try (cases h'; done)) <;> (cases r; cases r'; rfl)
theorem flat_any {ρ : List Addr} {H : Hp} {x : MV} {v : V} (rx : RV T ρ H x v) (fx : flatM x = true) : ∀ {ms : List MV} {vs : List V}, RVs T ρ H ms vs → ms.all flatM = true → inV v vs = ms.any fun z => flatEq z x
  | [], vs, r, _ => by cases r; rfl
  | m :: ms, vs, r, h => by
    obtain ⟨u, us, rfl, r1, r2⟩ := r
    rw [List.all_cons, Bool.and_eq_true] at h
    have q : inV v us = ms.any fun z => flatEq z x := flat_any rx fx r2 h.2
    show (eqV u v || inV v us) = _
    rw [q, flat_eq r1 rx h.1 fx]; rfl
theorem deep_eq_ok (hK : T.K = X.K) (hu : X.A.units + 64 < cLine) {ρ : List Addr} {st : Sto} {H : Hp} {a b : MV} {x y : V} {k : Bool} (S : Sim T ρ st H) (ra : RV T ρ H a x) (rb : RV T ρ H b y) (e : deepEq st a b = some k) :
    ∃ d e', Dp X.K H x d ∧ Dp X.K H y e' ∧ SeqAt.shaped d = true ∧ SeqAt.shaped e' = true ∧ PyData.eqv d e' = k := by
  unfold deepEq at e
  split at e
  · rename_i d e' h1 h2
    split at e
    · rename_i hs
      cases e
      exact ⟨d, e', hK ▸ dp_of S 30 a x d ra h1, hK ▸ dp_of S 30 b y e' rb h2, hs.1, hs.2, rfl⟩
    · cases e
  · cases e
/-- == and != at once -/
theorem eq_cases (hK : T.K = X.K) (hu : X.A.units + 64 < cLine) {ρ : List Addr} {st : Sto} {H : Hp} {a b : MV} {x y : V} {k : Bool} (S : Sim T ρ st H) (ra : RV T ρ H a x) (rb : RV T ρ H b y) (e : cEq st a b = some k) :
    (scal x y = true ∧ decide (x = y) = k) ∨ ∃ d e', Dp X.K H x d ∧ Dp X.K H y e' ∧ SeqAt.shaped d = true ∧ SeqAt.shaped e' = true ∧ PyData.eqv d e' = k := by
  unfold cEq at e
  split at e
  · cases e; cases ra; cases rb
    exact .inl ⟨rfl, by rw [dec_int]; rfl⟩
  · cases e; cases ra; cases rb
    refine .inl ⟨rfl, ?_⟩
    rename_i p q
    by_cases h : p = q
    · subst h; simp
    · rw [decide_eq_false h, decide_eq_false (fun z => h (V.str.inj z))]
  · cases e; cases ra; cases rb; exact .inl ⟨rfl, dec_bl⟩
  · cases e; cases ra; cases rb; exact .inl ⟨rfl, by simp⟩
  · cases e; cases ra; cases rb; exact .inl ⟨rfl, by simp⟩
  · cases e; cases ra; cases rb; exact .inl ⟨rfl, by simp⟩
  · cases e; cases ra; cases rb; exact .inl ⟨rfl, by simp⟩
  · cases e; cases ra; cases rb; exact .inl ⟨rfl, by simp⟩
  · cases e; cases ra; cases rb; exact .inl ⟨rfl, by simp⟩
  · cases e; cases ra; cases rb; exact .inl ⟨rfl, by simp⟩
  · exact .inr (deep_eq_ok hK hu S ra rb e)
theorem oc_eq (hK : T.K = X.K) (hu : X.A.units + 64 < cLine) : OpR X (compareOp .Eq) (rP T cEq) := by
  intro pins s σ H x y v u Q I rx ry ⟨ρ, st, a, b, k, S, ra, rb, e, q⟩
  rcases eq_cases hK hu S ra rb e with ⟨h1, h2⟩ | ⟨d, e', h1, h2, h3, h4, h5⟩
  · exact op_eq pins s σ H x y v u Q I rx ry ⟨h1, by rw [h2]; exact q⟩
  · exact op_eqD hu pins s σ H x y v u Q I rx ry ⟨d, e', h1, h2, h3, h4, by rw [h5]; exact q⟩
theorem oc_ne (hK : T.K = X.K) (hu : X.A.units + 64 < cLine) : OpR X (compareOp .NotEq) (rP T cNe) := by
  intro pins s σ H x y v u Q I rx ry ⟨ρ, st, a, b, k, S, ra, rb, e, q⟩
  unfold cNe at e
  cases e1 : cEq st a b with
  | none => rw [e1] at e; cases e
  | some k' =>
    rw [e1] at e; cases e
    rcases eq_cases hK hu S ra rb e1 with ⟨h1, h2⟩ | ⟨d, e', h1, h2, h3, h4, h5⟩
    · exact op_ne pins s σ H x y v u Q I rx ry ⟨h1, by rw [h2]; exact q⟩
    · exact op_neD hu pins s σ H x y v u Q I rx ry ⟨d, e', h1, h2, h3, h4, by rw [h5]; exact q⟩
theorem oc_lt : OpR X (compareOp .Lt) (rP T cLt) := by
  intro pins s σ H x y v u Q I rx ry ⟨ρ, st, a, b, k, S, ra, rb, e, q⟩
  unfold cLt at e
  split at e
  · cases e; exact op_lt pins s σ H x y v u Q I rx ry ⟨_, _, ra, rb, q⟩
  · cases e; exact op_lt_str pins s σ H x y v u Q I rx ry ⟨_, _, ra, rb, q⟩
  · cases e
theorem oc_le : OpR X (compareOp .LtE) (rP T cLe) := by
  intro pins s σ H x y v u Q I rx ry ⟨ρ, st, a, b, k, S, ra, rb, e, q⟩
  unfold cLe at e
  split at e
  · cases e; exact op_le pins s σ H x y v u Q I rx ry ⟨_, _, ra, rb, q⟩
  · cases e; exact op_le_str pins s σ H x y v u Q I rx ry ⟨_, _, ra, rb, q⟩
  · cases e
theorem oc_gt : OpR X (compareOp .Gt) (rP T cGt) := by
  intro pins s σ H x y v u Q I rx ry ⟨ρ, st, a, b, k, S, ra, rb, e, q⟩
  unfold cGt at e
  split at e
  · cases e; exact op_gt pins s σ H x y v u Q I rx ry ⟨_, _, ra, rb, q⟩
  · cases e
theorem oc_ge : OpR X (compareOp .GtE) (rP T cGe) := by
  intro pins s σ H x y v u Q I rx ry ⟨ρ, st, a, b, k, S, ra, rb, e, q⟩
  unfold cGe at e
  split at e
  · cases e; exact op_ge pins s σ H x y v u Q I rx ry ⟨_, _, ra, rb, q⟩
  · cases e
theorem isN_of {ρ : List Addr} {H : Hp} {m : MV} {v : V} (r : RV T ρ H m v) : decide (v = .non) = isN m := by
  cases m with
  | non => cases r; rfl
  | bl _ => cases r; rfl
  | int _ => cases r; rfl
  | str _ => cases r; rfl
  | fn _ => cases r; rfl
  | exc => exact r.elim
  | ref n => obtain ⟨a, _, rfl⟩ := r; rfl
  | tup _ => obtain ⟨a, _, rfl, _⟩ := r; rfl
  | lst _ => obtain ⟨a, _, rfl, _⟩ := r; rfl
  | frz _ => obtain ⟨a, _, rfl, _⟩ := r; rfl
  | ins _ _ => obtain ⟨a, _, _, rfl, _⟩ := r; rfl
theorem oc_is : OpR X (compareOp .Is) (rP T cIs) := by
  intro pins s σ H x y v u Q I rx ry ⟨ρ, st, a, b, k, S, ra, rb, e, q⟩
  unfold cIs at e
  split at e
  · cases e; exact op_isN pins s σ H x y v u Q I rx ry ⟨rb, by rw [isN_of ra]; exact q⟩
  · cases e
theorem oc_not : OpR X (compareOp .IsNot) (rP T cNot) := by
  intro pins s σ H x y v u Q I rx ry ⟨ρ, st, a, b, k, S, ra, rb, e, q⟩
  unfold cNot at e
  split at e
  · cases e; exact op_notN pins s σ H x y v u Q I rx ry ⟨rb, by rw [isN_of ra]; exact q⟩
  · cases e
theorem deep_in {hu : X.A.units + 65 < cLine} {pins : List (Addr × Obj)} {s : Shared} {σ : St} {H : Hp} {x y : V} {v u : Value} {d : PyData} {ds : List PyData} {ys : List V} {p : Addr} (neg : Bool) {Q : VK} (I : Inv X pins σ H s) (rx : RelV x v) (ry : RelV y u) (hp : y = .ref p) (hq : SqL X.K H p ys ∨ SqT X.K H p ys)
    (hx : Dp X.K H x d) (hys : DpAll X.K H ys ds) (sd : SeqAt.shaped d = true) (se : SeqAt.shaped (.list ds) = true) (q : Q (.bl (if neg then !(ds.any fun z => PyData.eqv z d) else (ds.any fun z => PyData.eqv z d))) H) :
    wpAny (model X.prog X.w) X.A (compareOp (if neg then .NotIn else .In) v u) (EP X pins σ Q) X.xe s := by
  subst hp
  cases ry
  obtain ⟨bs, r1⟩ := Dp.reads I d x v hx rx
  have hxs : PyData.canLayAll0 ds = true := SeqAt.canLay_of_shaped se
  have hroom : X.A.units + 1 + min (PyData.depthAll ds) d.depth < cLine := PyProof.Rows.room_in_shaped sd hu
  rcases hq with hq | hq
  · obtain ⟨its, r, pl, hz⟩ := I.list hq
    obtain ⟨as, h4⟩ := Dp.readsAll I ds ys its hys r
    have he := SeqAt.items_eqAt (A := X.A) (s := s) (vs := its.toArray) (show ReadsAll s.heap its.toArray.toList ds as from h4) r1 hxs (SeqAt.canLay_of_shaped sd) hroom
    have ha := SeqAt.any_by_data (s := s) (vs := its.toArray) (d := d) (show ReadsAll s.heap its.toArray.toList ds as from h4) hxs
    cases neg with
    | false => exact SeqAt.in_listAt _ pl.isList he ⟨.bl _, H, I, rfl, by rw [ha]; exact q⟩
    | true => exact SeqAt.notIn_listAt _ pl.isList he ⟨.bl _, H, I, rfl, by rw [ha]; exact q⟩
  · obtain ⟨its, r, pl, hz⟩ := I.tuple hq
    obtain ⟨as, h4⟩ := Dp.readsAll I ds ys its hys r
    have he := SeqAt.items_eqAt (A := X.A) (s := s) (vs := its.toArray) (show ReadsAll s.heap its.toArray.toList ds as from h4) r1 hxs (SeqAt.canLay_of_shaped sd) hroom
    have ha := SeqAt.any_by_data (s := s) (vs := its.toArray) (d := d) (show ReadsAll s.heap its.toArray.toList ds as from h4) hxs
    cases neg with
    | false => exact SeqAt.in_tupleAt _ pl he ⟨.bl _, H, I, rfl, by rw [ha]; exact q⟩
    | true => exact SeqAt.notIn_tupleAt _ pl he ⟨.bl _, H, I, rfl, by rw [ha]; exact q⟩
theorem in_cases (hK : T.K = X.K) {ρ : List Addr} {st : Sto} {H : Hp} {a b : MV} {x y : V} {k : Bool} (S : Sim T ρ st H) (ra : RV T ρ H a x) (rb : RV T ρ H b y) (e : cIn st a b = some k) :
    (∃ p xs, y = .ref p ∧ (SqL X.K H p xs ∨ SqT X.K H p xs) ∧ flatV x = true ∧ xs.all flatV = true ∧ inV x xs = k) ∨
    (∃ p ys d ds, y = .ref p ∧ (SqL X.K H p ys ∨ SqT X.K H p ys) ∧ Dp X.K H x d ∧ DpAll X.K H ys ds ∧ SeqAt.shaped d = true ∧ SeqAt.shaped (.list ds) = true ∧ (ds.any fun z => PyData.eqv z d) = k) ∨
    ∃ i j, x = .str i ∧ y = .str j ∧ (!(Builtin.Str.occurrences j i 0 j.length 1).isEmpty) = k := by
  unfold cIn at e
  split at e
  · rename_i ys h
    obtain ⟨p, us, rfl, hq, r⟩ := seq_of S rb h
    rw [hK] at hq
    split at e
    · rename_i hf
      rw [Bool.and_eq_true] at hf
      cases e
      exact .inl ⟨p, us, rfl, hq, flat_of ra hf.1, flat_all r hf.2, flat_any ra hf.1 r hf.2⟩
    · unfold deepIn at e
      split at e
      · rename_i d es h1 h2
        split at e
        · rename_i hs
          cases e
          exact .inr (.inl ⟨p, us, d, es, rfl, hq, hK ▸ dp_of S 30 a x d ra h1, hK ▸ dp_all (dp_of S 30) r h2, hs.1, hs.2, rfl⟩)
        · cases e
      · cases e
  · split at e
    · cases e
      cases ra; cases rb
      exact .inr (.inr ⟨_, _, rfl, rfl, rfl⟩)
    · cases e
theorem oc_in (hK : T.K = X.K) (hu : X.A.units + 65 < cLine) : OpR X (compareOp .In) (rP T cIn) := by
  intro pins s σ H x y v u Q I rx ry ⟨ρ, st, a, b, k, S, ra, rb, e, q⟩
  rcases in_cases (X := X) hK S ra rb e with ⟨p, xs, h1, h2, h3, h4, rfl⟩ | ⟨p, ys, d, ds, h1, h2, h3, h4, h5, h6, rfl⟩ | ⟨i, j, h1, h2, rfl⟩
  · exact op_in_seq pins s σ H x y v u Q I rx ry ⟨p, xs, h1, h2, h3, h4, q⟩
  · exact deep_in (hu := hu) false I rx ry h1 h2 h3 h4 h5 h6 q
  · exact op_in_str pins s σ H x y v u Q I rx ry ⟨i, j, h1, h2, q⟩
theorem oc_nin (hK : T.K = X.K) (hu : X.A.units + 65 < cLine) : OpR X (compareOp .NotIn) (rP T cNin) := by
  intro pins s σ H x y v u Q I rx ry ⟨ρ, st, a, b, k, S, ra, rb, e, q⟩
  unfold cNin at e
  cases e1 : cIn st a b with
  | none => rw [e1] at e; cases e
  | some k' =>
    rw [e1] at e; cases e
    rcases in_cases (X := X) hK S ra rb e1 with ⟨p, xs, h1, h2, h3, h4, rfl⟩ | ⟨p, ys, d, ds, h1, h2, h3, h4, h5, h6, rfl⟩ | ⟨i, j, h1, h2, rfl⟩
    · exact op_notIn_seq pins s σ H x y v u Q I rx ry ⟨p, xs, h1, h2, h3, h4, q⟩
    · exact deep_in (hu := hu) true I rx ry h1 h2 h3 h4 h5 h6 q
    · exact L2.op_notin_str pins s σ H x y v u Q I rx ry ⟨i, j, h1, h2, q⟩
end
end Z

namespace Z
open PySem L2

/-! ### lists made: inline (fr), or a new cell -/
def mkList (fr : Bool) (xs : List MV) : M MV := fun s => if fr = true then .ok (.lst xs) s else .ok (.ref s.length) (s ++ [.lst xs])
section
variable {X : Cx} {T : Tx} {W : WX} {ρ : List Addr} {H : Hp} {st : Sto} {σ : St}
theorem mk_out {fr : Bool} {xs : List MV} {vs : List V} {Q : VK} (S : Sim T ρ st H) (h : Out T W (RV T) ρ H σ (mkList fr xs st) Q) (r : RVs T ρ H xs vs) : ∀ p, H p = none → Q (.ref p) (upd H p (.lst vs)) := fun p hp => by
  unfold mkList at h
  cases fr with
  | true =>
    rw [if_pos rfl] at h
    have F := S.fresh (o := .lst vs) hp
    exact h _ _ _ F ⟨p, vs, rfl, S.free hp, upd_same, r.later F.lat⟩
  | false =>
    rw [if_neg (by decide)] at h
    have F := S.push (c := .lst xs) (o := .lst vs) hp fun ρ' H' L => ⟨vs, rfl, r.later L⟩
    refine h _ _ _ F ⟨p, ?_, rfl⟩
    rw [← S.len]; simp
theorem tup_out {xs : List MV} {vs : List V} {Q : VK} (S : Sim T ρ st H) (h : Out T W (RV T) ρ H σ (M.ret (.tup xs) st) Q) (r : RVs T ρ H xs vs) : ∀ p, H p = none → Q (.ref p) (upd H p (.tup vs)) := fun p hp => by
  have F := S.fresh (o := .tup vs) hp
  exact h _ _ _ F ⟨p, vs, rfl, .inl ⟨S.free hp, .inl upd_same⟩, r.later F.lat⟩
end

/-! ### displays -/
def mNil : Ev → M (List MV) := fun _ => M.ret []
def mCons (m : Ev → M MV) (r : Ev → M (List MV)) : Ev → M (List MV) := fun env => M.bnd (m env) fun x => M.bnd (r env) fun xs => M.ret (x :: xs)
def mTup (as : Ev → M (List MV)) : Ev → M MV := fun env => M.bnd (as env) fun xs => if xs.length ≤ line then M.ret (.tup xs) else fun _ => .bad
def mLst (fr : Bool) (as : Ev → M (List MV)) : Ev → M MV := fun env => M.bnd (as env) fun xs => if xs.length ≤ line then mkList fr xs else fun _ => .bad
section
variable {X : Cx} {T : Tx} {W : WX} {ma mb mc : Ev → M MV} {as : Ev → M (List MV)} {a b c e : Expr} {es : List Expr} {pos : Pos}
theorem a_nil : PA X [] (tA T W mNil) := pa_mono pa_nil fun σ H Q h => by
  obtain ⟨ρ, st, env, S, E, h⟩ := h
  exact h ρ H [] (Fut.refl S) rfl
theorem a_cons (ha : PE X e (tE T W ma)) (hr : PA X es (tA T W as)) (hs : starEach (e :: es) X.env = (false, eval e X.env) :: starEach es X.env := by rfl) : PA X (e :: es) (tA T W (mCons ma as)) :=
  pa_mono (pa_cons ha hr hs) fun σ H Q h => by
    obtain ⟨ρ, st, env, S, E, h⟩ := h
    refine ⟨ρ, st, env, S, E, h.bnd.imp fun x H1 ⟨ρ1, s1, a, F1, r1, q1⟩ => ?_⟩
    refine ⟨ρ1, s1, env, F1.sim, E.later F1.lat, (Out.bnd q1).imp fun xs H2 ⟨ρ2, s2, as, F2, r2, q2⟩ => ?_⟩
    exact q2 ρ2 H2 _ (Fut.refl F2.sim) ⟨x, xs, rfl, r1.later F2.lat, r2⟩
theorem v_tup {k : Nat} (h : PA X es (tA T W as)) : PE X (.Tuple es k pos) (tE T W (mTup as)) := pe_mono (pe_tup h) fun σ H Q h => by
  obtain ⟨ρ, st, env, S, E, h⟩ := h
  refine ⟨ρ, st, env, S, E, h.bnd.imp fun vs H1 ⟨ρ1, s1, xs, F1, r1, q1⟩ => ?_⟩
  split at q1
  · rename_i hl
    exact ⟨by rw [← r1.length]; exact line_le hl, tup_out F1.sim q1 r1⟩
  · exact q1.elim
theorem v_lst (fr : Bool) (h : PA X es (tA T W as)) : PE X (.List es pos) (tE T W (mLst fr as)) := pe_mono (pe_lst h) fun σ H Q h => by
  obtain ⟨ρ, st, env, S, E, h⟩ := h
  refine ⟨ρ, st, env, S, E, h.bnd.imp fun vs H1 ⟨ρ1, s1, xs, F1, r1, q1⟩ => ?_⟩
  split at q1
  · rename_i hl
    exact ⟨by rw [← r1.length]; exact line_le hl, mk_out F1.sim q1 r1⟩
  · exact q1.elim
end

/-! ### places -/
def ixF (s : Sto) : MV → MV → Option MV
  | .str z, .int i => if z.length ≤ line then (atI z.cps.toList i).map fun c => .str ⟨#[c]⟩ else none
  | x, .int i => match seqOf s x with
    | some xs => atI xs i
    | none => none
  | _, _ => none
theorem atI_rel {T : Tx} {ρ : List Addr} {H : Hp} {xs : List MV} {vs : List V} {i : Int} {m : MV} (r : RVs T ρ H xs vs) (h : atI xs i = some m) : ∃ v, atI vs i = some v ∧ RV T ρ H m v := by
  unfold atI at h ⊢
  rw [← r.length]
  cases e : ixN xs.length i with
  | none => rw [e] at h; cases h
  | some j =>
    rw [e] at h
    exact r.get h
section
variable {X : Cx} {T : Tx} {W : WX} {ma mb mc : Ev → M MV} {a b c e : Expr} {pos p2 : Pos}
theorem ix_ok (hK : T.K = X.K) : IxR X (rB T ixF) := by
  intro value slice pins s σ H x y v u Q I rx ry ⟨ρ, st, a, b, w, S, ra, rb, e, q⟩ hp
  have seq : ∀ {xs : List MV} {i : Int}, seqOf st a = some xs → b = .int i → atI xs i = some w → wpAny (model X.prog X.w) X.A (PyProof.Rows.subscriptTail value slice v u) (EP X pins σ Q) X.xe s := fun {xs i} h1 h2 h3 => by
    subst h2
    obtain ⟨p, ys, rfl, hq, r⟩ := seq_of S ra h1
    obtain ⟨z, hz, rz⟩ := atI_rel r h3
    rw [hK] at hq
    rcases hq with hq | hq
    · exact ix_list value slice pins s σ H _ y v u Q I rx ry ⟨p, ys, i, z, rfl, rb, hq, hz, q H z (Fut.refl S) rz⟩ hp
    · exact ix_tup value slice pins s σ H _ y v u Q I rx ry ⟨p, ys, i, z, rfl, rb, hq, hz, q H z (Fut.refl S) rz⟩ hp
  unfold ixF at e
  split at e
  · split at e
    · rename_i z i hl
      cases h : atI z.cps.toList i with
      | none => rw [h] at e; cases e
      | some c =>
        rw [h] at e; cases e
        exact ix_str value slice pins s σ H x y v u Q I rx ry ⟨z, i, c, ra, rb, line_le hl, h, q H _ (Fut.refl S) rfl⟩ hp
    · cases e
  · split at e
    · rename_i xs h
      exact seq h rfl e
    · cases e
  · cases e
def mIx (ma mb : Ev → M MV) : Ev → M MV := mBin ixF ma mb
theorem v_ix (hK : T.K = X.K) (ha : PE X a (tE T W ma)) (hb : PE X b (tE T W mb)) (hs : PlainIx b := by intro _ _; rfl) : PE X (.Subscript a b pos) (tE T W (mIx ma mb)) := pe_mono (pe_ix (ix_ok hK) ha hb hs) fun σ H Q h => bin_red h
/-! slices -/
def mNoPart : Ev → M (Option Int) := fun _ => M.ret none
def mPart (m : Ev → M MV) : Ev → M (Option Int) := fun env => M.bnd (m env) fun x => match x with
  | .int i => M.ret (some i)
  | _ => fun _ => .bad
abbrev relO : List Addr → Hp → Option Int → Option Int → Prop := fun _ _ a b => a = b
abbrev tO (T : Tx) (W : WX) (m : Ev → M (Option Int)) : TO := tG T W relO m
theorem po_mono {o : Option Expr} {t t' : TO} (h : PO X o t) (q : ∀ σ H Q, t' σ H Q → t σ H Q) : PO X o t' := ⟨fun pins s σ H Q I z => h.run pins s σ H Q I (q σ H Q z)⟩
theorem o_none : PO X none (tO T W mNoPart) := po_mono po_none fun σ H Q h => by
  obtain ⟨ρ, st, env, S, E, h⟩ := h
  exact h ρ H none (Fut.refl S) rfl
theorem o_some (h : PE X e (tE T W ma)) : PO X (some e) (tO T W (mPart ma)) := po_mono (po_some h) fun σ H Q h => by
  obtain ⟨ρ, st, env, S, E, h⟩ := h
  refine ⟨ρ, st, env, S, E, h.bnd.imp fun x H1 ⟨ρ1, s1, a, F1, r1, q1⟩ => ?_⟩
  cases a with
  | int i => cases r1; exact ⟨i, rfl, q1 ρ1 H1 _ (Fut.refl F1.sim) rfl⟩
  | _ => exact False.elim q1
def cutM (xs : List MV) (lo hi : Option Int) : List MV := (xs.drop (HT.sIx xs.length 0 lo)).take (HT.sIx xs.length xs.length hi - HT.sIx xs.length 0 lo)
theorem cut_rel {ρ : List Addr} {H : Hp} {xs : List MV} {vs : List V} (r : RVs T ρ H xs vs) (lo hi : Option Int) : RVs T ρ H (cutM xs lo hi) (cutV vs lo hi) := by
  unfold cutM cutV
  rw [r.length]
  exact (r.drop _).take _
/-- a slice: of a text, a tuple, a list (fr: the new list inline) -/
def slF (fr : Bool) (x : MV) (lo hi : Option Int) : M MV := fun s => match x with
  | .str z => if z.length ≤ line then .ok (.str (cutS z lo hi)) s else .bad
  | .tup xs => .ok (.tup (cutM xs lo hi)) s
  | x => match seqOf s x with
    | some xs => mkList fr (cutM xs lo hi) s
    | none => .bad
def mSl (fr : Bool) (ma : Ev → M MV) (ml mh : Ev → M (Option Int)) : Ev → M MV := fun env => M.bnd (ma env) fun x => M.bnd (ml env) fun lo => M.bnd (mh env) fun hi => slF fr x lo hi
def rSl (T : Tx) (fr : Bool) : V → Option Int → Option Int → Hp → VK → Prop := fun x lo hi H Q => ∃ (W : WX) (σ : St) (ρ : List Addr) (st : Sto) (a : MV), Sim T ρ st H ∧ RV T ρ H a x ∧ Out T W (RV T) ρ H σ (slF fr a lo hi st) Q
theorem cut_whole {α : Type} {xs : List α} {lo hi : Option Int} (h : HT.sIx xs.length 0 lo = 0 ∧ HT.sIx xs.length xs.length hi = xs.length) : (xs.drop (HT.sIx xs.length 0 lo)).take (HT.sIx xs.length xs.length hi - HT.sIx xs.length 0 lo) = xs := by
  rw [h.1, h.2]; simp
theorem sl_ok (hK : T.K = X.K) {fr : Bool} : SlR X (rSl T fr) := by
  intro pins s σ H x v vl vu lo hi sl Q I rx hs pl pu ⟨W, σ', ρ, st, a, S, ra, h⟩
  have lst : ∀ {xs : List MV}, seqOf st a = some xs → Out T W (RV T) ρ H σ' (mkList fr (cutM xs lo hi) st) Q → (∀ ys, a ≠ .tup ys) → ∃ T id, typeLookup (.type T) "__getitem__" = pure (some (.builtin id)) ∧ s.TypeIs v T ∧ wpAny (model X.prog X.w) X.A (getItem v (.ref sl)) (EP X pins σ Q) X.xe s := fun {xs} e h nt => by
    have q : ∃ p ys, x = .ref p ∧ SqL T.K H p ys ∧ RVs T ρ H xs ys := by
      cases a with
      | tup zs => exact absurd rfl (nt zs)
      | frz zs =>
        cases e
        obtain ⟨p, ys, rfl, z, r⟩ := ra
        exact ⟨p, ys, rfl, z.sq, r⟩
      | lst zs =>
        obtain ⟨p, ys, rfl, z, r⟩ := list_of S ra e
        exact ⟨p, ys, rfl, SqL.of z, r⟩
      | ref n =>
        obtain ⟨p, ys, rfl, z, r⟩ := list_of S ra e
        exact ⟨p, ys, rfl, SqL.of z, r⟩
      | _ => cases e
    obtain ⟨p, ys, rfl, z, r⟩ := q
    exact sl_list pins s σ H _ v vl vu lo hi sl Q I rx hs pl pu ⟨p, ys, rfl, hK ▸ z, mk_out S h (cut_rel r lo hi)⟩
  unfold slF at h
  split at h
  · split at h
    · rename_i z hl
      exact sl_str pins s σ H x v vl vu lo hi sl Q I rx hs pl pu ⟨z, ra, line_le hl, h ρ H _ (Fut.refl S) rfl⟩
    · exact h.elim
  · rename_i xs
    obtain ⟨p, ys, rfl, z, r⟩ := ra
    refine sl_tupA pins s σ H _ v vl vu lo hi sl Q I rx hs pl pu ⟨p, ys, rfl, hK ▸ z.sq, fun hw => ?_, fun _ => tup_out (W := W) (σ := σ') S h (cut_rel r lo hi)⟩
    refine h ρ H _ (Fut.refl S) ⟨p, ys, rfl, z, ?_⟩
    have hw' : HT.sIx xs.length 0 lo = 0 ∧ HT.sIx xs.length xs.length hi = xs.length := by rw [r.length]; exact hw
    unfold cutM
    rw [cut_whole hw']
    exact r
  · rename_i n1 n2
    split at h
    · rename_i xs e
      exact lst e h (fun ys e2 => n2 ys e2)
    · exact h.elim
theorem v_sl (fr : Bool) (hK : T.K = X.K) {lo hi : Option Expr} {ml mh : Ev → M (Option Int)} (ha : PE X e (tE T W ma)) (hl : PO X lo (tO T W ml)) (hh : PO X hi (tO T W mh)) : PE X (.Subscript e (.Slice lo hi none p2) pos) (tE T W (mSl fr ma ml mh)) :=
  pe_mono (pe_slice (sl_ok (fr := fr) hK) ha hl hh) fun σ H Q h => by
    obtain ⟨ρ, st, env, S, E, h⟩ := h
    refine ⟨ρ, st, env, S, E, h.bnd.imp fun x H1 ⟨ρ1, s1, a, F1, r1, q1⟩ => ?_⟩
    refine ⟨ρ1, s1, env, F1.sim, E.later F1.lat, (Out.bnd q1).imp fun lo H2 ⟨ρ2, s2, lo', F2, r2, q2⟩ => ?_⟩
    subst r2
    refine ⟨ρ2, s2, env, F2.sim, E.later (F1.trans F2).lat, (Out.bnd q2).imp fun hi H3 ⟨ρ3, s3, hi', F3, r3, q3⟩ => ?_⟩
    subst r3
    exact ⟨W, σ, ρ3, s3, a, F3.sim, r1.later (F2.trans F3).lat, q3⟩
end

/-! ### calls of what is built in -/
def mCallF (f : Sto → List MV → Option MV) (as : Ev → M (List MV)) : Ev → M MV := fun env => M.bnd (as env) fun xs s => M.opt (f s xs) s
/-- .. that makes a list -/
def mCallL (fr : Bool) (f : Sto → List MV → Option (List MV)) (as : Ev → M (List MV)) : Ev → M MV := fun env => M.bnd (as env) fun xs s => match f s xs with
  | some ys => mkList fr ys s
  | none => .bad
def rF (T : Tx) (f : Sto → List MV → Option MV) : List V → Hp → VK → Prop := fun vs H Q => ∃ ρ st xs v, Sim T ρ st H ∧ RVs T ρ H xs vs ∧ f st xs = some v ∧ ∀ H' u, Fut T ρ H ρ st H' → RV T ρ H' v u → Q u H'
def rFL (T : Tx) (f : Sto → List MV → Option (List MV)) : List V → Hp → VK → Prop := fun vs H Q => ∃ ρ st xs ys, Sim T ρ st H ∧ RVs T ρ H xs vs ∧ f st xs = some ys ∧ ∀ us, RVs T ρ H ys us → ∀ p, H p = none → Q (.ref p) (upd H p (.lst us))
section
variable {X : Cx} {T : Tx} {W : WX} {as : Ev → M (List MV)} {e : Expr} {es : List Expr} {p pos : Pos} {x : Str} {id : String} {f : Sto → List MV → Option MV} {g : Sto → List MV → Option (List MV)}
theorem call_red {σ : St} {H : Hp} {Q : VK} (h : tE T W (mCallF f as) σ H Q) : tCB (rF T f) (tA T W as) σ H Q := by
  obtain ⟨ρ, st, env, S, E, h⟩ := h
  refine ⟨ρ, st, env, S, E, h.bnd.imp fun vs H1 ⟨ρ1, s1, xs, F1, r1, q1⟩ => ?_⟩
  obtain ⟨v, e, q⟩ := opt_out q1
  exact ⟨ρ1, s1, xs, v, F1.sim, r1, e, fun H' u F r => q ρ1 H' u F r⟩
theorem callL_red {fr : Bool} {σ : St} {H : Hp} {Q : VK} (h : tE T W (mCallL fr g as) σ H Q) : tCB (rFL T g) (tA T W as) σ H Q := by
  obtain ⟨ρ, st, env, S, E, h⟩ := h
  refine ⟨ρ, st, env, S, E, h.bnd.imp fun vs H1 ⟨ρ1, s1, xs, F1, r1, q1⟩ => ?_⟩
  split at q1
  · rename_i ys e
    exact ⟨ρ1, s1, xs, ys, F1.sim, r1, e, fun us r => mk_out F1.sim q1 r⟩
  · exact q1.elim
theorem v_callB (hc : CallR X (.builtin id) (rF T f)) (hv : bootBuiltins x = some (.builtin id)) (hm : X.mg x = none) (ha : PA X (e :: es) (tA T W as)) (hg : Gl X x := by rfl) (hn : x ≠ "__name__" := by decide) (hdb : (x == ("__debug__" : Str)) = false := by decide)
    (he : starEach (e :: es) X.env = (false, eval e X.env) :: starEach es X.env := by rfl) (hpl : (backTo pos (starEach es X.env)).any (·.1) = false := by rfl) : PE X (.Call (.Name x p) (e :: es) [] pos) (tE T W (mCallF f as)) :=
  pe_mono (pe_callB hc hg hm hv ha hn hdb he hpl) fun σ H Q h => call_red h
theorem v_callT (hc : CallR X (.type id) (rF T f)) (hv : bootBuiltins x = some (.type id)) (hm : X.mg x = none) (ha : PA X (e :: es) (tA T W as)) (hg : Gl X x := by rfl) (hn : x ≠ "__name__" := by decide) (hdb : (x == ("__debug__" : Str)) = false := by decide)
    (he : starEach (e :: es) X.env = (false, eval e X.env) :: starEach es X.env := by rfl) (hpl : (backTo pos (starEach es X.env)).any (·.1) = false := by rfl) : PE X (.Call (.Name x p) (e :: es) [] pos) (tE T W (mCallF f as)) :=
  pe_mono (pe_callTy hc hg hm hv ha hn hdb he hpl) fun σ H Q h => call_red h
theorem v_callBL (fr : Bool) (hc : CallR X (.builtin id) (rFL T g)) (hv : bootBuiltins x = some (.builtin id)) (hm : X.mg x = none) (ha : PA X (e :: es) (tA T W as)) (hg : Gl X x := by rfl) (hn : x ≠ "__name__" := by decide) (hdb : (x == ("__debug__" : Str)) = false := by decide)
    (he : starEach (e :: es) X.env = (false, eval e X.env) :: starEach es X.env := by rfl) (hpl : (backTo pos (starEach es X.env)).any (·.1) = false := by rfl) : PE X (.Call (.Name x p) (e :: es) [] pos) (tE T W (mCallL fr g as)) :=
  pe_mono (pe_callB hc hg hm hv ha hn hdb he hpl) fun σ H Q h => callL_red h
theorem v_callTL (fr : Bool) (hc : CallR X (.type id) (rFL T g)) (hv : bootBuiltins x = some (.type id)) (hm : X.mg x = none) (ha : PA X (e :: es) (tA T W as)) (hg : Gl X x := by rfl) (hn : x ≠ "__name__" := by decide) (hdb : (x == ("__debug__" : Str)) = false := by decide)
    (he : starEach (e :: es) X.env = (false, eval e X.env) :: starEach es X.env := by rfl) (hpl : (backTo pos (starEach es X.env)).any (·.1) = false := by rfl) : PE X (.Call (.Name x p) (e :: es) [] pos) (tE T W (mCallL fr g as)) :=
  pe_mono (pe_callTy hc hg hm hv ha hn hdb he hpl) fun σ H Q h => callL_red h
theorem v_callM (hc : CallR X (.builtin id) (rF T f)) (hm : X.mg x = some (.builtin id)) (ha : PA X (e :: es) (tA T W as)) (hg : Gl X x := by rfl) (hdb : (x == ("__debug__" : Str)) = false := by decide)
    (he : starEach (e :: es) X.env = (false, eval e X.env) :: starEach es X.env := by rfl) (hpl : (backTo pos (starEach es X.env)).any (·.1) = false := by rfl) : PE X (.Call (.Name x p) (e :: es) [] pos) (tE T W (mCallF f as)) :=
  pe_mono (pe_callBfun hc hg hm ha hdb he hpl) fun σ H Q h => call_red h
/-! what they do -/
def fLen (s : Sto) : List MV → Option MV
  | [.str z] => if z.length ≤ line then some (.int z.length) else none
  | [x] => (seqOf s x).map fun xs => .int xs.length
  | _ => none
theorem rvs1 {ρ : List Addr} {H : Hp} {m : MV} {vs : List V} (r : RVs T ρ H [m] vs) : ∃ v, vs = [v] ∧ RV T ρ H m v := by
  obtain ⟨v, us, rfl, r1, r2⟩ := r
  cases r2
  exact ⟨v, rfl, r1⟩
theorem rvs2 {ρ : List Addr} {H : Hp} {m n : MV} {vs : List V} (r : RVs T ρ H [m, n] vs) : ∃ v u, vs = [v, u] ∧ RV T ρ H m v ∧ RV T ρ H n u := by
  obtain ⟨v, us, rfl, r1, r2⟩ := r
  obtain ⟨u, rfl, r3⟩ := rvs1 r2
  exact ⟨v, u, rfl, r1, r3⟩
theorem ok_len (hK : T.K = X.K) : CallR X (.builtin "len") (rF T fLen) := by
  intro pins s σ H xs us Q I r ⟨ρ, st, ms, v, S, rm, e, q⟩
  unfold fLen at e
  split at e
  · split at e
    · rename_i hl
      cases e
      obtain ⟨w, rfl, r1⟩ := rvs1 rm
      cases r1
      exact call_len pins s σ H _ us Q I r ⟨_, _, rfl, ⟨line_le hl, rfl⟩, q H _ (Fut.refl S) rfl⟩
    · cases e
  · rename_i x _
    cases h : seqOf st x with
    | none => rw [h] at e; cases e
    | some ys =>
      rw [h] at e; cases e
      obtain ⟨w, rfl, r1⟩ := rvs1 rm
      obtain ⟨p, zs, rfl, hq, r2⟩ := seq_of S r1 h
      exact call_len_seq pins s σ H _ us Q I r ⟨p, zs, rfl, hK ▸ hq, by rw [← r2.length]; exact q H _ (Fut.refl S) rfl⟩
  · cases e
def fList (s : Sto) : List MV → Option (List MV)
  | [x] => seqOf s x
  | _ => none
theorem ok_list (hK : T.K = X.K) : CallR X (.type "list") (rFL T fList) := by
  intro pins s σ H xs us Q I r ⟨ρ, st, ms, ys, S, rm, e, q⟩
  unfold fList at e
  split at e
  · obtain ⟨w, rfl, r1⟩ := rvs1 rm
    obtain ⟨p, zs, rfl, hq, r2⟩ := seq_of S r1 e
    exact call_list_of pins s σ H _ us Q I r ⟨p, zs, rfl, hK ▸ hq, q zs r2⟩
  · cases e
def fTuple (s : Sto) : List MV → Option MV
  | [.tup xs] => some (.tup xs)
  | [x] => (seqOf s x).map .tup
  | _ => none
theorem ok_tuple (hK : T.K = X.K) : CallR X (.type "tuple") (rF T fTuple) := by
  intro pins s σ H xs us Q I r ⟨ρ, st, ms, v, S, rm, e, q⟩
  unfold fTuple at e
  split at e
  · cases e
    obtain ⟨w, rfl, r1⟩ := rvs1 rm
    obtain ⟨a, ys, rfl, z, r2⟩ := id r1
    exact call_tuple_of pins s σ H _ us Q I r ⟨a, ys, rfl, .inr ⟨hK ▸ z.sq, q H _ (Fut.refl S) r1⟩⟩
  · rename_i x nt
    cases h : seqOf st x with
    | none => rw [h] at e; cases e
    | some ys =>
      rw [h] at e; cases e
      obtain ⟨w, rfl, r1⟩ := rvs1 rm
      have z : ∃ p zs, w = .ref p ∧ SqL T.K H p zs ∧ RVs T ρ H ys zs := by
        cases x with
        | tup zs => exact absurd rfl (nt zs)
        | frz zs =>
          cases h
          obtain ⟨p, us, rfl, z, r⟩ := r1
          exact ⟨p, us, rfl, z.sq, r⟩
        | lst zs => obtain ⟨p, us, rfl, z, r⟩ := list_of S r1 h; exact ⟨p, us, rfl, SqL.of z, r⟩
        | ref n => obtain ⟨p, us, rfl, z, r⟩ := list_of S r1 h; exact ⟨p, us, rfl, SqL.of z, r⟩
        | _ => cases h
      obtain ⟨p, zs, rfl, hq, r2⟩ := z
      exact call_tuple_of pins s σ H _ us Q I r ⟨p, zs, rfl, .inl ⟨hK ▸ hq, q_new S q fun p' H' n hp L => ⟨p', _, rfl, .inl ⟨n, .inl hp⟩, r2.later L⟩⟩⟩
  · cases e
def fInt (_ : Sto) : List MV → Option MV
  | [.int i] => some (.int i)
  | [.bl b] => some (.int (if b then 1 else 0))
  | _ => none
theorem ok_int : CallR X (.type "int") (rF T fInt) := by
  intro pins s σ H xs us Q I r ⟨ρ, st, ms, v, S, rm, e, q⟩
  unfold fInt at e
  split at e
  · cases e
    obtain ⟨w, rfl, r1⟩ := rvs1 rm
    cases r1
    exact call_int1 pins s σ H _ us Q I r (.inl ⟨_, rfl, q H _ (Fut.refl S) rfl⟩)
  · cases e
    obtain ⟨w, rfl, r1⟩ := rvs1 rm
    cases r1
    exact call_int1 pins s σ H _ us Q I r (.inr ⟨_, rfl, q H _ (Fut.refl S) rfl⟩)
  · cases e
def fStrI (_ : Sto) : List MV → Option MV
  | [.int i] => if i.natAbs.log2 < 1920 then some (.str (toString i)) else none
  | _ => none
theorem ok_strI : CallR X (.type "str") (rF T fStrI) := by
  intro pins s σ H xs us Q I r ⟨ρ, st, ms, v, S, rm, e, q⟩
  unfold fStrI at e
  split at e
  · split at e
    · rename_i hl
      cases e
      obtain ⟨w, rfl, r1⟩ := rvs1 rm
      cases r1
      exact call_str_int pins s σ H _ us Q I r ⟨_, rfl, hl, q H _ (Fut.refl S) rfl⟩
    · cases e
  · cases e
def fAbs (_ : Sto) : List MV → Option MV
  | [.int i] => some (.int i.natAbs)
  | _ => none
theorem ok_abs : CallR X (.builtin "abs") (rF T fAbs) := by
  intro pins s σ H xs us Q I r ⟨ρ, st, ms, v, S, rm, e, q⟩
  unfold fAbs at e
  split at e
  · rename_i i
    cases e
    obtain ⟨w, rfl, r1⟩ := rvs1 rm
    cases r1
    have e1 : (if i < 0 then -i else i) = (i.natAbs : Int) := by split <;> omega
    exact call_abs pins s σ H _ us Q I r ⟨_, rfl, by rw [e1]; exact q H _ (Fut.refl S) rfl⟩
  · cases e
def fMax (_ : Sto) : List MV → Option MV
  | [.int i, .int j] => some (.int (if j > i then j else i))
  | _ => none
def fMin (_ : Sto) : List MV → Option MV
  | [.int i, .int j] => some (.int (if j < i then j else i))
  | _ => none
theorem ok_max (hc : X.calm = true) : CallR X (.builtin "max") (rF T fMax) := by
  intro pins s σ H xs us Q I r ⟨ρ, st, ms, v, S, rm, e, q⟩
  unfold fMax at e
  split at e
  · cases e
    obtain ⟨w, w', rfl, r1, r2⟩ := rvs2 rm
    cases r1; cases r2
    exact call_max2 hc pins s σ H _ us Q I r ⟨_, _, rfl, q H _ (Fut.refl S) rfl⟩
  · cases e
theorem ok_min (hc : X.calm = true) : CallR X (.builtin "min") (rF T fMin) := by
  intro pins s σ H xs us Q I r ⟨ρ, st, ms, v, S, rm, e, q⟩
  unfold fMin at e
  split at e
  · cases e
    obtain ⟨w, w', rfl, r1, r2⟩ := rvs2 rm
    cases r1; cases r2
    exact call_min2 hc pins s σ H _ us Q I r ⟨_, _, rfl, q H _ (Fut.refl S) rfl⟩
  · cases e
def fGcd (_ : Sto) : List MV → Option MV
  | [.int i, .int j] => some (.int (Nat.gcd i.natAbs j.natAbs : Nat))
  | _ => none
theorem ok_gcd : CallR X (.builtin "math.gcd") (rF T fGcd) := by
  intro pins s σ H xs us Q I r ⟨ρ, st, ms, v, S, rm, e, q⟩
  unfold fGcd at e
  split at e
  · cases e
    obtain ⟨w, w', rfl, r1, r2⟩ := rvs2 rm
    cases r1; cases r2
    exact cr_gcd pins s σ H _ us Q I r ⟨_, _, rfl, q H _ (Fut.refl S) rfl⟩
  · cases e
end
end Z

namespace Z
open PySem L2

/-! ### statements -/
inductive Fl where
  | nx (e : Ev) (s : Sto) | rt (v : MV) (s : Sto) | bk (e : Ev) (s : Sto) | ct (e : Ev) (s : Sto) | ex (e : Ev) (c : Nat) (fs : List (Nat × MV)) (s : Sto) | bad
abbrev MS := Ev → Sto → Fl
def OutS (T : Tx) (W : WX) (ρ : List Addr) (H : Hp) (D : Ends) : Fl → Prop
  | .nx e s => ∀ ρ' H' σ', Fut T ρ H ρ' s H' → REnv T ρ' H' e σ' → D.nx σ' H'
  | .rt v s => ∀ ρ' H' u, Fut T ρ H ρ' s H' → RV T ρ' H' v u → D.rt u H'
  | .bk e s => ∀ ρ' H' σ', Fut T ρ H ρ' s H' → REnv T ρ' H' e σ' → D.bk σ' H'
  | .ct e s => ∀ ρ' H' σ', Fut T ρ H ρ' s H' → REnv T ρ' H' e σ' → D.ct σ' H'
  | .ex e c fs s => ∀ ρ' H' σ' cl d, Fut T ρ H ρ' s H' → REnv T ρ' H' e σ' → RX T ρ' H' c fs cl d → W cl d σ' H'
  | .bad => False
def tS (T : Tx) (W : WX) (m : MS) : TS := fun D σ H => ∃ ρ st env, Sim T ρ st H ∧ REnv T ρ H env σ ∧ OutS T W ρ H D (m env st)
/-- an expression, then -/
def bndS {α : Type} (m : M α) (env : Ev) (f : α → Sto → Fl) : Sto → Fl := fun st => match m st with
  | .ok a t => f a t
  | .ex c fs t => .ex env c fs t
  | .bad => .bad
section
variable {T : Tx} {W : WX} {ρ ρ' ρ1 : List Addr} {H H' H1 : Hp} {σ : St} {st s1 : Sto} {α β : Type} {D : Ends} {env : Ev}
theorem OutS.fut {r : Fl} (F : Fut T ρ H ρ1 s1 H1) (h : OutS T W ρ H D r) : OutS T W ρ1 H1 D r := by
  cases r with
  | nx e s => exact fun ρ' H' σ' F' r => h ρ' H' σ' (F.trans F') r
  | rt v s => exact fun ρ' H' σ' F' r => h ρ' H' σ' (F.trans F') r
  | bk e s => exact fun ρ' H' σ' F' r => h ρ' H' σ' (F.trans F') r
  | ct e s => exact fun ρ' H' σ' F' r => h ρ' H' σ' (F.trans F') r
  | ex e c fs s => exact fun ρ' H' σ' cl d F' r => h ρ' H' σ' cl d (F.trans F') r
  | bad => exact h
theorem OutS.bnd {rel : List Addr → Hp → α → β → Prop} {m : M α} {f : α → Sto → Fl} (E : REnv T ρ H env σ) (h : OutS T W ρ H D (bndS m env f st)) :
    Out T W rel ρ H σ (m st) (fun b H1 => ∃ ρ1 s1 a, Fut T ρ H ρ1 s1 H1 ∧ rel ρ1 H1 a b ∧ OutS T W ρ1 H1 D (f a s1)) := by
  unfold bndS at h
  cases e : m st with
  | ok a t =>
    rw [e] at h
    exact fun ρ1 H1 b F r => ⟨ρ1, t, a, F, r, h.fut F⟩
  | ex c fs t =>
    rw [e] at h
    exact fun ρ' H' cl d F r => h ρ' H' σ cl d F (E.later F.lat) r
  | bad =>
    rw [e] at h
    exact h
/-- another end -/
theorem OutS.ends {r : Fl} {D' : Ends} (h : OutS T W ρ H D r) (h1 : ∀ e s ρ' H' σ', r = .nx e s → Fut T ρ H ρ' s H' → REnv T ρ' H' e σ' → D.nx σ' H' → D'.nx σ' H') (h2 : ∀ u H', D.rt u H' → D'.rt u H')
    (h3 : ∀ e s ρ' H' σ', r = .bk e s → Fut T ρ H ρ' s H' → REnv T ρ' H' e σ' → D.bk σ' H' → D'.bk σ' H') (h4 : ∀ e s ρ' H' σ', r = .ct e s → Fut T ρ H ρ' s H' → REnv T ρ' H' e σ' → D.ct σ' H' → D'.ct σ' H') : OutS T W ρ H D' r := by
  cases r with
  | nx e s => exact fun ρ' H' σ' F' r => h1 e s ρ' H' σ' rfl F' r (h ρ' H' σ' F' r)
  | rt v s => exact fun ρ' H' σ' F' r => h2 _ _ (h ρ' H' σ' F' r)
  | bk e s => exact fun ρ' H' σ' F' r => h3 e s ρ' H' σ' rfl F' r (h ρ' H' σ' F' r)
  | ct e s => exact fun ρ' H' σ' F' r => h4 e s ρ' H' σ' rfl F' r (h ρ' H' σ' F' r)
  | ex e c fs s => exact h
  | bad => exact h
end

def sSeq (a b : MS) : MS := fun env st => match a env st with
  | .nx e s => b e s
  | .rt v s => .rt v s
  | .bk e s => .bk e s
  | .ct e s => .ct e s
  | .ex e c fs s => .ex e c fs s
  | .bad => .bad
def sNil : MS := fun env st => .nx env st
def sBreak : MS := fun env st => .bk env st
def sCont : MS := fun env st => .ct env st
def sAsg (i : Nat) (m : Ev → M MV) : MS := fun env => bndS (m env) env fun v s => .nx (env.set i (some v)) s
def sExpr (m : Ev → M MV) : MS := fun env => bndS (m env) env fun _ s => .nx env s
def sRet (m : Ev → M MV) : MS := fun env => bndS (m env) env fun v s => .rt v s
def sRetN : MS := fun _ s => .rt .non s
def sIf (m : Ev → M Bool) (a b : MS) : MS := fun env => bndS (m env) env fun k s => if k = true then a env s else b env s
section
variable {X : Cx} {T : Tx} {W : WX} {ma mb mc : Ev → M MV} {m : Ev → M Bool} {a b : MS} {st : Stmt} {rest sa sb : List Stmt} {e c : Expr} {pos pos' : Pos}
theorem s_nil : PSs X [] (tS T W sNil) := pss_mono pss_nil fun D σ H ⟨ρ, st, env, S, E, h⟩ => h ρ H σ (Fut.refl S) E
theorem s_cons (h1 : PS X st (tS T W a)) (h2 : PSs X rest (tS T W b)) : PSs X (st :: rest) (tS T W (sSeq a b)) := pss_mono (pss_cons h1 h2) fun D σ H ⟨ρ, st, env, S, E, h⟩ => by
  refine ⟨ρ, st, env, S, E, ?_⟩
  unfold sSeq at h
  cases r : a env st with
  | nx e s =>
    rw [r] at h
    exact fun ρ' H' σ' F E' => ⟨ρ', s, e, F.sim, E', h.fut F⟩
  | rt v s => rw [r] at h; exact h
  | bk e s => rw [r] at h; exact h
  | ct e s => rw [r] at h; exact h
  | ex e c fs s => rw [r] at h; exact h
  | bad => rw [r] at h; exact h
theorem s_one (h1 : PS X st (tS T W a)) : PSs X [st] (tS T W a) := pss_one h1
theorem s_pass : PS X (.Pass pos) (tS T W sNil) := ps_mono ps_pass fun D σ H ⟨ρ, st, env, S, E, h⟩ => h ρ H σ (Fut.refl S) E
theorem s_break : PS X (.Break pos) (tS T W sBreak) := ps_mono ps_break fun D σ H ⟨ρ, st, env, S, E, h⟩ => h ρ H σ (Fut.refl S) E
theorem s_continue : PS X (.Continue pos) (tS T W sCont) := ps_mono ps_continue fun D σ H ⟨ρ, st, env, S, E, h⟩ => h ρ H σ (Fut.refl S) E
theorem s_set {x : Str} (i : Nat) (hN : X.N.Nodup) (he : PE X e (tE T W ma)) (hi : X.N[i]? = some x := by rfl) (hx : Loc X.env.scope x := by first | exact .inl rfl | exact .inr rfl) (hs : swapsWith e (some (.Name x pos')) pos.line X.env = pure false := by rfl)
    (hf : X.fn x = true ∨ X.env.scope.names.lookup x = some .local := by first | exact .inl rfl | exact .inr rfl | assumption) : PS X (.Assign [.Name x pos'] e pos) (tS T W (sAsg i ma)) :=
  ps_mono (ps_set hN hi hx he hs hf) fun D σ H ⟨ρ, st, env, S, E, h⟩ => ⟨ρ, st, env, S, E, (OutS.bnd E h).imp fun v H1 ⟨ρ1, s1, m, F1, r1, q1⟩ => q1 ρ1 H1 _ (Fut.refl F1.sim) ((E.later F1.lat).set r1 i)⟩
theorem s_expr (he : PE X e (tE T W ma)) (hs : swapsWith e none pos.line X.env = pure false := by rfl) : PS X (.Expr e pos) (tS T W (sExpr ma)) :=
  ps_mono (ps_expr he hs) fun D σ H ⟨ρ, st, env, S, E, h⟩ => ⟨ρ, st, env, S, E, (OutS.bnd E h).imp fun v H1 ⟨ρ1, s1, m, F1, r1, q1⟩ => q1 ρ1 H1 _ (Fut.refl F1.sim) (E.later F1.lat)⟩
theorem s_doc {x j} : PS X (.Expr (.Constant (.str x) j pos) pos') (tS T W sNil) := ps_mono ps_doc fun D σ H ⟨ρ, st, env, S, E, h⟩ => h ρ H σ (Fut.refl S) E
theorem s_ret (he : PE X e (tE T W ma)) : PS X (.Return (some e) pos) (tS T W (sRet ma)) :=
  ps_mono (ps_ret he) fun D σ H ⟨ρ, st, env, S, E, h⟩ => ⟨ρ, st, env, S, E, (OutS.bnd E h).imp fun v H1 ⟨ρ1, s1, m, F1, r1, q1⟩ => q1 ρ1 H1 _ (Fut.refl F1.sim) r1⟩
theorem s_retN : PS X (.Return none pos) (tS T W sRetN) := ps_mono ps_retN fun D σ H ⟨ρ, st, env, S, E, h⟩ => h ρ H .non (Fut.refl S) rfl
theorem s_if (hc : PT X c (tT T W m)) (ha : PSs X sa (tS T W a)) (hb : PSs X sb (tS T W b)) : PS X (.If c sa sb pos) (tS T W (sIf m a b)) :=
  ps_mono (ps_if hc ha hb) fun D σ H ⟨ρ, st, env, S, E, h⟩ => ⟨ρ, st, env, S, E, (OutS.bnd E h).imp fun k H1 ⟨ρ1, s1, k', F1, r1, q1⟩ => by
    subst r1
    cases k' with
    | true => rw [if_pos rfl] at q1; exact ⟨ρ1, s1, env, F1.sim, E.later F1.lat, q1⟩
    | false => rw [if_neg (by decide)] at q1; exact ⟨ρ1, s1, env, F1.sim, E.later F1.lat, q1⟩⟩
end

/-! ### targets -/
abbrev MG := MV → Ev → M Ev
abbrev MGs := List MV → Ev → M Ev
/-- vs: the slots that it may store -/
def OutG (T : Tx) (vs : List Nat) (σ : St) (ρ : List Addr) (H : Hp) (r : R Ev) (Q : St → Hp → Prop) : Prop := match r with
  | .ok e s => ∀ ρ' H' σ', Fut T ρ H ρ' s H' → REnv T ρ' H' e σ' → wipe σ' vs = wipe σ vs → Q σ' H'
  | _ => False
def tTg (T : Tx) (vs : List Nat) (g : MG) : TG := fun v σ H Q => ∃ ρ st env m, Sim T ρ st H ∧ REnv T ρ H env σ ∧ RV T ρ H m v ∧ OutG T vs σ ρ H (g m env st) Q
def tTgs (T : Tx) (vs : List Nat) (g : MGs) : TGs := fun us σ H Q => ∃ ρ st env ms, Sim T ρ st H ∧ REnv T ρ H env σ ∧ RVs T ρ H ms us ∧ OutG T vs σ ρ H (g ms env st) Q
theorem wipe_set {σ : St} {i : Nat} {o : Option V} : ∀ {vs : List Nat}, i ∈ vs → wipe (σ.set i o) vs = wipe σ vs
  | [], h => by simp at h
  | v :: vs, h => by
    show (wipe (σ.set i o) vs).set v none = (wipe σ vs).set v none
    by_cases hi : i ∈ vs
    · rw [wipe_set hi]
    · have e : i = v := by rcases List.mem_cons.mp h with h | h; exact h; exact absurd h hi
      subst e
      have go : ∀ us : List Nat, i ∉ us → wipe (σ.set i o) us = (wipe σ us).set i o := fun us => by
        induction us with
        | nil => intro _; rfl
        | cons u us ih =>
          intro hn
          have hu : i ≠ u := fun z => hn (z ▸ List.mem_cons_self)
          show (wipe (σ.set i o) us).set u none = ((wipe σ us).set u none).set i o
          rw [ih fun z => hn (List.mem_cons_of_mem _ z), List.set_comm _ _ hu]
      rw [go vs hi, List.set_set]
theorem wipe_wipe {σ : St} : ∀ {vs : List Nat}, wipe (wipe σ vs) vs = wipe σ vs := fun {vs} => by
  have go : ∀ us : List Nat, (∀ u ∈ us, u ∈ vs) → wipe (wipe σ us) vs = wipe σ vs := fun us => by
    induction us with
    | nil => intro _; rfl
    | cons u us ih =>
      intro h
      show wipe ((wipe σ us).set u none) vs = _
      rw [wipe_set (h u List.mem_cons_self)]
      exact ih fun x hx => h x (List.mem_cons_of_mem _ hx)
  exact go vs fun _ h => h
def tgName (i : Nat) : MG := fun v env s => .ok (env.set i (some v)) s
def tgNil : MGs := fun vs env s => match vs with
  | [] => .ok env s
  | _ => .bad
def tgCons (g : MG) (r : MGs) : MGs := fun vs env s => match vs with
  | v :: vs => match g v env s with
    | .ok e t => r vs e t
    | _ => .bad
  | [] => .bad
def tgTup (n : Nat) (g : MGs) : MG := fun v env s => match v with
  | .tup xs => if xs.length = n then g xs env s else .bad
  | _ => .bad
section
variable {X : Cx} {T : Tx} {W : WX} {ma mb mc : Ev → M MV} {e o i tg : Expr} {es : List Expr} {pos pos' : Pos} {g : MG} {gs : MGs} {ρ ρ1 : List Addr} {H H1 : Hp} {s1 : Sto} {vs : List Nat} {σ σ1 : St}
theorem OutG.fut {r : R Ev} {Q : St → Hp → Prop} (F : Fut T ρ H ρ1 s1 H1) (hw : wipe σ1 vs = wipe σ vs) (h : OutG T vs σ ρ H r Q) : OutG T vs σ1 ρ1 H1 r Q := by
  cases r with
  | ok e s => exact fun ρ' H' σ' F' r w => h ρ' H' σ' (F.trans F') r (w.trans hw)
  | ex c fs s => exact h
  | bad => exact h
theorem pg_mono {t t' : TG} (h : PG X tg t) (q : ∀ v σ H Q, t' v σ H Q → t v σ H Q) : PG X tg t' := ⟨fun pins s σ H v u Q I r z => h.run pins s σ H v u Q I r (q v σ H Q z)⟩
theorem pgs_mono {t t' : TGs} (h : PGs X es t) (q : ∀ v σ H Q, t' v σ H Q → t v σ H Q) : PGs X es t' := ⟨fun pins s σ H v u Q I r z => h.run pins s σ H v u Q I r (q v σ H Q z)⟩
theorem g_name {x : Str} (i : Nat) (hN : X.N.Nodup) (hi : X.N[i]? = some x := by rfl) (hx : Loc X.env.scope x := by first | exact .inl rfl | exact .inr rfl) (hf : X.fn x = true ∨ X.env.scope.names.lookup x = some .local := by first | exact .inl rfl | exact .inr rfl | assumption) (hv : i ∈ vs := by decide) :
    PG X (.Name x pos) (tTg T vs (tgName i)) := pg_mono (pg_name hN hi hx hf) fun v σ H Q ⟨ρ, st, env, m, S, E, r, h⟩ => h ρ H _ (Fut.refl S) (E.set r i) (wipe_set hv)
theorem gs_nil : PGs X [] (tTgs T vs tgNil) := pgs_mono pgs_nil fun us σ H Q ⟨ρ, st, env, ms, S, E, r, h⟩ => by
  cases ms with
  | nil => cases r; exact ⟨rfl, h ρ H _ (Fut.refl S) E rfl⟩
  | cons m ms => exact h.elim
theorem gs_cons (h1 : PG X e (tTg T vs g)) (h2 : PGs X es (tTgs T vs gs)) (hs : (assignEach (e :: es) X.env).map (·.2) = assign e X.env :: (assignEach es X.env).map (·.2) := by rfl) : PGs X (e :: es) (tTgs T vs (tgCons g gs)) :=
  pgs_mono (pgs_cons h1 h2 hs) fun ws σ H Q ⟨ρ, st, env, ms, S, E, r, h⟩ => by
    cases ms with
    | nil => exact h.elim
    | cons m ms =>
      obtain ⟨v, us, rfl, r1, r2⟩ := r
      refine ⟨v, us, rfl, ρ, st, env, m, S, E, r1, ?_⟩
      unfold tgCons at h
      cases q : g m env st with
      | ok e t =>
        simp only [q] at h
        exact fun ρ' H' σ' F E' w => ⟨ρ', t, e, ms, F.sim, E', r2.later F.lat, h.fut F w⟩
      | ex c fs s => simp only [q] at h; exact h
      | bad => simp only [q] at h; exact h
theorem g_tup {k n : Nat} (hK : T.K = X.K) (hc : X.calm = true) (h : PGs X es (tTgs T vs gs)) (hn : (assignEach es X.env).length = n := by rfl) (hst : (assignEach es X.env).findIdx? (·.1) = none := by rfl) : PG X (.Tuple es k pos) (tTg T vs (tgTup n gs)) :=
  pg_mono (pg_tup hc h hn hst) fun v σ H Q ⟨ρ, st, env, m, S, E, r, h⟩ => by
    cases m with
    | tup xs =>
      obtain ⟨a, ys, rfl, z, r⟩ := r
      unfold tgTup at h
      by_cases hl : xs.length = n
      · simp only [hl, if_true] at h
        exact ⟨a, ys, rfl, hK ▸ z.sq, by rw [← r.length]; exact hl, ρ, st, env, xs, S, E, r, h⟩
      · simp only [if_neg hl] at h; exact h.elim
    | _ => exact h.elim
/-- target = value -/
def sTg (g : MG) (m : Ev → M MV) : MS := fun env => bndS (m env) env fun v s => match g v env s with
  | .ok e t => .nx e t
  | _ => .bad
theorem outG_of {D : Ends} {ρ : List Addr} {H : Hp} {r : R Ev} (h : OutS T W ρ H D (match r with | .ok e t => Fl.nx e t | _ => .bad)) : OutG T vs σ ρ H r D.nx := by
  cases r with
  | ok e t => exact fun ρ' H' σ' F E _ => h ρ' H' σ' F E
  | ex c fs s => exact h
  | bad => exact h
theorem s_tg (he : PE X e (tE T W ma)) (hg : PG X tg (tTg T vs g)) (hs : swapsWithSole [tg] e pos.line X.env = pure false := by rfl) (hw : swappedStores [tg] e X.env = pure none := by rfl)
    (h1 : (assignEach [tg] X.env).map (·.2) = [assign tg X.env] := by rfl) : PS X (.Assign [tg] e pos) (tS T W (sTg g ma)) :=
  ps_mono (ps_asg he hg hs hw h1) fun D σ H ⟨ρ, st, env, S, E, h⟩ => ⟨ρ, st, env, S, E, (OutS.bnd E h).imp fun v H1 ⟨ρ1, s1, m, F1, r1, q1⟩ => ⟨ρ1, s1, env, m, F1.sim, E.later F1.lat, r1, outG_of q1⟩⟩
/-- a, b = x, y with plain local names -/
def sPar (i j : Nat) (as : Ev → M (List MV)) : MS := fun env => bndS (as env) env fun vs s => match vs with
  | [v, w] => .nx ((env.set i (some v)).set j (some w)) s
  | _ => .bad
theorem s_par {x y : Str} {a b : Expr} {as : Ev → M (List MV)} {px py pt : Pos} {kt k2 pt2} (i j : Nat) (hc : X.calm = true) (hN : X.N.Nodup) (ha : PA X [a, b] (tA T W as)) (hi : X.N[i]? = some x := by rfl) (hj : X.N[j]? = some y := by rfl) (hij : i ≠ j := by decide)
    (hx : X.env.scope.names.lookup x = some .local := by rfl) (hy : X.env.scope.names.lookup y = some .local := by rfl)
    (hw : swappedStores [.Tuple [.Name x px, .Name y py] kt pt] (.Tuple [a, b] k2 pt2) X.env = pure (some [x, y]) := by rfl)
    (hs : swapsWithSole [.Tuple [.Name x px, .Name y py] kt pt] (.Tuple [a, b] k2 pt2) pos.line X.env = pure false := by rfl) :
    PS X (.Assign [.Tuple [.Name x px, .Name y py] kt pt] (.Tuple [a, b] k2 pt2) pos) (tS T W (sPar i j as)) :=
  ps_mono (ps_par hc hN hi hj hij hx hy ha hw hs) fun D σ H ⟨ρ, st, env, S, E, h⟩ => ⟨ρ, st, env, S, E, (OutS.bnd E h).imp fun vs H1 ⟨ρ1, s1, ms, F1, r1, q1⟩ => by
    split at q1
    · rename_i v w
      obtain ⟨v', w', rfl, r2, r3⟩ := rvs2 r1
      exact ⟨v', w', rfl, q1 ρ1 H1 _ (Fut.refl F1.sim) (((E.later F1.lat).set r2 i).set r3 j)⟩
    · exact q1.elim⟩
/-- o[i] = v, o a list in a cell -/
def setL (o i v : MV) (s : Sto) : Option Sto := match o, i with
  | .ref n, .int k => match s[n]? with
    | some (.lst xs) => match ixN xs.length k with
      | some j => some (s.set n (.lst (xs.set j v)))
      | none => none
    | _ => none
  | _, _ => none
theorem setL_some {o i v : MV} {s t : Sto} (h : setL o i v s = some t) : ∃ n k xs j, o = .ref n ∧ i = .int k ∧ s[n]? = some (.lst xs) ∧ ixN xs.length k = some j ∧ t = s.set n (.lst (xs.set j v)) := by
  unfold setL at h
  cases o with
  | ref n =>
    cases i with
    | int k =>
      simp only at h
      cases e : s[n]? with
      | none => rw [e] at h; cases h
      | some c =>
        rw [e] at h
        cases c with
        | lst xs =>
          simp only at h
          cases e2 : ixN xs.length k with
          | none => rw [e2] at h; cases h
          | some j => rw [e2] at h; cases h; exact ⟨n, k, xs, j, rfl, rfl, e, e2, rfl⟩
        | _ => cases h
    | _ => cases h
  | _ => cases h
def sSub (mo mi mv : Ev → M MV) : MS := fun env => bndS (mv env) env fun v => bndS (mo env) env fun o => bndS (mi env) env fun i s => match setL o i v s with
  | some t => .nx env t
  | none => .bad
theorem s_sub (hv : PE X e (tE T W mc)) (ho : PE X o (tE T W ma)) (hi : PE X i (tE T W mb))
    (hs : swapsWithSole [.Subscript o i pos'] e pos.line X.env = pure false := by rfl) (hw : swappedStores [.Subscript o i pos'] e X.env = pure none := by rfl)
    (h1 : (assignEach [.Subscript o i pos'] X.env).map (·.2) = [assign (.Subscript o i pos') X.env] := by rfl)
    (hass : ∀ v, assign (.Subscript o i pos') X.env v = (do
      let ov ← holding [v] (eval o X.env)
      let iv ← holding [v, ov] (eval i X.env)
      standAt pos'
      holding [v, ov, iv] (setItem ov iv v)
      release [v, ov, iv] []) := by intro _; rfl) : PS X (.Assign [.Subscript o i pos'] e pos) (tS T W (sSub ma mb mc)) :=
  ps_mono (ps_asg hv (pg_sub ho hi set_list hass) hs hw h1) fun D σ H ⟨ρ, st, env, S, E, h⟩ => ⟨ρ, st, env, S, E, (OutS.bnd E h).imp fun v H1 ⟨ρ1, s1, m, F1, r1, q1⟩ => by
    refine ⟨ρ1, s1, env, F1.sim, E.later F1.lat, (OutS.bnd (E.later F1.lat) q1).imp fun o H2 ⟨ρ2, s2, mo, F2, r2, q2⟩ => ?_⟩
    refine ⟨ρ2, s2, env, F2.sim, E.later (F1.trans F2).lat, (OutS.bnd (E.later (F1.trans F2).lat) q2).imp fun i H3 ⟨ρ3, s3, mi, F3, r3, q3⟩ => ?_⟩
    have E3 := E.later (F1.trans (F2.trans F3)).lat
    have rv := r1.later (F2.trans F3).lat
    have ro := r2.later F3.lat
    cases e1 : setL mo mi m s3 with
    | none => rw [e1] at q3; exact q3.elim
    | some t =>
      rw [e1] at q3
      obtain ⟨n, k, xs, j, rfl, rfl, ex, ej, rfl⟩ := setL_some e1
      obtain ⟨a, ea, rfl⟩ := ro
      cases r3
      obtain ⟨ys, ey, r⟩ := F3.sim.cell n a _ ea ex
      refine ⟨a, ys, k, j, rfl, rfl, ey, by rw [← r.length]; exact ej, ?_⟩
      have F4 := F3.sim.set (c := .lst (xs.set j m)) (o := .lst (ys.set j v)) ea fun ρ' H' L => ⟨_, rfl, (r.later L).set (rv.later L) j⟩
      exact q3 _ _ _ F4 (E3.later F4.lat)⟩
end
end Z

namespace Z
open PySem L2

/-! ### defs -/
abbrev MF := List MV → M MV
def OutF (T : Tx) (ρ : List Addr) (H : Hp) (r : R MV) (Q : VK) (E : XK) : Prop := match r with
  | .ok v s => ∀ ρ' H' u, Fut T ρ H ρ' s H' → RV T ρ' H' v u → Q u H'
  | .ex c fs s => ∀ ρ' H' cl d, Fut T ρ H ρ' s H' → RX T ρ' H' c fs cl d → E cl d H'
  | .bad => False
/-- the promise of a def by its plain reading (p parameters) -/
def spM (T : Tx) (p : Nat) (mf : MF) : Sp := fun vs H Q E => ∃ ρ st ms, Sim T ρ st H ∧ RVs T ρ H ms vs ∧ ms.length = p ∧ OutF T ρ H (mf ms st) Q E
def flowR : Fl → R MV
  | .nx _ s => .ok .non s
  | .rt v s => .ok v s
  | .ex _ c fs s => .ex c fs s
  | _ => .bad
/-- a body with n names -/
def mFun (n : Nat) (mb : MS) : MF := fun args st => flowR (mb (args.map some ++ List.replicate (n - args.length) none) st)
/-- a def of the text as it stands behind the top -/
structure Df (K : PySem.W.Frag) (qual : Str) (st : Stmt) (f : Addr) (fd : FuncData) : Prop where
  ex : ∃ (x : Str) (oc : Value) (od : Option Addr) (dV kV doc pm : Value) (an : Option Addr) (cdv ct : Value) (osl : Array (Option Value)),
    fd = PySem.W.fnOf x qual (defArgs st) (defBody st) (defScope st) dV kV doc pm an cdv ct ∧ K.lookup f = some ⟨oc, od, .func fd, osl⟩ ∧ PySem.W.codeIn K cdv qual = true
  kp : PySem.W.keepIn K (.ref f) = true
section
variable {P : Program} {w : World} {K : PySem.W.Frag} {mg : Str → Option Value} {base : Heap} {T : Tx}
/-- what a body wants of exceptions -/
abbrev WB (E : XK) : WX := fun cl d _ H => E cl d H
theorem body_red {N : List Str} {ps : List Str} {mb : MS} {vs : List V} {H : Hp} {Q : VK} {E : XK} (h : spM T ps.length (mFun N.length mb) vs H Q E) : tS T (WB E) mb { nx := fun _ H' => Q .non H', rt := Q } (L2.start N vs) H := by
  obtain ⟨ρ, st, ms, S, r, hl, h⟩ := h
  refine ⟨ρ, st, ms.map some ++ List.replicate (N.length - ms.length) none, S, ?_, ?_⟩
  · unfold L2.start
    rw [← r.length]
    exact REnv.start r _
  · have h' : OutF T ρ H (flowR (mb (ms.map some ++ List.replicate (N.length - ms.length) none) st)) Q E := h
    revert h'
    generalize mb (ms.map some ++ List.replicate (N.length - ms.length) none) st = r
    intro h'
    cases r with
    | nx e s => exact fun ρ' H' σ' F _ => h' ρ' H' .non F rfl
    | rt v s => exact h'
    | bk e s => exact False.elim h'
    | ct e s => exact False.elim h'
    | ex e c fs s => exact fun ρ' H' σ' cl d F _ r => h' ρ' H' cl d F r
    | bad => exact False.elim h'
/-- THE RULE: a def by its body's plain reading -/
theorem fn_okM {qual : Str} {st : Stmt} {f : Addr} {fd : FuncData} {N ps : List Str} {k : Nat} {mb : MS} (F : Df K qual st f fd) (S : FnScope N ps (defScope st))
    (hb : ∀ (cdv : Value) (A : Around) (outer : List Env) (s : Shared) (H : Hp) (E : XK), Room k (A.deeper (PyProof.Rows.envOfC qual (defScope st) s.heap.objs.size f cdv)) →
      PSs (cxOf (L2.CX P w) P w K mg base N qual (defScope st) f cdv A outer s H E) (defBody st) (tS T (WB E) mb)) : FnOk P w K mg base (L2.CX P w) (k + 1) f fd ps (spM T ps.length (mFun N.length mb)) := by
  obtain ⟨x, oc, od, dV, kV, doc, pm, an, cdv, ct, osl, rfl, lk, hcd⟩ := F.ex
  refine fn_of lk hcd S (fun vs H Q E h => ?_) fun A outer s H vs Q E hr hsp => ⟨_, hb cdv A outer s H E hr, body_red hsp⟩
  obtain ⟨ρ, st, ms, _, r, hl, _⟩ := h
  rw [← r.length]; exact hl
theorem FnOk.to {k p : Nat} {f : Addr} {fd : FuncData} {ps : List Str} {mf mf' : MF} (F : FnOk P w K mg base (L2.CX P w) k f fd ps (spM T p mf)) (h : ∀ ms ρ st H Q E, Sim T ρ st H → ms.length = p → OutF T ρ H (mf' ms st) Q E → OutF T ρ H (mf ms st) Q E) :
    FnOk P w K mg base (L2.CX P w) k f fd ps (spM T p mf') := F.imp fun vs H Q E ⟨ρ, st, ms, S, r, hl, q⟩ => ⟨ρ, st, ms, S, r, hl, h ms ρ st H Q E S hl q⟩
end

/-! ### what a def leaves behind: nothing but its value -/
def frzM (s : Sto) (n : Nat) : Nat → MV → Option MV
  | 0, _ => none
  | k + 1, .tup xs => (xs.mapM (frzM s n k)).map .tup
  | k + 1, .lst xs => (xs.mapM (frzM s n k)).map .lst
  | k + 1, .frz xs => (xs.mapM (frzM s n k)).map .frz
  | k + 1, .ins c xs => (xs.mapM (frzM s n k)).map (.ins c)
  | k + 1, .ref m => if m < n then some (.ref m) else match s[m]? with
    | some (.lst xs) => (xs.mapM (frzM s n k)).map .lst
    | some (.ins c fs) => if fs.map (·.1) = fieldsOf c then ((fs.map (·.2)).mapM (frzM s n k)).map (.ins c) else none
    | _ => none
  | _ + 1, .non => some .non
  | _ + 1, .bl b => some (.bl b)
  | _ + 1, .int i => some (.int i)
  | _ + 1, .str x => some (.str x)
  | _ + 1, .fn k => some (.fn k)
  | _ + 1, .exc => none
section
variable {T : Tx} {ρ ρ' : List Addr} {H H' : Hp} {st s' : Sto} {n : Nat}
theorem mapM_len {α β : Type} {f : α → Option β} : ∀ {xs : List α} {ys : List β}, xs.mapM f = some ys → ys.length = xs.length
  | [], ys, h => by cases h; rfl
  | x :: xs, ys, h => by
    obtain ⟨d, es, _, h2, rfl⟩ := mapM_cons_some h
    rw [List.length_cons, List.length_cons, mapM_len h2]
theorem frz_all {f : MV → Option MV} {ρ' : List Addr} (hf : ∀ m v m', RV T ρ H m v → f m = some m' → RV T ρ' H m' v) : ∀ {xs : List MV} {vs : List V} {ys : List MV}, RVs T ρ H xs vs → xs.mapM f = some ys → RVs T ρ' H ys vs
  | [], vs, ys, r, h => by cases r; cases h; rfl
  | x :: xs, vs, ys, r, h => by
    obtain ⟨v, us, rfl, r1, r2⟩ := r
    obtain ⟨d, es, h1, h2, rfl⟩ := mapM_cons_some h
    exact ⟨v, us, rfl, hf x v d r1 h1, frz_all hf r2 h2⟩
theorem not_take {a : Addr} {ρ : List Addr} {n : Nat} (h : a ∉ ρ) : a ∉ ρ.take n := fun z => h (List.mem_of_mem_take z)
theorem frz_ok (S : Sim T ρ s' H) : ∀ (k : Nat) (m : MV) (v : V) (m' : MV), RV T ρ H m v → frzM s' n k m = some m' → RV T (ρ.take n) H m' v := by
  intro k
  induction k with
  | zero => intro m v m' _ h; cases h
  | succ k ih =>
    intro m v m' r h
    have seq : ∀ {xs : List MV} {vs : List V} {g : List MV → MV}, RVs T ρ H xs vs → (xs.mapM (frzM s' n k)).map g = some m' → ∃ ys, m' = g ys ∧ RVs T (ρ.take n) H ys vs ∧ ys.length = xs.length := fun {xs vs g} r h => by
      cases e : xs.mapM (frzM s' n k) with
      | none => rw [e] at h; cases h
      | some ys => rw [e] at h; cases h; exact ⟨ys, rfl, frz_all ih r e, mapM_len e⟩
    cases m with
    | non => cases h; exact r
    | bl b => cases h; exact r
    | int i => cases h; exact r
    | str x => cases h; exact r
    | fn j => cases h; exact r
    | exc => cases h
    | tup xs =>
      obtain ⟨a, ys, rfl, z, r⟩ := r
      obtain ⟨zs, rfl, q, _⟩ := seq r h
      refine ⟨a, ys, rfl, ?_, q⟩
      rcases z with ⟨z1, z2⟩ | z
      · exact .inl ⟨not_take z1, z2⟩
      · exact .inr z
    | lst xs =>
      obtain ⟨a, ys, rfl, z1, z, r⟩ := r
      obtain ⟨zs, rfl, q, _⟩ := seq r h
      exact ⟨a, ys, rfl, not_take z1, z, q⟩
    | frz xs =>
      obtain ⟨a, ys, rfl, z, r⟩ := r
      obtain ⟨zs, rfl, q, _⟩ := seq r h
      refine ⟨a, ys, rfl, ?_, q⟩
      rcases z with ⟨z1, z2⟩ | z
      · exact .inl ⟨not_take z1, z2⟩
      · exact .inr z
    | ins c xs =>
      obtain ⟨a, dx, vs, rfl, z1, z2, z3, z4, r⟩ := r
      obtain ⟨zs, rfl, q, hl⟩ := seq r h
      exact ⟨a, dx, vs, rfl, not_take z1, z2, by rw [hl]; exact z3, z4, q⟩
    | ref j =>
      obtain ⟨a, e1, rfl⟩ := r
      simp only [frzM] at h
      by_cases hj : j < n
      · rw [if_pos hj] at h
        cases h
        exact ⟨a, by rw [List.getElem?_take_of_lt hj]; exact e1, rfl⟩
      · rw [if_neg hj] at h
        have na : a ∉ ρ.take n := fun z => by
          obtain ⟨i, hi, e⟩ := List.mem_iff_getElem.mp z
          rw [List.length_take] at hi
          have e3 : ρ[i]? = some a := by
            rw [List.getElem_take] at e
            rw [List.getElem?_eq_getElem (by omega), e]
          have := S.inj e3 e1
          omega
        split at h
        · rename_i xs ex
          obtain ⟨ys, ey, r⟩ := S.cell j a _ e1 ex
          obtain ⟨zs, rfl, q, _⟩ := seq r h
          exact ⟨a, ys, rfl, na, ey, q⟩
        · rename_i c fs ex
          split at h
          · rename_i hf
            obtain ⟨dx, vs, ey, hc, _, _, r⟩ := S.cell j a _ e1 ex
            obtain ⟨zs, rfl, q, hl⟩ := seq r h
            refine ⟨a, dx, vs, rfl, na, hc, ?_, ?_, q⟩
            · rw [hl, List.length_map, ← hf, List.length_map]
            · rw [← hf, List.map_map]; exact ey
          · cases h
        · cases h
mutual
theorem RV.back {T : Tx} {ρ e : List Addr} {H H' : Hp} : ∀ (m : MV) (v v0 : V), RV T (ρ ++ e) H' m v → RV T ρ H m v0 → RV T ρ H' m v
  | .non, v, v0, h, _ => h
  | .bl _, v, v0, h, _ => h
  | .int _, v, v0, h, _ => h
  | .str _, v, v0, h, _ => h
  | .fn _, v, v0, h, _ => h
  | .exc, v, v0, h, _ => h
  | .tup xs, v, v0, h, h0 => by
    obtain ⟨a, ys, rfl, z, r⟩ := h
    obtain ⟨_, zs, _, _, r0⟩ := h0
    refine ⟨a, ys, rfl, ?_, RVs.back xs ys zs r r0⟩
    rcases z with ⟨z1, z2⟩ | z
    · exact .inl ⟨fun q => z1 (List.mem_append_left _ q), z2⟩
    · exact .inr z
  | .lst xs, v, v0, h, h0 => by
    obtain ⟨a, ys, rfl, z1, z, r⟩ := h
    obtain ⟨_, zs, _, _, _, r0⟩ := h0
    exact ⟨a, ys, rfl, fun q => z1 (List.mem_append_left _ q), z, RVs.back xs ys zs r r0⟩
  | .frz xs, v, v0, h, h0 => by
    obtain ⟨a, ys, rfl, z, r⟩ := h
    obtain ⟨_, zs, _, _, r0⟩ := h0
    refine ⟨a, ys, rfl, ?_, RVs.back xs ys zs r r0⟩
    rcases z with ⟨z1, z2⟩ | z
    · exact .inl ⟨fun q => z1 (List.mem_append_left _ q), z2⟩
    · exact .inr z
  | .ins c xs, v, v0, h, h0 => by
    obtain ⟨a, dx, vs, rfl, z1, z2, z3, z4, r⟩ := h
    obtain ⟨_, _, ws, _, _, _, _, _, r0⟩ := h0
    exact ⟨a, dx, vs, rfl, fun q => z1 (List.mem_append_left _ q), z2, z3, z4, RVs.back xs vs ws r r0⟩
  | .ref n, v, v0, h, h0 => by
    obtain ⟨a, e1, rfl⟩ := h
    obtain ⟨b, e2, _⟩ := h0
    have hi := (List.getElem?_eq_some_iff.mp e2).1
    rw [List.getElem?_append_left hi] at e1
    exact ⟨a, e1, rfl⟩
theorem RVs.back {T : Tx} {ρ e : List Addr} {H H' : Hp} : ∀ (ms : List MV) (vs vs0 : List V), RVs T (ρ ++ e) H' ms vs → RVs T ρ H ms vs0 → RVs T ρ H' ms vs
  | [], vs, vs0, h, _ => h
  | x :: xs, vs, vs0, h, h0 => by
    obtain ⟨y, ys, rfl, h1, h2⟩ := h
    obtain ⟨z, zs, _, k1, k2⟩ := h0
    exact ⟨y, ys, rfl, RV.back x y z h1 k1, RVs.back xs ys zs h2 k2⟩
end
theorem Fut.cut (F : Fut T ρ H ρ' s' H') (S : Sim T ρ st H) (h : s'.take st.length = st) : ρ'.take st.length = ρ ∧ Fut T ρ H ρ st H' := by
  obtain ⟨e, rfl, he⟩ := F.more
  have hl := S.len
  have ht : (ρ ++ e).take st.length = ρ := by rw [← hl]; simp
  refine ⟨ht, ⟨Lat.refl.more, ⟨hl, S.nd, fun c fs cl d a h => (S.exc c fs cl d a h).later ⟨Lat.refl.more, F.keep⟩, fun i a c e1 e2 => ?_⟩, F.keep⟩⟩
  have hi := (List.getElem?_eq_some_iff.mp e2).1
  have e1' : (ρ ++ e)[i]? = some a := by rw [List.getElem?_append_left (by omega)]; exact e1
  have e2' : s'[i]? = some c := by
    rw [← h] at e2
    rw [List.getElem?_take_of_lt hi] at e2
    exact e2
  have rc := F.sim.cell i a c e1' e2'
  have rc0 := S.cell i a c e1 e2
  have b : ∀ {m : MV} {v v0 : V}, RV T (ρ ++ e) H' m v → RV T ρ H m v0 → RV T ρ H' m v := fun {m v v0} r r0 => RV.back m v v0 r r0
  cases c with
  | lst xs =>
    obtain ⟨ys, e3, r⟩ := rc
    obtain ⟨zs, _, r0⟩ := rc0
    exact ⟨ys, e3, RVs.back xs ys zs r r0⟩
  | ins c fs =>
    obtain ⟨dx, vs, e3, h1, h2, h3, r⟩ := rc
    obtain ⟨dx0, vs0, _, _, _, _, r0⟩ := rc0
    exact ⟨dx, vs, e3, h1, h2, h3, RVs.back _ vs vs0 r r0⟩
  | dct kvs =>
    obtain ⟨u, e3, r⟩ := rc
    obtain ⟨u0, _, r0⟩ := rc0
    refine ⟨u, e3, ?_⟩
    have q0 : ∃ us, RVs T ρ H (kvs.map (·.2)) us := by
      rcases r0 with ⟨ys, _, _, r⟩ | ⟨ys, _, _, r⟩
      · exact ⟨_, r⟩
      · exact ⟨_, r⟩
    obtain ⟨us, q0⟩ := q0
    rcases r with ⟨ys, h1, h2, r⟩ | ⟨ys, h1, h2, r⟩
    · exact .inl ⟨ys, h1, h2, RVs.back _ _ us r q0⟩
    · exact .inr ⟨ys, h1, h2, RVs.back _ _ us r q0⟩
end
end Z

namespace Z
open PySem L2

open Classical in
/-- a def that leaves the store as it was -/
noncomputable def mPure (mf : MF) : MF := fun args st => match mf args st with
  | .ok v s => if s.take st.length = st then match frzM s st.length 40 v with
      | some v' => .ok v' st
      | none => .bad
    else .bad
  | .ex c fs s => if s.take st.length = st then match (fs.map (·.2)).mapM (frzM s st.length 40) with
      | some vs => .ex c ((fs.map (·.1)).zip vs) st
      | none => .bad
    else .bad
  | .bad => .bad
section
variable {T : Tx} {ρ ρ' : List Addr} {H H' : Hp} {st s' : Sto}
theorem zip_fst {α β : Type} : ∀ {xs : List α} {ys : List β}, ys.length = xs.length → (xs.zip ys).map (·.1) = xs
  | [], _, _ => by simp
  | x :: xs, [], h => by simp at h
  | x :: xs, y :: ys, h => by simp only [List.zip_cons_cons, List.map_cons]; rw [zip_fst (by simpa using h)]
theorem zip_snd {α β : Type} : ∀ {xs : List α} {ys : List β}, ys.length = xs.length → (xs.zip ys).map (·.2) = ys
  | [], [], _ => rfl
  | [], _ :: _, h => by simp at h
  | x :: xs, [], h => by simp at h
  | x :: xs, y :: ys, h => by simp only [List.zip_cons_cons, List.map_cons]; rw [zip_snd (by simpa using h)]
theorem rx_cut {n c : Nat} {fs : List (Nat × MV)} {vs : List MV} {cl : Value} {d : Option Addr} (S : Sim T ρ' s' H') (r : RX T ρ' H' c fs cl d) (h : (fs.map (·.2)).mapM (frzM s' n 40) = some vs) : RX T (ρ'.take n) H' c ((fs.map (·.1)).zip vs) cl d := by
  obtain ⟨e1, e2, e3, e4⟩ := r
  have hl : vs.length = (fs.map (·.1)).length := by rw [mapM_len h, List.length_map, List.length_map]
  have hf : ((fs.map (·.1)).zip vs).map (·.1) = fs.map (·.1) := zip_fst hl
  have hs : ((fs.map (·.1)).zip vs).map (·.2) = vs := zip_snd hl
  refine ⟨e1, e2, fun p hp => ?_, ?_⟩
  · have : p.1 ∈ ((fs.map (·.1)).zip vs).map (·.1) := List.mem_map_of_mem hp
    rw [hf] at this
    obtain ⟨q, hq, e⟩ := List.mem_map.mp this
    rw [← e]; exact e3 q hq
  · rcases e4 with ⟨rfl, rfl⟩ | ⟨dd, us, rfl, nn, n1, e5, r⟩
    · left; simp
    · refine .inr ⟨dd, us, rfl, fun z => nn ?_, not_take n1, ?_, ?_⟩
      · rw [z] at hf
        exact List.map_eq_nil_iff.mp hf.symm
      · have : (((fs.map (·.1)).zip vs).map fun p => fnm p.1) = fs.map fun p => fnm p.1 := by
          have q : (((fs.map (·.1)).zip vs).map fun p => fnm p.1) = (((fs.map (·.1)).zip vs).map (·.1)).map fnm := by rw [List.map_map]; rfl
          rw [q, hf, List.map_map]; rfl
        rw [this]; exact e5
      · rw [hs]
        exact frz_all (frz_ok S 40) r h
theorem pure_out {mf : MF} {ms : List MV} {Q : VK} {E : XK} (S : Sim T ρ st H) (h : OutF T ρ H (mPure mf ms st) Q E) : OutF T ρ H (mf ms st) Q E := by
  unfold mPure at h
  cases e : mf ms st with
  | ok v s =>
    simp only [e] at h
    by_cases ht : s.take st.length = st
    · rw [if_pos ht] at h
      cases e2 : frzM s st.length 40 v with
      | none => rw [e2] at h; exact h.elim
      | some v' =>
        rw [e2] at h
        intro ρ' H' u F r
        obtain ⟨q1, q2⟩ := F.cut S ht
        have r2 := frz_ok (n := st.length) F.sim 40 v u v' r e2
        rw [q1] at r2
        exact h ρ H' u q2 r2
    · rw [if_neg ht] at h; exact h.elim
  | ex c fs s =>
    simp only [e] at h
    by_cases ht : s.take st.length = st
    · rw [if_pos ht] at h
      cases e2 : (fs.map (·.2)).mapM (frzM s st.length 40) with
      | none => rw [e2] at h; exact h.elim
      | some vs =>
        rw [e2] at h
        intro ρ' H' cl d F r
        obtain ⟨q1, q2⟩ := F.cut S ht
        have r2 := rx_cut F.sim r e2
        rw [q1] at r2
        exact h ρ H' cl d q2 r2
    · rw [if_neg ht] at h; exact h.elim
  | bad => simp only [e] at h; exact h.elim
theorem FnOk.pure {P : Program} {w : World} {K : PySem.W.Frag} {mg : Str → Option Value} {base : Heap} {k p : Nat} {f : Addr} {fd : FuncData} {ps : List Str} {mf : MF} (F : FnOk P w K mg base (L2.CX P w) k f fd ps (spM T p mf)) :
    FnOk P w K mg base (L2.CX P w) k f fd ps (spM T p (mPure mf)) := FnOk.to F fun ms ρ st H Q E S hl h => pure_out S h
end

/-! ### calls -/
def Len (as : Ev → M (List MV)) (p : Nat) : Prop := ∀ env s xs t, as env s = .ok xs t → xs.length = p
theorem len_nil : Len mNil 0 := fun env s xs t h => by cases h; rfl
theorem len_cons {m : Ev → M MV} {r : Ev → M (List MV)} {p : Nat} (h : Len r p) : Len (mCons m r) (p + 1) := fun env s xs t q => by
  unfold mCons M.bnd at q
  cases e : m env s with
  | ok x s1 =>
    simp only [e] at q
    cases e2 : r env s1 with
    | ok ys s2 =>
      simp only [e2] at q
      cases q
      rw [List.length_cons, h env s1 ys _ e2]
    | ex c fs s2 => simp only [e2] at q; cases q
    | bad => simp only [e2] at q; cases q
  | ex c fs s1 => simp only [e] at q; cases q
  | bad => simp only [e] at q; cases q
def mCall (mf : MF) (as : Ev → M (List MV)) : Ev → M MV := fun env => M.bnd (as env) mf
section
variable {X : Cx} {T : Tx} {W : WX} {ma : Ev → M MV} {as : Ev → M (List MV)} {k p : Nat} {f C : Addr} {fd : FuncData} {ps : List Str} {mf : MF} {x m : Str} {pp pos apos : Pos} {e o : Expr} {es : List Expr} {ds : List Value} {dvs : List V} {dms : List MV}
theorem outF_of {ρ : List Addr} {H : Hp} {σ : St} {r : R MV} {Q : VK} (h : Out T W (RV T) ρ H σ r Q) : OutF T ρ H r Q (WE W σ) := by
  cases r with
  | ok v s => exact h
  | ex c fs s => exact h
  | bad => exact h
/-- arguments, then what stands for the def -/
theorem args_red {σ : St} {H : Hp} {ρ : List Addr} {st : Sto} {env : Ev} {Q : VK} (hn : Len as p) (h : Out T W (RV T) ρ H σ (M.bnd (as env) mf st) Q) :
    Out T W (RVs T) ρ H σ (as env st) fun us H1 => ∃ ρ1 s1 ms, Fut T ρ H ρ1 s1 H1 ∧ RVs T ρ1 H1 ms us ∧ ms.length = p ∧ OutF T ρ1 H1 (mf ms s1) Q (WE W σ) := by
  unfold M.bnd at h
  cases q : as env st with
  | ok xs t =>
    simp only [q] at h
    intro ρ1 H1 vs F1 r1
    exact ⟨ρ1, t, xs, F1, r1, hn env st xs t q, outF_of (h.fut F1)⟩
  | ex c fs t => simp only [q] at h; exact h
  | bad => simp only [q] at h; exact h.elim
theorem v_call (tk : Takes X W) (F : FnOk X.prog X.w X.K X.mg X.base (L2.CX X.prog X.w) k f fd ps (spM T p mf)) (hr : Room k X.A) (hm : X.mg x = some (.ref f)) (hk : PySem.W.keepIn X.K (.ref f) = true) (hb : Binds X.K fd ps [])
    (ha : PA X (e :: es) (tA T W as)) (hn : Len as p := by repeat first | exact len_nil | apply len_cons) (hg : Gl X x := by rfl) (hdb : (x == ("__debug__" : Str)) = false := by decide)
    (he : starEach (e :: es) X.env = (false, eval e X.env) :: starEach es X.env := by rfl) (hpl : (backTo pos (starEach es X.env)).any (·.1) = false := by rfl) :
    PE X (.Call (.Name x pp) (e :: es) [] pos) (tE T W (mCall mf as)) :=
  pe_mono (pe_callS F hr hg hm hk hb (fun σ => passAt tk σ) ha hdb he hpl) fun σ H Q h => by
    obtain ⟨ρ, st, env, S, E, h⟩ := h
    exact ⟨ρ, st, env, S, E, (args_red hn h).imp fun us H1 ⟨ρ1, s1, ms, F, r, l, q⟩ => ⟨ρ1, s1, ms, F.sim, r, l, q⟩⟩
/-! instances -/
def clsOf (s : Sto) : MV → Option Nat
  | .ins c _ => some c
  | .ref n => match s[n]? with
    | some (.ins c _) => some c
    | _ => none
  | _ => none
def fldOf (s : Sto) (f : Nat) : MV → Option MV
  | .ins c xs => zipLook (fieldsOf c) xs f
  | .ref n => match s[n]? with
    | some (.ins _ fs) => lookN f fs
    | _ => none
  | _ => none
/-- what the written part says of the classes -/
structure ClsF (T : Tx) (c : Nat) : Prop where
  cls : Cls T.K (T.cls c)
  na : ∀ f ∈ fieldsOf c, NoAttr T.K (T.cls c) (fnm f)
abbrev ClsAll (T : Tx) : Prop := ∀ c, T.has c = true → ClsF T c
theorem zip_lookup {ρ : List Addr} {H : Hp} {f : Nat} (hf : f < 34) : ∀ {ids : List Nat} {xs : List MV} {vs : List V} {m : MV}, (∀ i ∈ ids, i < 34) → RVs T ρ H xs vs → zipLook ids xs f = some m → ∃ v, ((ids.map fnm).zip vs).lookup (fnm f) = some v ∧ RV T ρ H m v
  | [], xs, vs, m, _, _, h => by cases xs <;> cases h
  | i :: ids, [], vs, m, _, _, h => by cases h
  | i :: ids, x :: xs, vs, m, hi, r, h => by
    obtain ⟨v, us, rfl, r1, r2⟩ := r
    rw [List.map_cons, List.zip_cons_cons, List.lookup_cons]
    unfold zipLook at h
    by_cases e : i = f
    · rw [if_pos e] at h; cases h
      subst e
      exact ⟨v, by simp, r1⟩
    · rw [if_neg e] at h
      have ne : (fnm f == fnm i) = false := by
        rw [beq_eq_false_iff_ne]
        exact fun z => e (fnm_inj (hi i List.mem_cons_self) hf z.symm)
      obtain ⟨w, q1, q2⟩ := zip_lookup hf (fun j hj => hi j (List.mem_cons_of_mem _ hj)) r2 h
      exact ⟨w, by simp only [ne]; exact q1, q2⟩
theorem lookN_zip {f : Nat} : ∀ {fs : List (Nat × MV)}, lookN f fs = zipLook (fs.map (·.1)) (fs.map (·.2)) f
  | [] => rfl
  | (g, w) :: r => by
    show (if g = f then some w else lookN f r) = (if g = f then some w else zipLook (r.map (·.1)) (r.map (·.2)) f)
    rw [lookN_zip]
theorem zipLook_mem {f : Nat} : ∀ {ids : List Nat} {xs : List MV} {m : MV}, zipLook ids xs f = some m → f ∈ ids
  | [], xs, m, h => by cases xs <;> cases h
  | i :: ids, [], m, h => by cases h
  | i :: ids, x :: xs, m, h => by
    unfold zipLook at h
    by_cases e : i = f
    · subst e; exact List.mem_cons_self
    · rw [if_neg e] at h
      exact List.mem_cons_of_mem _ (zipLook_mem h)
/-- an instance, inline or in a cell -/
theorem ins_of {ρ : List Addr} {H : Hp} {st : Sto} {m : MV} {v : V} {c : Nat} (S : Sim T ρ st H) (r : RV T ρ H m v) (h : clsOf st m = some c) :
    ∃ a dx ids xs vs, v = .ref a ∧ T.has c = true ∧ H a = some (.ins (T.cls c) dx ((ids.map fnm).zip vs)) ∧ (∀ i ∈ ids, i ∈ fieldsOf c) ∧ RVs T ρ H xs vs ∧ ∀ f, fldOf st f m = zipLook ids xs f := by
  cases m with
  | ins d xs =>
    cases h
    obtain ⟨a, dx, vs, rfl, _, h1, _, h2, r⟩ := r
    exact ⟨a, dx, fieldsOf c, xs, vs, rfl, h1, h2, fun i hi => hi, r, fun f => rfl⟩
  | ref n =>
    obtain ⟨a, e1, rfl⟩ := r
    have q : ∃ fs, st[n]? = some (.ins c fs) := by
      simp only [clsOf] at h
      split at h
      · rename_i d fs e; cases h; exact ⟨fs, e⟩
      · cases h
    obtain ⟨fs, e⟩ := q
    obtain ⟨dx, vs, e2, h1, h2, _, r⟩ := S.cell n a _ e1 e
    refine ⟨a, dx, fs.map (·.1), fs.map (·.2), vs, rfl, h1, ?_, fun i hi => ?_, r, fun f => ?_⟩
    · rw [List.map_map]; exact e2
    · obtain ⟨p, hp, rfl⟩ := List.mem_map.mp hi
      exact h2 p hp
    · simp only [fldOf, e]; exact lookN_zip
  | _ => cases h
theorem cls_fld {st : Sto} {f : Nat} {m v : MV} (h : fldOf st f m = some v) : ∃ c, clsOf st m = some c := by
  cases m with
  | ins c xs => exact ⟨c, rfl⟩
  | ref n =>
    simp only [fldOf] at h
    split at h
    · rename_i c fs e; exact ⟨c, by simp only [clsOf, e]⟩
    · cases h
  | _ => cases h
def mFld (f : Nat) (ma : Ev → M MV) : Ev → M MV := mUn (fun s x => fldOf s f x) ma
theorem v_fld (hK : T.K = X.K) (hC : ClsAll T) (f : Nat) (he : PE X e (tE T W ma)) (hf : x = fnm f := by rfl) (hb : attributeBase e x X.env (eval e X.env) = eval e X.env := by rfl) : PE X (.Attribute e x pos) (tE T W (mFld f ma)) :=
  pe_mono (pe_fld he hb) fun σ H Q h => by
    subst hf
    obtain ⟨ρ, st, env, S, E, h⟩ := h
    refine ⟨ρ, st, env, S, E, h.bnd.imp fun v H1 ⟨ρ1, s1, m, F1, r1, q1⟩ => ?_⟩
    obtain ⟨w, e, q⟩ := opt_out q1
    replace e : fldOf s1 f m = some w := e
    obtain ⟨c, hc⟩ := cls_fld e
    obtain ⟨a, dx, ids, xs, vs, rfl, h1, h2, h3, r, hfl⟩ := ins_of F1.sim r1 hc
    rw [hfl] at e
    have hm := h3 f (zipLook_mem e)
    obtain ⟨u, q1, q2⟩ := zip_lookup (fieldsOf_lt hm) (fun i hi => fieldsOf_lt (h3 i hi)) r e
    exact ⟨a, T.cls c, dx, _, u, rfl, h2, hK ▸ (hC c h1).cls, hK ▸ (hC c h1).na f hm, q1, q ρ1 H1 u (Fut.refl F1.sim) q2⟩
/-! methods -/
/-- a method of class c by its plain reading -/
structure MetOk (X : Cx) (T : Tx) (m : Str) (p : Nat) (c : Nat) (mf : MF) : Prop where
  ok : ∃ (f : Addr) (fd : FuncData) (ps : List Str) (k : Nat), Meth X.K (T.cls c) m f ∧ FnOk X.prog X.w X.K X.mg X.base (L2.CX X.prog X.w) k f fd ps (spM T p mf) ∧ Room k X.A ∧ Binds X.K fd ps []
  nf : (fieldsOf c).all (fun i => !decide (fnm i = m)) = true
def metF (cs : List (Nat × MF)) (x : MV) (xs : List MV) : M MV := fun s => match clsOf s x with
  | some c => match cs.lookup c with
    | some mf => mf (x :: xs) s
    | none => .bad
  | none => .bad
def mMeth (cs : List (Nat × MF)) (ma : Ev → M MV) (as : Ev → M (List MV)) : Ev → M MV := fun env => M.bnd (ma env) fun x s => match clsOf s x with
  | some c => match cs.lookup c with
    | some mf => M.bnd (as env) (fun xs => mf (x :: xs)) s
    | none => .bad
  | none => .bad
theorem no_field {ids : List Nat} {vs : List V} {m : Str} : (∀ i ∈ ids, fnm i ≠ m) → ((ids.map fnm).zip vs).lookup m = none := by
  induction ids generalizing vs with
  | nil => intro _; simp
  | cons i ids ih =>
    intro h
    cases vs with
    | nil => simp
    | cons v vs =>
      rw [List.map_cons, List.zip_cons_cons, List.lookup_cons]
      have ne : (m == fnm i) = false := by
        rw [beq_eq_false_iff_ne]
        exact fun z => h i List.mem_cons_self z.symm
      simp only [ne]
      exact ih fun j hj => h j (List.mem_cons_of_mem _ hj)
theorem lookup_mem' {α : Type} {l : List (Nat × α)} {c : Nat} {x : α} (h : l.lookup c = some x) : (c, x) ∈ l := lookup_mem h
theorem met_none {cs : List (Nat × MF)} {c p : Nat} {mf : MF} (hK : T.K = X.K) (h : ∀ q ∈ cs, MetOk X T m p q.1 q.2) (hl : cs.lookup c = some mf) {ids : List Nat} {vs : List V} (hi : ∀ i ∈ ids, i ∈ fieldsOf c) : ((ids.map fnm).zip vs).lookup m = none := by
  refine no_field fun i hm => ?_
  have q := List.all_eq_true.mp (h _ (lookup_mem hl)).nf i (hi i hm)
  simpa using q
theorem v_meth {pl : Sem Bool} {cs : List (Nat × MF)} (hK : T.K = X.K) (hC : ClsAll T) (tk : Takes X W) (h : ∀ q ∈ cs, MetOk X T m (p + 1) q.1 q.2) (ho : PE X o (tE T W ma)) (ha : PA X (e :: es) (tA T W as))
    (hn : Len as p := by repeat first | exact len_nil | apply len_cons)
    (hst : starEach (e :: es) X.env = (false, eval e X.env) :: starEach es X.env := by rfl) (hpl : (backTo pos (starEach es X.env)).any (·.1) = false := by rfl)
    (ht : eval (.Call (.Attribute o m apos) (e :: es) [] pos) X.env = (do
      let ov ← eval o X.env
      standAt apos.atName
      let (f, first) ← holding [ov] (getMethod ov m pl)
      callWith pos f first (backTo pos (starEach (e :: es) X.env)) (backToKw pos (keywordEach [] X.env))) := by rfl) :
    PE X (.Call (.Attribute o m apos) (e :: es) [] pos) (tE T W (mMeth cs ma as)) := by
  refine ⟨fun pins s σ H Q I ⟨ρ, st, env, S, E, hh⟩ => ?_⟩
  refine methcall_of ho I ⟨ρ, st, env, S, E, hh.bnd.imp fun v H1 ⟨ρ1, s1, x, F1, r1, q1⟩ => ?_⟩ ht
  cases e1 : clsOf s1 x with
  | none => rw [e1] at q1; exact q1.elim
  | some c =>
    simp only [e1] at q1
    cases e2 : cs.lookup c with
    | none => rw [e2] at q1; exact q1.elim
    | some mf =>
      simp only [e2] at q1
      obtain ⟨a, dx, ids, xs, vs, rfl, h1, h2, h3, r, _⟩ := ins_of F1.sim r1 e1
      obtain ⟨f, fd, ps, k, hm, F, hr, hb⟩ := (h _ (lookup_mem e2)).ok
      refine ⟨a, T.cls c, dx, _, f, rfl, h2, hK ▸ (hC c h1).cls, hm, met_none hK h e2 h3, fun s2 I2 => ?_⟩
      have t2 : tA T W as σ H1 fun us H2 => ∃ ρ2 st2 ms, Sim T ρ2 st2 H2 ∧ RVs T ρ2 H2 (x :: ms) (.ref a :: us) ∧ (x :: ms).length = p + 1 ∧ OutF T ρ2 H2 (mf (x :: ms) st2) Q (WE W σ) := by
        refine ⟨ρ1, s1, env, F1.sim, E.later F1.lat, (args_red (mf := fun ms => mf (x :: ms)) hn q1).imp fun us H2 ⟨ρ2, s2, ms, F2, r2, l, q⟩ => ?_⟩
        exact ⟨ρ2, s2, ms, F2.sim, ⟨_, _, rfl, r1.later F2.lat, r2⟩, by rw [List.length_cons, l], q⟩
      refine PySem.W.callWith_K (first := [.ref a]) (h₀ := X.base) I2.ok.mod.kin hm.kp (thn (ha.run pos pins s2 σ H1 _ I2 t2) fun us s3 ⟨vs2, H2, I3, r3, ρ2, st2, ms, S2, r2, hl, z⟩ => ⟨I3.kIn, ?_⟩) hst hpl
      exact run_fnS (us := .ref a :: us) (vs := .ref a :: vs2) F hr hb (passAt tk σ) I3 (.cons rfl r3) ⟨ρ2, st2, _, S2, r2, hl, z⟩
end
end Z

namespace Z
open PySem L2

/-! ### what may be called -/
def CalM (X : Cx) (T : Tx) (W : WX) (u : Value) (p : Nat) (mf : MF) : Prop :=
  ∀ (pins : List (Addr × Obj)) (s : Shared) (σ : St) (H : Hp) (us : List Value) (vs : List V) (Q : VK) (ρ : List Addr) (st : Sto) (ms : List MV), Inv X pins σ H s → Vals vs us → Sim T ρ st H → RVs T ρ H ms vs → ms.length = p →
    OutF T ρ H (mf ms st) Q (WE W σ) → wpAny (model X.prog X.w) X.A (call u us) (EP X pins σ Q) X.xe s
def newC (c : Nat) (init : MF) : MF := fun args st => match init (.ref st.length :: args) (st ++ [.ins c []]) with
  | .ok .non s => .ok (.ref st.length) s
  | .ok _ _ => .bad
  | .ex c fs s => .ex c fs s
  | .bad => .bad
section
variable {X : Cx} {T : Tx} {W : WX} {ma : Ev → M MV} {as : Ev → M (List MV)} {k p c : Nat} {f C : Addr} {fd : FuncData} {ps : List Str} {mf init : MF} {x m : Str} {pp pos apos : Pos} {e o : Expr} {es : List Expr} {ds : List Value} {dvs : List V} {dms : List MV} {u : Value}
theorem CalM.pure (h : CalM X T W u p mf) : CalM X T W u p (mPure mf) := fun pins s σ H us vs Q ρ st ms I r S rm hl q => h pins s σ H us vs Q ρ st ms I r S rm hl (pure_out S q)
theorem cal_fn (tk : Takes X W) (F : FnOk X.prog X.w X.K X.mg X.base (L2.CX X.prog X.w) k f fd ps (spM T p mf)) (hr : Room k X.A) (hb : Binds X.K fd ps []) : CalM X T W (.ref f) p mf :=
  fun pins s σ H us vs Q ρ st ms I r S rm hl q => run_fnS F hr hb (passAt tk σ) I r ⟨ρ, st, ms, S, rm, hl, q⟩
/-- the defaults behind the arguments -/
def withD (dms : List MV) (mf : MF) : MF := fun args => mf (args ++ dms)
theorem sim_new (S : Sim T ρ st H) (hc : T.has c = true) {x dx : Addr} (hx : H x = none) (hd : H dx = none) (ne : dx ≠ x) : Fut T ρ H (ρ ++ [x]) (st ++ [.ins c []]) (upd (upd H dx (.own x)) x (.ins (T.cls c) dx [])) := by
  have F1 := S.fresh (o := .own x) hd
  have hx2 : (upd H dx (.own x)) x = none := by rw [upd_ne (Ne.symm ne)]; exact hx
  exact F1.trans (F1.sim.push (c := .ins c []) (o := .ins (T.cls c) dx []) hx2 fun ρ' H' L => ⟨dx, [], rfl, hc, by simp, by simp, rfl⟩)
theorem run_makeS {pins : List (Addr × Obj)} {σ : St} {H : Hp} {s : Shared} {Q : VK} {us : List Value} {vs : List V} {sp : Sp} {E : XK} (M : Mk X.K C f) (F : FnOk X.prog X.w X.K X.mg X.base (L2.CX X.prog X.w) k f fd ps sp) (hr : Room (k + 1) X.A) (hb : Binds X.K fd ps ds) (hd : Vals dvs ds)
    (hx : PassesAt (L2.CX X.prog X.w) X σ E) (I : Inv X pins σ H s) (r : Vals vs us)
    (h : ∀ x dx, H x = none → H dx = none → dx ≠ x → sp (.ref x :: (vs ++ dvs)) (upd (upd H dx (.own x)) x (.ins C dx [])) (fun v H2 => v = .non ∧ Q (.ref x) H2) E) :
    wpAny (model X.prog X.w) X.A (call (.ref C) us) (EP X pins σ Q) X.xe s := by
  have hq := h (s.heap.objs.size + 1) s.heap.objs.size (I.hok.fresh (Nat.le_succ _)) (I.hok.fresh (Nat.le_refl _)) (Nat.ne_of_lt (Nat.lt_succ_self _))
  have I2 := Inv.made (C := C) I
  have r2 : Vals (V.ref (s.heap.objs.size + 1) :: (vs ++ dvs)) (Value.ref (s.heap.objs.size + 1) :: (us ++ ds)) := .cons rfl (r.append hd)
  have hl : (Value.ref (s.heap.objs.size + 1) :: us ++ ds).length = ps.length := by
    have e := r2.length
    rw [F.len _ _ _ _ hq] at e
    exact e.symm
  refine wpAny_call (make_map (f := f) I.kIn M.makes M.init (beq_iff_eq.mp M.fn) (codeAny_mono (F.run _ X.stack _ _ ⟨Value.ref (s.heap.objs.size + 1) :: us, []⟩ (Value.ref (s.heap.objs.size + 1) :: (us ++ ds)) _ _ E (hr.make C us [])
    (I2.env0.make C us []) (hb _ (Value.ref (s.heap.objs.size + 1) :: us) I2.kIn hl) r2 hq) fun r s' hq' => ?_))
  cases r with
  | error e => exact hx pins _ _ e s' I2 hq'
  | ok fl =>
    cases fl with
    | ret u =>
      obtain ⟨v, H', I3, rv, ev, q3⟩ := I2.after hq'
      subst ev
      exact ⟨rv, ⟨V.ref (s.heap.objs.size + 1), H', I3, rfl, q3⟩⟩
    | next => exact False.elim hq'
    | brk => exact False.elim hq'
    | cont => exact False.elim hq'
/-- what newC does, by __init__'s promise -/
theorem new_red {H : Hp} {Q : VK} {ρ : List Addr} {st : Sto} {ms : List MV} {vs : List V} {E : XK} (hc : T.has c = true) (S : Sim T ρ st H) (rm : RVs T ρ H ms vs) (q : OutF T ρ H (newC c init ms st) Q E) (hl : ms.length + 1 = p) :
    ∀ x dx, H x = none → H dx = none → dx ≠ x → spM T p init (.ref x :: vs) (upd (upd H dx (.own x)) x (.ins (T.cls c) dx [])) (fun v H2 => v = .non ∧ Q (.ref x) H2) E := fun x dx hx hd ne => by
  have F := sim_new S hc hx hd ne
  have rx : RV T (ρ ++ [x]) (upd (upd H dx (.own x)) x (.ins (T.cls c) dx [])) (.ref st.length) (.ref x) := ⟨x, by rw [← S.len]; simp, rfl⟩
  refine ⟨ρ ++ [x], _, .ref st.length :: ms, F.sim, ⟨_, _, rfl, rx, rm.later F.lat⟩, by rw [List.length_cons]; exact hl, ?_⟩
  unfold newC at q
  cases e : init (.ref st.length :: ms) (st ++ [.ins c []]) with
  | ok v s =>
    simp only [e] at q
    cases v with
    | non =>
      intro ρ' H' u F' r
      cases r
      exact ⟨rfl, q ρ' H' (.ref x) (F.trans F') (rx.later F'.lat)⟩
    | _ => exact q.elim
  | ex c fs s =>
    simp only [e] at q
    exact fun ρ' H' cl d F' r => q ρ' H' cl d (F.trans F') r
  | bad => simp only [e] at q; exact q.elim
theorem cal_make (tk : Takes X W) (hc : T.has c = true) (M : Mk X.K (T.cls c) f) (F : FnOk X.prog X.w X.K X.mg X.base (L2.CX X.prog X.w) k f fd ps (spM T (p + 1) init)) (hr : Room (k + 1) X.A) (hb : Binds X.K fd ps []) : CalM X T W (.ref (T.cls c)) p (newC c init) :=
  fun pins s σ H us vs Q ρ st ms I r S rm hl q => run_makeS (dvs := []) M F hr hb .nil (passAt tk σ) I r (by rw [List.append_nil]; exact new_red hc S rm q (by rw [hl]))
theorem cal_makeD (tk : Takes X W) (hc : T.has c = true) (M : Mk X.K (T.cls c) f) (F : FnOk X.prog X.w X.K X.mg X.base (L2.CX X.prog X.w) k f fd ps (spM T (p + dms.length + 1) init)) (hr : Room (k + 1) X.A) (hb : Binds X.K fd ps ds) (hd : Vals dvs ds) (hm : ∀ ρ H, RVs T ρ H dms dvs) :
    CalM X T W (.ref (T.cls c)) p (withD dms (newC c init)) :=
  fun pins s σ H us vs Q ρ st ms I r S rm hl q => run_makeS M F hr hb hd (passAt tk σ) I r (new_red hc S (rm.append (hm ρ H)) q (by rw [List.length_append, hl]))
theorem v_cal (h : CalM X T W (.ref f) p mf) (hm : X.mg x = some (.ref f)) (hk : PySem.W.keepIn X.K (.ref f) = true)
    (ha : PA X (e :: es) (tA T W as)) (hn : Len as p := by repeat first | exact len_nil | apply len_cons) (hg : Gl X x := by rfl) (hdb : (x == ("__debug__" : Str)) = false := by decide)
    (he : starEach (e :: es) X.env = (false, eval e X.env) :: starEach es X.env := by rfl) (hpl : (backTo pos (starEach es X.env)).any (·.1) = false := by rfl) :
    PE X (.Call (.Name x pp) (e :: es) [] pos) (tE T W (mCall mf as)) := by
  refine ⟨fun pins s σ H Q I ⟨ρ, st, env, S, E, hh⟩ => ?_⟩
  refine wpAny_Call_Name_kw (ld_glob I hg hm ?_ hdb)
  have t2 : tA T W as σ H fun us H1 => ∃ ρ1 s1 ms, Fut T ρ H ρ1 s1 H1 ∧ RVs T ρ1 H1 ms us ∧ ms.length = p ∧ OutF T ρ1 H1 (mf ms s1) Q (WE W σ) := ⟨ρ, st, env, S, E, args_red hn hh⟩
  refine PySem.W.callWith_K (h₀ := X.base) I.ok.mod.kin hk (thn (ha.run pos pins s σ H _ I t2) fun us s1 ⟨vs, H1, I1, r, ρ1, st1, ms, F1, rm, hl, q⟩ => ⟨I1.kIn, ?_⟩) he hpl
  exact h pins s1 σ H1 us vs Q ρ1 st1 ms I1 r F1.sim rm hl q
theorem v_cal0 (h : CalM X T W (.ref f) 0 mf) (hm : X.mg x = some (.ref f)) (hk : PySem.W.keepIn X.K (.ref f) = true) (hg : Gl X x := by rfl) (hdb : (x == ("__debug__" : Str)) = false := by decide) :
    PE X (.Call (.Name x pp) [] [] pos) (tE T W (mCall mf mNil)) := by
  refine ⟨fun pins s σ H Q I ⟨ρ, st, env, S, E, hh⟩ => ?_⟩
  refine wpAny_Call_Name_kw (ld_glob I hg hm ?_ hdb)
  exact PySem.W.callWith_K0 I.kIn hk (h pins s σ H [] [] Q ρ st [] I .nil S rfl rfl (outF_of hh))
theorem v_meth0 {pl : Sem Bool} {cs : List (Nat × MF)} (hK : T.K = X.K) (hC : ClsAll T) (tk : Takes X W) (h : ∀ q ∈ cs, MetOk X T m 1 q.1 q.2) (ho : PE X o (tE T W ma))
    (ht : eval (.Call (.Attribute o m apos) [] [] pos) X.env = (do
      let ov ← eval o X.env
      standAt apos.atName
      let (f, first) ← holding [ov] (getMethod ov m pl)
      callWith pos f first (backTo pos (starEach [] X.env)) (backToKw pos (keywordEach [] X.env))) := by rfl) :
    PE X (.Call (.Attribute o m apos) [] [] pos) (tE T W (mMeth cs ma mNil)) := by
  refine ⟨fun pins s σ H Q I ⟨ρ, st, env, S, E, hh⟩ => ?_⟩
  refine methcall_of ho I ⟨ρ, st, env, S, E, hh.bnd.imp fun v H1 ⟨ρ1, s1, x, F1, r1, q1⟩ => ?_⟩ ht
  cases e1 : clsOf s1 x with
  | none => rw [e1] at q1; exact q1.elim
  | some c =>
    simp only [e1] at q1
    cases e2 : cs.lookup c with
    | none => rw [e2] at q1; exact q1.elim
    | some mf =>
      simp only [e2] at q1
      obtain ⟨a, dx, ids, xs, vs, rfl, h1, h2, h3, r, _⟩ := ins_of F1.sim r1 e1
      obtain ⟨f, fd, ps, k, hm, F, hr, hb⟩ := (h _ (lookup_mem e2)).ok
      refine ⟨a, T.cls c, dx, _, f, rfl, h2, hK ▸ (hC c h1).cls, hm, met_none hK h e2 h3, fun s2 I2 => ?_⟩
      refine PySem.W.callWith_K0 (first := [.ref a]) I2.kIn hm.kp ?_
      exact run_fnS (us := [.ref a]) (vs := [.ref a]) F hr hb (passAt tk σ) I2 (.cons rfl .nil) ⟨ρ1, s1, [x], F1.sim, ⟨_, _, rfl, r1, rfl⟩, rfl, outF_of q1⟩
end

/-! ### o.f = e -/
def setFld (f : Nat) (o v : MV) (s : Sto) : Option Sto := match o with
  | .ref n => match s[n]? with
    | some (.ins c fs) => if f ∈ fieldsOf c ∧ fs.length < 40 then some (s.set n (.ins c (putN f v fs))) else none
    | _ => none
  | _ => none
theorem setFld_some {f : Nat} {o v : MV} {s t : Sto} (h : setFld f o v s = some t) : ∃ n c fs, o = .ref n ∧ s[n]? = some (.ins c fs) ∧ f ∈ fieldsOf c ∧ fs.length < 40 ∧ t = s.set n (.ins c (putN f v fs)) := by
  unfold setFld at h
  cases o with
  | ref n =>
    simp only at h
    cases e : s[n]? with
    | none => rw [e] at h; cases h
    | some d =>
      rw [e] at h
      cases d with
      | ins c fs =>
        simp only at h
        by_cases q : f ∈ fieldsOf c ∧ fs.length < 40
        · rw [if_pos q] at h; cases h; exact ⟨n, c, fs, rfl, e, q.1, q.2, rfl⟩
        · rw [if_neg q] at h; cases h
      | _ => cases h
  | _ => cases h
def sFldM (f : Nat) (mo mv : Ev → M MV) : MS := fun env => bndS (mv env) env fun v => bndS (mo env) env fun o s => match setFld f o v s with
  | some t => .nx env t
  | none => .bad
theorem putN_len {f : Nat} {v : MV} : ∀ {fs : List (Nat × MV)}, (putN f v fs).length ≤ fs.length + 1
  | [] => by simp [putN]
  | (g, w) :: r => by
    unfold putN
    by_cases e : g = f
    · rw [if_pos e]; simp
    · rw [if_neg e, List.length_cons, List.length_cons]
      have := putN_len (f := f) (v := v) (fs := r)
      omega
theorem putN_ids {f : Nat} {v : MV} {P : Nat → Prop} (hf : P f) : ∀ {fs : List (Nat × MV)}, (∀ p ∈ fs, P p.1) → ∀ p ∈ putN f v fs, P p.1
  | [], _, p, hp => by
    rw [List.mem_singleton.mp hp]; exact hf
  | (g, w) :: r, h, p, hp => by
    unfold putN at hp
    by_cases e : g = f
    · rw [if_pos e] at hp
      rcases List.mem_cons.mp hp with rfl | hp
      · exact h (g, w) List.mem_cons_self
      · exact h p (List.mem_cons_of_mem _ hp)
    · rw [if_neg e] at hp
      rcases List.mem_cons.mp hp with rfl | hp
      · exact h (g, w) List.mem_cons_self
      · exact putN_ids hf (fun q hq => h q (List.mem_cons_of_mem _ hq)) p hp
theorem putN_rel {T : Tx} {ρ : List Addr} {H : Hp} {f : Nat} {m : MV} {v : V} (hf : f < 34) (r : RV T ρ H m v) : ∀ {fs : List (Nat × MV)} {vs : List V}, (∀ p ∈ fs, p.1 < 34) → RVs T ρ H (fs.map (·.2)) vs →
    ∃ us, putF (fnm f) v ((fs.map fun p => fnm p.1).zip vs) = ((putN f m fs).map fun p => fnm p.1).zip us ∧ RVs T ρ H ((putN f m fs).map (·.2)) us
  | [], vs, _, h => by cases h; exact ⟨[v], rfl, v, [], rfl, r, rfl⟩
  | (g, w) :: fs, vs, hi, h => by
    obtain ⟨u, us, rfl, r1, r2⟩ := h
    rw [List.map_cons, List.zip_cons_cons]
    unfold putN
    by_cases e : g = f
    · subst e
      rw [if_pos rfl]
      refine ⟨v :: us, ?_, v, us, rfl, r, r2⟩
      show (if fnm g = fnm g then (fnm g, v) :: (fs.map fun p => fnm p.1).zip us else _) = _
      rw [if_pos rfl]; rfl
    · rw [if_neg e]
      have ne : ¬ fnm g = fnm f := fun z => e (fnm_inj (hi (g, w) List.mem_cons_self) hf z)
      obtain ⟨zs, q1, q2⟩ := putN_rel hf r (fun p hp => hi p (List.mem_cons_of_mem _ hp)) r2
      refine ⟨u :: zs, ?_, u, zs, rfl, r1, q2⟩
      show (if fnm g = fnm f then _ else (fnm g, u) :: putF (fnm f) v ((fs.map fun p => fnm p.1).zip us)) = _
      rw [if_neg ne, q1]; rfl
section
variable {X : Cx} {T : Tx} {W : WX} {ma mb : Ev → M MV} {x : Str} {pos pos' : Pos} {e o : Expr}
theorem s_fld (hK : T.K = X.K) (hC : ClsAll T) (f : Nat) (ho : PE X o (tE T W ma)) (hv : PE X e (tE T W mb)) (hf : x = fnm f := by rfl) (hs : swapsWith e (some (.Attribute o x pos')) pos.line X.env = pure false := by rfl) :
    PS X (.Assign [.Attribute o x pos'] e pos) (tS T W (sFldM f ma mb)) :=
  ps_mono (ps_fld ho hv hs) fun D σ H ⟨ρ, st, env, S, E, h⟩ => ⟨ρ, st, env, S, E, (OutS.bnd E h).imp fun v H1 ⟨ρ1, s1, m, F1, r1, q1⟩ => by
    subst hf
    refine ⟨ρ1, s1, env, F1.sim, E.later F1.lat, (OutS.bnd (E.later F1.lat) q1).imp fun o H2 ⟨ρ2, s2, mo, F2, r2, q2⟩ => ?_⟩
    have rv := r1.later F2.lat
    have E2 := E.later (F1.trans F2).lat
    cases e1 : setFld f mo m s2 with
    | none => rw [e1] at q2; exact q2.elim
    | some t =>
      rw [e1] at q2
      obtain ⟨n, c, fs, rfl, ex, hm, hl, rfl⟩ := setFld_some e1
      obtain ⟨a, ea, rfl⟩ := r2
      obtain ⟨dx, vs, ey, hc, hi, h40, r⟩ := F2.sim.cell n a _ ea ex
      have lt : ∀ p ∈ fs, p.1 < 34 := fun p hp => fieldsOf_lt (hi p hp)
      obtain ⟨us0, q0, _⟩ := putN_rel (fieldsOf_lt hm) rv lt r
      refine ⟨a, T.cls c, dx, _, rfl, ey, hK ▸ (hC c hc).cls, hK ▸ (hC c hc).na f hm, ?_, ?_⟩
      · have hz : ((fs.map fun p => fnm p.1).zip vs).length ≤ (fs.map fun p => fnm p.1).length := by rw [List.length_zip]; omega
        rw [List.length_map] at hz
        omega
      · have F4 := F2.sim.set (c := .ins c (putN f m fs)) (o := .ins (T.cls c) dx (putF (fnm f) v ((fs.map fun p => fnm p.1).zip vs))) ea fun ρ' H' L => by
          obtain ⟨us, q3, q4⟩ := putN_rel (fieldsOf_lt hm) (rv.later L) lt (r.later L)
          exact ⟨dx, us, by rw [q3], hc, putN_ids (P := fun i => i ∈ fieldsOf c) hm hi, by have := putN_len (f := f) (v := m) (fs := fs); omega, q4⟩
        exact q2 _ _ _ F4 (E2.later F4.lat)⟩
end
end Z

namespace Z
open PySem PySem.Spec PyProof.Rows L2
open Sem (wp)

/-! ### enumerate(tuple) -/
theorem meets_enumerate_newB1 {v : Value} {o : Obj} {H : Heap → Prop} (B : Begins v o H) :
    Meets (Builtin.«enumerate.__new__» ⟨[.type "enumerate", v], []⟩) (fun _ R s => H s.heap ∧
      R (.ok (.ret (.ref (s.heap.push o).objs.size))) { s with heap := (s.heap.push o).push { cls := .type "enumerate", data := .fields #[.none, .bool false, .ref s.heap.objs.size, rawInt 0, .none, .none] } }) :=
  .of_wp fun prog w A R s h => by
    obtain ⟨hp, g, d, tk, os⟩ := s; obtain ⟨h1, h⟩ := h
    have hsub := sub_enumerate
    have q1 : ∀ {A' : Around} {E : Value → Shared → Prop} {Q : Value → Shared → Prop}, Q (.ref hp.objs.size) ⟨hp.push o, g, d, tk, os⟩ → wpAny (model prog w) A' (pyIter v) Q E ⟨hp, g, d, tk, os⟩ :=
      fun q => B.iter prog w _ _ ⟨hp, g, d, tk, os⟩ _ h1 q
    wp_walk using q1
    refine wpAny_stack_any fun st => wpAny_pure ?_
    split
    · rename_i c _ _ _ _ _
      cases (c == Value.type "enumerate")
      · wp_walk using q1
        exact ⟨_, rfl, h⟩
      · wp_walk using q1
        exact ⟨_, rfl, h⟩
    · wp_walk using q1
      exact ⟨_, rfl, h⟩
theorem enum_begins1 {prog : Program} {w : World} {A : Around} {E : Value → Shared → Prop} {s : Shared} {v : Value} {o : Obj} {H : Heap → Prop} {Q : Value → Shared → Prop} (B : Begins v o H) (h1 : H s.heap)
    (h : ∀ h', IsEnum h' (s.heap.objs.size + 1) s.heap.objs.size 0 .none → h'.get? s.heap.objs.size = some o → h'.objs.size = s.heap.objs.size + 2 →
      (∀ b o, s.heap.get? b = some o → h'.get? b = some o) → Q (.ref (s.heap.objs.size + 1)) { s with heap := h' }) :
    wpAny (model prog w) A (call (.type "enumerate") [v]) Q E s := by
  refine callType_new F.called_enumerate (by decide) (F.typeCall_enumerate_1 _) (F.newCall_enumerate_1 _) (fun obj => F.args_object_init_2 obj _) F.entry_enumerate_new
    (meets_enumerate_newB1 B) ⟨h1, ?_⟩
  have hz : (s.heap.push o).objs.size = s.heap.objs.size + 1 := Heap.size_push ..
  show _ ∧ _
  rw [hz]
  have he : IsEnum ((s.heap.push o).push { cls := .type "enumerate", data := .fields #[.none, .bool false, .ref s.heap.objs.size, rawInt 0, .none, .none] }) (s.heap.objs.size + 1) s.heap.objs.size 0 .none := by
    have := Heap.get?_push_size (s.heap.push o) (o := { cls := .type "enumerate", data := .fields #[.none, .bool false, .ref s.heap.objs.size, rawInt 0, .none, .none] }) rfl
    rw [hz] at this; exact this
  refine ⟨⟨_, he, rfl⟩, h _ he (Heap.get?_push_of_some _ (Heap.get?_push_size _ B.free)) (by rw [Heap.size_push, hz]) fun b o x => Heap.get?_push_of_some _ (Heap.get?_push_of_some _ x)⟩

/-- the tuple at a, each item in a new pair -/
def IteT (K : PySem.W.Frag) (a : Addr) : It :=
  ⟨fun i H => ∃ (xs : List V) (x : V), SqT K H a xs ∧ xs[i]? = some x, fun i H v H' => ∃ T x, v = .ref T ∧ H T = none ∧ H' = upd H T (.tup [.int (i : Nat), x]) ∧ ∀ xs, SqT K H a xs → xs[i]? = some x, fun i H => ∃ xs : List V, SqT K H a xs ∧ xs.length ≤ i⟩
theorem tuple_ne_enum {h : Heap} {a e it : Addr} {c : Int} {old : Value} {xs : Array Value} (p : h.IsTuple a xs) (q : IsEnum h e it c old) : e ≠ a := by
  rintro rfl
  obtain ⟨o, ho, hc, n, hd⟩ := p
  have q' := q.symm.trans ho
  cases q'
  cases hd
theorem tuple_ne_iter {h : Heap} {a it : Addr} {b : Addr} {i : Nat} {xs : Array Value} (p : h.IsTuple a xs) (q : h.IsTupleIter it b i) : a ≠ it := by
  rintro rfl
  obtain ⟨o, ho, hc, n, hd⟩ := p
  obtain ⟨o', ho', hc', hd'⟩ := q
  rw [ho] at ho'
  cases ho'
  rw [hd] at hd'
  cases hd'
theorem turn_enumT {P : Program} {w : World} {K : PySem.W.Frag} {elts : List Expr} {kk : Nat} {tpos : Pos} (a e it : Addr) :
    Turn P w K (.Tuple elts kk tpos) (IteT K a) [e, it] e (fun i h => (∃ old, IsEnum h e it ((i : Nat) : Int) old) ∧ h.IsTupleIter it a i ∧ e ≠ it) where
  mem := by simp
  obj := fun i h st b hb => by
    obtain ⟨⟨old, he⟩, ⟨o, ho, hc, hd⟩, _⟩ := st
    have e' : b = e ∨ b = it := by simpa using hb
    rcases e' with z | z
    · rw [z]; exact ⟨_, he, fun v q => nomatch q⟩
    · rw [z]; exact ⟨o, ho, fun v q => by rw [hd] at q; cases q⟩
  keep := fun i h h' st k => let ⟨⟨old, he⟩, hi, hne⟩ := st; ⟨⟨old, k e (by simp) _ he⟩, hi.at fun o q => k it (by simp) o q, hne⟩
  item := by
    intro X hP hw hK hc i pins s σ H E I hf st hg
    subst hP hw hK
    obtain ⟨⟨old, he⟩, hit, hne⟩ := st
    obtain ⟨xs, x, hq, hx⟩ := hg
    obtain ⟨its, rv, p, hz⟩ := I.tuple hq
    have p' : s.heap.IsTuple a its.toArray := p
    obtain ⟨u, hu, ru⟩ := rv.get hx
    have hel : e < s.heap.objs.size := Heap.lt_size he
    have hil : it < s.heap.objs.size := by obtain ⟨_, q, _⟩ := hit; exact Heap.lt_size q
    have hea := tuple_ne_enum p' he
    have hhd : X.A.handled = none := I.ok.hd hc
    refine wpAny_pyNext_enum_itemC (Draws.tuple (A := X.A.in1) hhd it a (tuple_ne_iter p' hit) its.toArray) he ⟨hit, p'⟩ (Nat.lt_of_lt_of_le (List.getElem?_eq_some_iff.mp hu).1 (by simp)) hne (by simp [hne, hea]) fun u' h' tk hP ho ⟨hit', pt'⟩ hT hsz hk => ?_
    have hu' : u' = u := by
      have h1 : its.toArray[i]? = some u' := hP
      rw [List.getElem?_toArray, hu] at h1
      exact (Option.some.inj h1).symm
    subst hu'
    refine ⟨_, rfl, wpAny_letOwnedTupleGo_enum (s := { s with heap := h', toks := tk + 1 }) ho fun h'' he' sb => ?_⟩
    have hT2 : h''.get? s.heap.objs.size = some { cls := .type "tuple", data := .seq #[.int i tk, u'] } := (sb.2 _ (Nat.ne_of_gt hel)).trans hT
    have new : ObjOk X.prog X.w (upd H s.heap.objs.size (.tup [.int (i : Nat), x])) h'' s.heap.objs.size (.tup [.int (i : Nat), x]) :=
      ⟨by show 2 ≤ sizeLine; decide, [.int i tk, u'], .cons ⟨_, rfl⟩ (.cons ru .nil), ⟨_, hT2, rfl, _, rfl⟩⟩
    have I1 : Inv X pins σ (upd H s.heap.objs.size (.tup [.int (i : Nat), x])) { s with heap := h'', toks := tk + 1 } :=
      I.turnedNew (ch := [e, it]) (fun b ob hb q => (sb.2 b (fun z => hb (by simp [z]))).trans (hk b ob (fun z => hb (by simp [z])) (fun z => hb (by simp [z])) q)) hf (Nat.le_refl _) new
    refine ⟨.ref s.heap.objs.size, _, I1, rfl, ⟨_, x, rfl, I.hok.fresh (Nat.le_refl _), rfl, fun ys hy => by rw [I.tuple_inj hy hq]; exact hx⟩, ⟨⟨u', ?_⟩, hit'.at fun o q => (sb.2 it (Ne.symm hne)).trans q, hne⟩, fun b hb => ?_⟩
    · have e1 : ((i + 1 : Nat) : Int) = (i : Int) + 1 := by omega
      rw [e1]; exact he'
    · have hb' : b < s.heap.objs.size := by
        have e' : b = e ∨ b = it := by simpa using hb
        rcases e' with z | z
        · rw [z]; exact hel
        · rw [z]; exact hil
      rw [upd_ne (Nat.ne_of_lt hb')]
      exact (hf b hb).1
  done := by
    intro X hP hw hK hc i pins s σ H E I hf st hg
    subst hP hw hK
    obtain ⟨⟨old, he⟩, hit, hne⟩ := st
    obtain ⟨xs, hq, hx⟩ := hg
    obtain ⟨its, rv, p, hz⟩ := I.tuple hq
    have p' : s.heap.IsTuple a its.toArray := p
    obtain ⟨f0, f1, f2, f3, f4, f5⟩ := hf it (by simp)
    have hl := rv.length
    have hhd : X.A.handled = none := I.ok.hd hc
    refine wpAny_pyNext_enum_endD (n := 0) (St := fun _ h => h.IsTupleIter it a i ∧ h.IsTuple a its.toArray) (P := fun _ _ => True) (fp := [it, a]) ?_ he ⟨hit, p'⟩ fun h' eb => ⟨rfl, I.turned (t' := s.toks) (fun b o hb q => eb b o hb q) f0 f1 f3 f4 f5⟩
    exact {
      live := fun _ _ st => let ⟨o, ho, _⟩ := st.1; ⟨o, ho⟩
      frame := fun _ _ _ st hk => ⟨st.1.at fun o e => hk it (by simp) o e, st.2.at fun o e => hk a (by simp) o e⟩
      item := fun j s' Q E' hj st' hQ => absurd hj (Nat.not_lt_zero _)
      done := fun s' Q E' st' hE => wpAny_nextOf_tuple_end (A := X.A.in1) hhd st'.1 st'.2 (by simp; omega) hE }
  self := fun A i s Q E st h => let ⟨⟨_, he⟩, _⟩ := st; wpAny_pyIter_enum he h
def iEnumT (K : PySem.W.Frag) (ta : TA) : TI := fun σ H R => ta σ H fun vs H1 => ∃ a xs, vs = [.ref a] ∧ ((SqL K H1 a xs ∧ R (Ite K a) H1) ∨ (SqT K H1 a xs ∧ R (IteT K a) H1))
theorem pi_enumA {X : Cx} {e : Expr} {ta : TA} {p pos tpos : Pos} {elts : List Expr} {kk : Nat} (hg : Gl X "enumerate") (hm : X.mg "enumerate" = none) (ha : PA X [e] ta) (hs : starEach [e] X.env = [(false, eval e X.env)] := by rfl) :
    PI X (.Tuple elts kk tpos) (.Call (.Name "enumerate" p) [e] [] pos) (iEnumT X.K ta) := by
  refine ⟨fun pins s σ H R I h => ?_⟩
  refine Call_ (ld_blt I hg hm boot_enumerate (PyProof.Rows.callWith_type1 (thn (ha.run pos pins s σ H _ I h) fun us s1 ⟨vs, H1, I1, r1, q1⟩ => ?_) hs rfl))
  obtain ⟨a, xs, ex, q⟩ := q1
  subst ex
  cases r1 with
  | cons r rr =>
    cases rr
    cases r
    have fp : ∀ b ∈ [s1.heap.objs.size + 1, s1.heap.objs.size], FpOk X pins H1 b := fun b hb => by
      have e' : b = s1.heap.objs.size + 1 ∨ b = s1.heap.objs.size := by simpa using hb
      have hle : s1.heap.objs.size ≤ b := by
        rcases e' with z | z
        · rw [z]; exact Nat.le_add_right _ _
        · rw [z]; exact Nat.le_refl _
      exact I1.fpOk hle (I1.hok.fresh hle)
    rcases q with ⟨hq, q⟩ | ⟨hq, q⟩
    · obtain ⟨its, rv, p', hz⟩ := I1.list hq
      refine call_enumerate_list p'.isList fun h' he hit hsz hk => wpAny_pyIter_enum he ?_
      exact ⟨s1.heap.objs.size + 1, [s1.heap.objs.size + 1, s1.heap.objs.size], _, _, H1, rfl, I1.kept (t' := s1.toks) hk, turn_enum a (s1.heap.objs.size + 1) s1.heap.objs.size, ⟨⟨.none, he⟩, hit, Nat.succ_ne_self _⟩, fp, q⟩
    · obtain ⟨its, rv, p', hz⟩ := I1.tuple hq
      refine enum_begins1 (begins_tuple a its.toArray) p' fun h' he hit hsz hk => wpAny_pyIter_enum he ?_
      exact ⟨s1.heap.objs.size + 1, [s1.heap.objs.size + 1, s1.heap.objs.size], _, _, H1, rfl, I1.kept (t' := s1.toks) hk, turn_enumT a (s1.heap.objs.size + 1) s1.heap.objs.size, ⟨⟨.none, he⟩, ⟨_, hit, rfl, rfl⟩, Nat.succ_ne_self _⟩, fp, q⟩
end Z

namespace Z
open PySem L2

/-! ### what is walked -/
/-- the items, and what the store must keep meanwhile -/
structure IT where
  xs : List MV
  ok : Sto → Prop
structure WalkM (T : Tx) (J : It) (xs : List MV) (ok : Sto → Prop) (ρ0 : List Addr) (H0 : Hp) : Prop where
  goes : ∀ i ρ st H, i < xs.length → Fut T ρ0 H0 ρ st H → ok st → J.go i H
  stops : ∀ ρ st H, Fut T ρ0 H0 ρ st H → ok st → J.stop xs.length H
  yields : ∀ i ρ st H m x H', xs[i]? = some m → Fut T ρ0 H0 ρ st H → ok st → J.yld i H x H' → Fut T ρ H ρ st H' ∧ RV T ρ H' m x
abbrev MI := Ev → M IT
def OutI (T : Tx) (W : WX) (ρ : List Addr) (H : Hp) (σ : St) (r : R IT) (Q : It → Hp → Prop) : Prop := match r with
  | .ok it s => ∀ ρ' H' J, Fut T ρ H ρ' s H' → WalkM T J it.xs it.ok ρ' H' → Q J H'
  | .ex c fs s => ∀ ρ' H' cl d, Fut T ρ H ρ' s H' → RX T ρ' H' c fs cl d → W cl d σ H'
  | .bad => False
def tI (T : Tx) (W : WX) (m : MI) : TI := fun σ H Q => ∃ ρ st env, Sim T ρ st H ∧ REnv T ρ H env σ ∧ OutI T W ρ H σ (m env st) Q
/-- the list at a is that of xs -/
def LsAt (T : Tx) (a : Addr) (xs : List MV) (ok : Sto → Prop) (ρ0 : List Addr) (H0 : Hp) : Prop := ∀ ρ st H, Fut T ρ0 H0 ρ st H → ok st → ∃ ys, SqL T.K H a ys ∧ RVs T ρ H xs ys
def TpAt (T : Tx) (a : Addr) (xs : List MV) (ρ0 : List Addr) (H0 : Hp) : Prop := ∀ ρ st H, Fut T ρ0 H0 ρ st H → ∃ ys, SqT T.K H a ys ∧ RVs T ρ H xs ys
section
variable {X : Cx} {T : Tx} {W : WX} {ma mb : Ev → M MV} {as : Ev → M (List MV)} {e e2 tg : Expr} {x : Str} {p pos tpos : Pos} {ρ0 : List Addr} {H0 : Hp} {xs ys : List MV} {ok ok2 : Sto → Prop} {a b : Addr}
/-- what stands in a list's place: where it is, and what keeps it -/
def okOf : MV → List MV → Sto → Prop
  | .ref n, xs => fun s => s[n]? = some (.lst xs)
  | _, _ => fun _ => True
def lsOf (s : Sto) (x : MV) : Option IT := match x with
  | .tup _ => none
  | x => (seqOf s x).map fun xs => ⟨xs, okOf x xs⟩
theorem ls_at {st : Sto} {m : MV} {v : V} {it : IT} (S : Sim T ρ0 st H0) (r : RV T ρ0 H0 m v) (h : lsOf st m = some it) : ∃ a, v = .ref a ∧ LsAt T a it.xs it.ok ρ0 H0 ∧ ∃ zs, SqL T.K H0 a zs := by
  cases m with
  | lst xs =>
    cases h
    obtain ⟨a, us, rfl, n, z, r⟩ := r
    exact ⟨a, rfl, fun ρ st H F _ => ⟨us, SqL.of (F.keep a _ n z), r.later F.lat⟩, us, SqL.of z⟩
  | frz xs =>
    cases h
    obtain ⟨a, us, rfl, z, r⟩ := r
    refine ⟨a, rfl, fun ρ st H F _ => ⟨us, ?_, r.later F.lat⟩, us, z.sq⟩
    rcases z with ⟨z1, z2⟩ | z
    · exact .inl (F.lat.rd z1 z2).2
    · exact .inr z
  | ref n =>
    simp only [lsOf] at h
    cases e : seqOf st (.ref n) with
    | none => rw [e] at h; cases h
    | some xs =>
      rw [e] at h; cases h
      obtain ⟨a, us, rfl, z, r2⟩ := list_of S r e
      obtain ⟨a', e1, e2⟩ := r
      cases e2
      refine ⟨a, rfl, fun ρ st H F ho => ?_, us, SqL.of z⟩
      obtain ⟨ys, q1, q2⟩ := F.sim.cell n a _ (F.lat.ix e1) ho
      exact ⟨ys, SqL.of q1, q2⟩
  | _ => cases h
theorem sqL_inj (I : ∃ (pins : List (Addr × Obj)) (σ : St) (s : Shared), Inv X pins σ H0 s) {us ws : List V} (h : SqL X.K H0 a us) (h' : SqL X.K H0 a ws) : us = ws := by
  obtain ⟨pins, σ, s, I⟩ := I
  exact I.list_inj h h'
end

/-! the walks themselves: what is read at a turn is told by any reading of the list, so the reading of the relation serves -/
section
variable {X : Cx} {T : Tx} {W : WX} {ma mb : Ev → M MV} {as : Ev → M (List MV)} {e e2 tg : Expr} {x : Str} {p pos tpos : Pos} {ρ0 : List Addr} {H0 : Hp} {xs ys : List MV} {ok ok2 : Sto → Prop} {a b : Addr}
theorem wk_list (h : LsAt T a xs ok ρ0 H0) : WalkM T (Itl T.K a) xs ok ρ0 H0 where
  goes := fun i ρ st H hi F ho => by
    obtain ⟨us, q, r⟩ := h ρ st H F ho
    have hu : i < us.length := by rw [← r.length]; exact hi
    exact ⟨us, us[i], q, List.getElem?_eq_getElem hu⟩
  stops := fun ρ st H F ho => by
    obtain ⟨us, q, r⟩ := h ρ st H F ho
    exact ⟨us, q, by rw [r.length]; exact Nat.le_refl _⟩
  yields := fun i ρ st H m x H' hm F ho y => by
    obtain ⟨us, q, r⟩ := h ρ st H F ho
    obtain ⟨rfl, y2⟩ := y
    obtain ⟨v, e, rv⟩ := r.get hm
    have := y2 us q
    rw [e] at this; cases this
    exact ⟨Fut.refl F.sim, rv⟩
theorem wk_tup (h : TpAt T a xs ρ0 H0) : WalkM T (Itt T.K a) xs ok ρ0 H0 where
  goes := fun i ρ st H hi F ho => by
    obtain ⟨us, q, r⟩ := h ρ st H F
    have hu : i < us.length := by rw [← r.length]; exact hi
    exact ⟨us, us[i], q, List.getElem?_eq_getElem hu⟩
  stops := fun ρ st H F ho => by
    obtain ⟨us, q, r⟩ := h ρ st H F
    exact ⟨us, q, by rw [r.length]; exact Nat.le_refl _⟩
  yields := fun i ρ st H m x H' hm F ho y => by
    obtain ⟨us, q, r⟩ := h ρ st H F
    obtain ⟨rfl, y2⟩ := y
    obtain ⟨v, e, rv⟩ := r.get hm
    have := y2 us q
    rw [e] at this; cases this
    exact ⟨Fut.refl F.sim, rv⟩
theorem tp_at {st : Sto} {v : V} (S : Sim T ρ0 st H0) (r : RV T ρ0 H0 (.tup xs) v) : ∃ a, v = .ref a ∧ TpAt T a xs ρ0 H0 ∧ ∃ zs, SqT T.K H0 a zs := by
  obtain ⟨a, us, rfl, z, r⟩ := r
  refine ⟨a, rfl, fun ρ st H F => ⟨us, ?_, r.later F.lat⟩, us, z.sq⟩
  rcases z with ⟨z1, z2⟩ | z
  · exact .inl (F.lat.rd z1 z2).2
  · exact .inr z
def intsM (lo : Int) (n : Nat) : List MV := (List.range n).map fun (i : Nat) => .int (lo + i)
theorem ints_get {lo : Int} {n i : Nat} {m : MV} (h : (intsM lo n)[i]? = some m) : m = .int (lo + i) := by
  unfold intsM at h
  rw [List.getElem?_map] at h
  cases e : (List.range n)[i]? with
  | none => rw [e] at h; cases h
  | some j =>
    rw [e] at h; cases h
    obtain ⟨hi, e'⟩ := List.getElem?_eq_some_iff.mp e
    rw [List.getElem_range] at e'
    rw [e']
theorem ints_len {lo : Int} {n : Nat} : (intsM lo n).length = n := by unfold intsM; simp
theorem wk_range {lo : Int} {n : Nat} : WalkM T (Itr lo n) (intsM lo n) ok ρ0 H0 where
  goes := fun i ρ st H hi F ho => by rw [ints_len] at hi; exact hi
  stops := fun ρ st H F ho => by rw [ints_len]; exact Nat.le_refl _
  yields := fun i ρ st H m x H' hm F ho y => by
    obtain ⟨rfl, rfl⟩ := y
    rw [ints_get hm]
    exact ⟨Fut.refl F.sim, rfl⟩
def pairs (xs ys : List MV) : List MV := List.zipWith (fun x y => .tup [x, y]) xs ys
theorem pairs_get {i : Nat} {m : MV} (h : (pairs xs ys)[i]? = some m) : ∃ x y, xs[i]? = some x ∧ ys[i]? = some y ∧ m = .tup [x, y] := by
  unfold pairs at h
  rw [List.getElem?_zipWith] at h
  split at h
  · rename_i x y e1 e2; cases h; exact ⟨x, y, e1, e2, rfl⟩
  · cases h
theorem pairs_len : (pairs xs ys).length = min xs.length ys.length := by unfold pairs; simp
/-- a new pair -/
theorem new_pair {ρ : List Addr} {st : Sto} {H : Hp} {x y : MV} {v w : V} {t : Addr} (S : Sim T ρ st H) (ht : H t = none) (r1 : RV T ρ H x v) (r2 : RV T ρ H y w) : Fut T ρ H ρ st (upd H t (.tup [v, w])) ∧ RV T ρ (upd H t (.tup [v, w])) (.tup [x, y]) (.ref t) := by
  have F := S.fresh (o := .tup [v, w]) ht
  exact ⟨F, t, [v, w], rfl, .inl ⟨S.free ht, .inl upd_same⟩, v, [w], rfl, r1.later F.lat, w, [], rfl, r2.later F.lat, rfl⟩
theorem wk_enum (h : LsAt T a xs ok ρ0 H0) : WalkM T (Ite T.K a) (pairs (intsM 0 xs.length) xs) ok ρ0 H0 where
  goes := fun i ρ st H hi F ho => by
    rw [pairs_len, ints_len, Nat.min_self] at hi
    obtain ⟨us, q, r⟩ := h ρ st H F ho
    have hu : i < us.length := by rw [← r.length]; exact hi
    exact ⟨us, us[i], q, List.getElem?_eq_getElem hu⟩
  stops := fun ρ st H F ho => by
    obtain ⟨us, q, r⟩ := h ρ st H F ho
    exact ⟨us, q, by rw [pairs_len, ints_len, Nat.min_self, r.length]; exact Nat.le_refl _⟩
  yields := fun i ρ st H m x H' hm F ho y => by
    obtain ⟨us, q, r⟩ := h ρ st H F ho
    obtain ⟨t, w, rfl, ht, rfl, y2⟩ := y
    obtain ⟨m1, m2, e1, e2, rfl⟩ := pairs_get hm
    have e3 := ints_get e1
    subst e3
    obtain ⟨v, e, rv⟩ := r.get e2
    have := y2 us q
    rw [e] at this; cases this
    exact new_pair F.sim ht (by show V.int (i : Nat) = V.int (0 + (i : Int)); rw [Int.zero_add]) rv
theorem wk_enumT (h : TpAt T a xs ρ0 H0) : WalkM T (IteT T.K a) (pairs (intsM 0 xs.length) xs) ok ρ0 H0 where
  goes := fun i ρ st H hi F ho => by
    rw [pairs_len, ints_len, Nat.min_self] at hi
    obtain ⟨us, q, r⟩ := h ρ st H F
    have hu : i < us.length := by rw [← r.length]; exact hi
    exact ⟨us, us[i], q, List.getElem?_eq_getElem hu⟩
  stops := fun ρ st H F ho => by
    obtain ⟨us, q, r⟩ := h ρ st H F
    exact ⟨us, q, by rw [pairs_len, ints_len, Nat.min_self, r.length]; exact Nat.le_refl _⟩
  yields := fun i ρ st H m x H' hm F ho y => by
    obtain ⟨us, q, r⟩ := h ρ st H F
    obtain ⟨t, w, rfl, ht, rfl, y2⟩ := y
    obtain ⟨m1, m2, e1, e2, rfl⟩ := pairs_get hm
    have e3 := ints_get e1
    subst e3
    obtain ⟨v, e, rv⟩ := r.get e2
    have := y2 us q
    rw [e] at this; cases this
    exact new_pair F.sim ht (by show V.int (i : Nat) = V.int (0 + (i : Int)); rw [Int.zero_add]) rv
theorem wk_zip (h : LsAt T a xs ok ρ0 H0) (h2 : LsAt T b ys ok2 ρ0 H0) : WalkM T (Itz T.K a b) (pairs xs ys) (fun s => ok s ∧ ok2 s) ρ0 H0 where
  goes := fun i ρ st H hi F ho => by
    rw [pairs_len] at hi
    obtain ⟨us, q, r⟩ := h ρ st H F ho.1
    obtain ⟨ws, q2, r2⟩ := h2 ρ st H F ho.2
    have hu : i < us.length := by rw [← r.length]; omega
    have hw : i < ws.length := by rw [← r2.length]; omega
    exact ⟨us, ws, us[i], ws[i], q, q2, List.getElem?_eq_getElem hu, List.getElem?_eq_getElem hw⟩
  stops := fun ρ st H F ho => by
    obtain ⟨us, q, r⟩ := h ρ st H F ho.1
    obtain ⟨ws, q2, r2⟩ := h2 ρ st H F ho.2
    exact ⟨us, ws, q, q2, by rw [pairs_len, ← r.length, ← r2.length]; omega⟩
  yields := fun i ρ st H m x H' hm F ho y => by
    obtain ⟨us, q, r⟩ := h ρ st H F ho.1
    obtain ⟨ws, q2, r2⟩ := h2 ρ st H F ho.2
    obtain ⟨t, x1, x2, rfl, ht, rfl, y1, y2⟩ := y
    obtain ⟨m1, m2, e1, e2, rfl⟩ := pairs_get hm
    obtain ⟨v, e, rv⟩ := r.get e1
    obtain ⟨v2, e', rv2⟩ := r2.get e2
    have := y1 us q
    rw [e] at this; cases this
    have := y2 ws q2
    rw [e'] at this; cases this
    exact new_pair F.sim ht rv rv2
theorem wk_zipT (h : TpAt T a xs ρ0 H0) (h2 : TpAt T b ys ρ0 H0) : WalkM T (RZ.ItzT T.K a b) (pairs xs ys) ok ρ0 H0 where
  goes := fun i ρ st H hi F ho => by
    rw [pairs_len] at hi
    obtain ⟨us, q, r⟩ := h ρ st H F
    obtain ⟨ws, q2, r2⟩ := h2 ρ st H F
    have hu : i < us.length := by rw [← r.length]; omega
    have hw : i < ws.length := by rw [← r2.length]; omega
    exact ⟨us, ws, us[i], ws[i], q, q2, List.getElem?_eq_getElem hu, List.getElem?_eq_getElem hw⟩
  stops := fun ρ st H F ho => by
    obtain ⟨us, q, r⟩ := h ρ st H F
    obtain ⟨ws, q2, r2⟩ := h2 ρ st H F
    exact ⟨us, ws, q, q2, by rw [pairs_len, ← r.length, ← r2.length]; omega⟩
  yields := fun i ρ st H m x H' hm F ho y => by
    obtain ⟨us, q, r⟩ := h ρ st H F
    obtain ⟨ws, q2, r2⟩ := h2 ρ st H F
    obtain ⟨t, x1, x2, rfl, ht, rfl, y1, y2⟩ := y
    obtain ⟨m1, m2, e1, e2, rfl⟩ := pairs_get hm
    obtain ⟨v, e, rv⟩ := r.get e1
    obtain ⟨v2, e', rv2⟩ := r2.get e2
    have := y1 us q
    rw [e] at this; cases this
    have := y2 ws q2
    rw [e'] at this; cases this
    exact new_pair F.sim ht rv rv2
theorem pi_mono {t t' : TI} (h : PI X tg e t) (q : ∀ σ H R, t' σ H R → t σ H R) : PI X tg e t' := ⟨fun pins s σ H R I z => h.run pins s σ H R I (q σ H R z)⟩
theorem OutI.bnd {α β : Type} {rel : List Addr → Hp → α → β → Prop} {ρ : List Addr} {H : Hp} {σ : St} {st : Sto} {m : M α} {f : α → M IT} {Q : It → Hp → Prop} (h : OutI T W ρ H σ (M.bnd m f st) Q) :
    Out T W rel ρ H σ (m st) (fun b H1 => ∃ ρ1 s1 a, Fut T ρ H ρ1 s1 H1 ∧ rel ρ1 H1 a b ∧ OutI T W ρ1 H1 σ (f a s1) Q) := by
  unfold M.bnd at h
  cases e : m st with
  | ok a t =>
    rw [e] at h
    refine fun ρ1 H1 b F r => ⟨ρ1, t, a, F, r, ?_⟩
    have h' : OutI T W ρ H σ (f a t) Q := h
    revert h'
    cases f a t with
    | ok it s => exact fun h' ρ' H' J F' w => h' ρ' H' J (F.trans F') w
    | ex c fs s => exact fun h' ρ' H' cl d F' w => h' ρ' H' cl d (F.trans F') w
    | bad => exact fun h' => h'
  | ex c fs t => rw [e] at h; exact h
  | bad => rw [e] at h; exact h
/-! lists, tuples -/
def itOf (s : Sto) : MV → Option IT
  | .tup xs => some ⟨xs, fun _ => True⟩
  | x => lsOf s x
def miSeq (ma : Ev → M MV) : MI := fun env => M.bnd (ma env) fun x s => M.opt (itOf s x) s
def iSeq (K : PySem.W.Frag) (tl : TE) : TI := fun σ H R => tl σ H fun x H1 => ∃ a, x = .ref a ∧ (((∃ xs, SqL K H1 a xs) ∧ R (Itl K a) H1) ∨ ((∃ xs, SqT K H1 a xs) ∧ R (Itt K a) H1))
theorem pi_seq {l : Expr} {tl : TE} (hl : PE X l tl) : PI X tg l (iSeq X.K tl) := by
  refine ⟨fun pins s σ H R I h => ?_⟩
  refine thn (hl.run pins s σ H _ I h) fun v s1 ⟨x, H1, I1, r1, q1⟩ => ?_
  obtain ⟨a, e, q⟩ := q1
  subst e
  cases r1
  have fresh : ∀ b, b ∈ [s1.heap.objs.size] → FpOk X pins H1 b := fun b hb => by
    have e : b = s1.heap.objs.size := by simpa using hb
    subst e
    exact I1.fpOk (Nat.le_refl _) (I1.hok.fresh (Nat.le_refl _))
  rcases q with ⟨⟨xs, hq⟩, q⟩ | ⟨⟨xs, hq⟩, q⟩
  · obtain ⟨its, rv, p, hz⟩ := I1.list hq
    exact wpAny_pyIter_list p.isList ⟨s1.heap.objs.size, [s1.heap.objs.size], _, _, H1, rfl, I1.kept (t' := s1.toks) fun b o e => Heap.get?_push_of_some _ e, turn_list a _, ⟨_, Heap.get?_push_size _ rfl, rfl, rfl⟩, fresh, q⟩
  · obtain ⟨its, rv, p, hz⟩ := I1.tuple hq
    exact wpAny_pyIter_tuple (show s1.heap.IsTuple a its.toArray from p) ⟨s1.heap.objs.size, [s1.heap.objs.size], _, _, H1, rfl, I1.kept (t' := s1.toks) fun b o e => Heap.get?_push_of_some _ e, turn_tuple a _, ⟨_, Heap.get?_push_size _ rfl, rfl, rfl⟩, fresh, q⟩
theorem i_seq (hK : T.K = X.K) (he : PE X e (tE T W ma)) : PI X tg e (tI T W (miSeq ma)) := pi_mono (pi_seq he) fun σ H R ⟨ρ, st, env, S, E, h⟩ => by
  refine ⟨ρ, st, env, S, E, (OutI.bnd h).imp fun v H1 ⟨ρ1, s1, m, F1, r1, q1⟩ => ?_⟩
  cases e1 : itOf s1 m with
  | none => rw [e1] at q1; exact q1.elim
  | some it =>
    rw [e1] at q1
    by_cases ht : ∃ xs, m = .tup xs
    · obtain ⟨xs, rfl⟩ := ht
      cases e1
      obtain ⟨a, rfl, h1, zs, h2⟩ := tp_at F1.sim r1
      exact ⟨a, rfl, .inr ⟨⟨zs, hK ▸ h2⟩, hK ▸ q1 ρ1 H1 _ (Fut.refl F1.sim) (wk_tup h1)⟩⟩
    · have e2 : lsOf s1 m = some it := by
        cases m with
        | tup xs => exact absurd ⟨xs, rfl⟩ ht
        | _ => exact e1
      obtain ⟨a, rfl, h1, zs, h2⟩ := ls_at F1.sim r1 e2
      exact ⟨a, rfl, .inl ⟨⟨zs, hK ▸ h2⟩, hK ▸ q1 ρ1 H1 _ (Fut.refl F1.sim) (wk_list h1)⟩⟩
/-! range -/
def small (i : Int) : Bool := decide (-1000000000 ≤ i ∧ i ≤ 1000000000)
def miRange (ma : Ev → M MV) : MI := fun env => M.bnd (ma env) fun x => match x with
  | .int j => if small j then M.ret ⟨intsM 0 j.toNat, fun _ => True⟩ else fun _ => .bad
  | _ => fun _ => .bad
def miRange2 (ma mb : Ev → M MV) : MI := fun env => M.bnd (ma env) fun x => M.bnd (mb env) fun y => match x, y with
  | .int i, .int j => if small i && small j then M.ret ⟨intsM i (j - i).toNat, fun _ => True⟩ else fun _ => .bad
  | _, _ => fun _ => .bad
theorem small_of {i : Int} (h : small i = true) : -(2 ^ 62) ≤ i ∧ i < 2 ^ 62 := by
  have := of_decide_eq_true h
  omega
theorem a_one (he : PE X e (tE T W ma)) (hs : starEach (e :: []) X.env = (false, eval e X.env) :: starEach [] X.env := by rfl) : PA X [e] (tA T W (mCons ma mNil)) := a_cons he a_nil hs
theorem i_range (hm : X.mg "range" = none) (he : PE X e (tE T W ma)) (hg : Gl X "range" := by rfl) (hs : starEach [e] X.env = [(false, eval e X.env)] := by rfl) : PI X tg (.Call (.Name "range" p) [e] [] pos) (tI T W (miRange ma)) :=
  pi_mono (pi_range1 hg hm (pa_cons he pa_nil hs) hs) fun σ H R ⟨ρ, st, env, S, E, h⟩ => by
    refine ⟨ρ, st, env, S, E, (OutI.bnd h).imp fun v H1 ⟨ρ1, s1, m, F1, r1, q1⟩ => ?_⟩
    cases m with
    | int j =>
      cases r1
      simp only at q1
      by_cases hj : small j = true
      · rw [if_pos hj] at q1
        exact ⟨j, rfl, (small_of hj).1, (small_of hj).2, q1 ρ1 H1 _ (Fut.refl F1.sim) wk_range⟩
      · rw [if_neg hj] at q1; exact q1.elim
    | _ => exact False.elim q1
theorem i_range2 (hm : X.mg "range" = none) (he : PE X e (tE T W ma)) (he2 : PE X e2 (tE T W mb)) (hg : Gl X "range" := by rfl) (hs : starEach [e, e2] X.env = [(false, eval e X.env), (false, eval e2 X.env)] := by rfl) (hs2 : starEach [e2] X.env = [(false, eval e2 X.env)] := by rfl) :
    PI X tg (.Call (.Name "range" p) [e, e2] [] pos) (tI T W (miRange2 ma mb)) :=
  pi_mono (pi_range2 hg hm (pa_cons he (pa_cons he2 pa_nil hs2) (by rw [hs, hs2])) hs hs2) fun σ H R ⟨ρ, st, env, S, E, h⟩ => by
    refine ⟨ρ, st, env, S, E, (OutI.bnd h).imp fun v H1 ⟨ρ1, s1, m, F1, r1, q1⟩ => ?_⟩
    refine ⟨ρ1, s1, env, F1.sim, E.later F1.lat, (OutI.bnd q1).imp fun w H2 ⟨ρ2, s2, m2, F2, r2, q2⟩ => ?_⟩
    cases m with
    | int i =>
      cases m2 with
      | int j =>
        cases r1; cases r2
        simp only at q2
        by_cases hj : (small i && small j) = true
        · rw [if_pos hj] at q2
          rw [Bool.and_eq_true] at hj
          exact ⟨i, j, rfl, ⟨(small_of hj.1).1, (small_of hj.1).2, (small_of hj.2).1, (small_of hj.2).2⟩, q2 ρ2 H2 _ (Fut.refl F2.sim) wk_range⟩
        · rw [if_neg hj] at q2; exact q2.elim
      | _ => exact False.elim q2
    | _ => exact False.elim q2
/-! enumerate, zip (of lists; of tuples) -/
def enumOf (s : Sto) : MV → Option IT
  | .tup xs => some ⟨pairs (intsM 0 xs.length) xs, fun _ => True⟩
  | x => (lsOf s x).map fun it => ⟨pairs (intsM 0 it.xs.length) it.xs, it.ok⟩
def miEnum (ma : Ev → M MV) : MI := fun env => M.bnd (ma env) fun x s => M.opt (enumOf s x) s
theorem i_enum {elts : List Expr} {kk : Nat} (hK : T.K = X.K) (hm : X.mg "enumerate" = none) (he : PE X e (tE T W ma)) (hg : Gl X "enumerate" := by rfl) (hs : starEach [e] X.env = [(false, eval e X.env)] := by rfl) :
    PI X (.Tuple elts kk tpos) (.Call (.Name "enumerate" p) [e] [] pos) (tI T W (miEnum ma)) :=
  pi_mono (pi_enumA hg hm (pa_cons he pa_nil hs) hs) fun σ H R ⟨ρ, st, env, S, E, h⟩ => by
    refine ⟨ρ, st, env, S, E, (OutI.bnd h).imp fun v H1 ⟨ρ1, s1, m, F1, r1, q1⟩ => ?_⟩
    cases e1 : enumOf s1 m with
    | none => rw [e1] at q1; exact q1.elim
    | some it =>
      rw [e1] at q1
      by_cases ht : ∃ xs, m = .tup xs
      · obtain ⟨xs, rfl⟩ := ht
        cases e1
        obtain ⟨a, rfl, h1, zs, h2⟩ := tp_at F1.sim r1
        exact ⟨a, zs, rfl, .inr ⟨hK ▸ h2, hK ▸ q1 ρ1 H1 _ (Fut.refl F1.sim) (wk_enumT h1)⟩⟩
      · have e2 : (lsOf s1 m).map (fun it => (⟨pairs (intsM 0 it.xs.length) it.xs, it.ok⟩ : IT)) = some it := by
          unfold enumOf at e1
          split at e1
          · exact absurd ⟨_, rfl⟩ ht
          · exact e1
        obtain ⟨j, g1, rfl⟩ := Option.map_eq_some_iff.mp e2
        obtain ⟨a, rfl, h1, zs, h2⟩ := ls_at F1.sim r1 g1
        exact ⟨a, zs, rfl, .inl ⟨hK ▸ h2, hK ▸ q1 ρ1 H1 _ (Fut.refl F1.sim) (wk_enum h1)⟩⟩
def zipOf (s : Sto) : MV → MV → Option IT
  | .tup xs, .tup ys => some ⟨pairs xs ys, fun _ => True⟩
  | x, y => match lsOf s x, lsOf s y with
    | some i, some j => some ⟨pairs i.xs j.xs, fun s => i.ok s ∧ j.ok s⟩
    | _, _ => none
def miZip (ma mb : Ev → M MV) : MI := fun env => M.bnd (ma env) fun x => M.bnd (mb env) fun y s => M.opt (zipOf s x y) s
theorem i_zip {elts : List Expr} {kk : Nat} (hK : T.K = X.K) (hm : X.mg "zip" = none) (he : PE X e (tE T W ma)) (he2 : PE X e2 (tE T W mb)) (hg : Gl X "zip" := by rfl)
    (hs : starEach [e, e2] X.env = (false, eval e X.env) :: starEach [e2] X.env := by rfl) (hpl : (backTo pos (starEach [e2] X.env)).any (·.1) = false := by rfl) (hs2 : starEach [e2] X.env = (false, eval e2 X.env) :: starEach [] X.env := by rfl) :
    PI X (.Tuple elts kk tpos) (.Call (.Name "zip" p) [e, e2] [] pos) (tI T W (miZip ma mb)) :=
  pi_mono (RZ.pi_zipA hg hm (pa_cons he (pa_cons he2 pa_nil hs2) hs) hs hpl) fun σ H R ⟨ρ, st, env, S, E, h⟩ => by
    refine ⟨ρ, st, env, S, E, (OutI.bnd h).imp fun v H1 ⟨ρ1, s1, m, F1, r1, q1⟩ => ?_⟩
    refine ⟨ρ1, s1, env, F1.sim, E.later F1.lat, (OutI.bnd q1).imp fun w H2 ⟨ρ2, s2, m2, F2, r2, q2⟩ => ?_⟩
    have r1' := r1.later F2.lat
    cases e1 : zipOf s2 m m2 with
    | none => rw [e1] at q2; exact q2.elim
    | some it =>
      rw [e1] at q2
      have q3 := fun J w => q2 ρ2 H2 J (Fut.refl F2.sim) w
      by_cases ht : ∃ xs ys, m = .tup xs ∧ m2 = .tup ys
      · obtain ⟨xs, ys, rfl, rfl⟩ := ht
        cases e1
        obtain ⟨a, rfl, h1, zs, h2⟩ := tp_at F2.sim r1'
        obtain ⟨b, rfl, h3, ws, h4⟩ := tp_at F2.sim r2
        exact ⟨a, b, zs, ws, rfl, .inr ⟨hK ▸ h2, hK ▸ h4, hK ▸ q3 _ (wk_zipT h1 h3)⟩⟩
      · have e2 : ∃ i j, lsOf s2 m = some i ∧ lsOf s2 m2 = some j ∧ it = ⟨pairs i.xs j.xs, fun s => i.ok s ∧ j.ok s⟩ := by
          unfold zipOf at e1
          split at e1
          · exact absurd ⟨_, _, rfl, rfl⟩ ht
          · split at e1
            · rename_i i j h1 h2; cases e1; exact ⟨i, j, h1, h2, rfl⟩
            · cases e1
        obtain ⟨i, j, g1, g2, rfl⟩ := e2
        obtain ⟨a, rfl, h1, zs, h2⟩ := ls_at F2.sim r1' g1
        obtain ⟨b, rfl, h3, ws, h4⟩ := ls_at F2.sim r2 g2
        exact ⟨a, b, zs, ws, rfl, .inl ⟨hK ▸ h2, hK ▸ h4, hK ▸ q3 _ (wk_zip h1 h3)⟩⟩
end
end Z

namespace Z
open PySem L2

/-! ### for -/
open Classical in
noncomputable def forL (g : MG) (b : MS) (ok : Sto → Prop) : List MV → MS
  | [], env, st => if ok st then .nx env st else .bad
  | x :: r, env, st => if ok st then match g x env st with
      | .ok e s => match b e s with
        | .nx e s => forL g b ok r e s
        | .ct e s => forL g b ok r e s
        | .bk e s => .nx e s
        | .rt v s => .rt v s
        | .ex e c fs s => .ex e c fs s
        | .bad => .bad
      | _ => .bad
    else .bad
noncomputable def sFor (mi : MI) (g : MG) (b : MS) : MS := fun env => bndS (mi env) env fun it s => forL g b it.ok it.xs env s
theorem for_nil {g : MG} {b : MS} {ok : Sto → Prop} {env : Ev} {st : Sto} (h : ok st) : forL g b ok [] env st = .nx env st := by
  unfold forL; rw [if_pos h]
section
variable {X : Cx} {T : Tx} {W : WX} {mi : MI} {g : MG} {b : MS} {tg iter c : Expr} {body : List Stmt} {pos : Pos} {vs : List Nat} {mt : Ev → M Bool}
theorem s_for (hp : PassesOwn (model X.prog X.w) X.A X.env X.xe) (hc : X.calm = true) (hi : PI X tg iter (tI T W mi)) (hg : PG X tg (tTg T vs g)) (hb : PSs X body (tS T W b)) (hs : ∀ x, foldedSetIterable iter X.env x = pure x := by intro _; rfl) :
    PS X (.For tg iter body [] pos) (tS T W (sFor mi g b)) := ps_mono (ps_for hp hc hi hg hb hs) fun D σ H ⟨ρ, st, env, S, E, h⟩ => by
  refine ⟨ρ, st, env, S, E, ?_⟩
  unfold sFor bndS at h
  cases e : mi env st with
  | bad => simp only [e] at h; exact h.elim
  | ex c fs s => simp only [e] at h; exact fun ρ' H' cl d F r => h ρ' H' σ cl d F (E.later F.lat) r
  | ok it s =>
    simp only [e] at h
    intro ρ0 H0 J F0 wk
    have h0 : OutS T W ρ0 H0 D (forL g b it.ok it.xs env s) := OutS.fut F0 h
    refine ⟨fun i m σ H => m = it.xs.length - i ∧ i ≤ it.xs.length ∧ ∃ ρ st env, Fut T ρ0 H0 ρ st H ∧ REnv T ρ H env σ ∧ OutS T W ρ H D (forL g b it.ok (it.xs.drop i) env st), ⟨_, rfl, Nat.zero_le _, ρ0, s, env, Fut.refl F0.sim, E.later F0.lat, h0⟩, ?_⟩
    rintro i m σ1 H1 ⟨rfl, hi, ρ1, st1, env1, F1, E1, h1⟩
    by_cases hlt : i < it.xs.length
    · right
      rw [List.drop_eq_getElem_cons hlt] at h1
      unfold forL at h1
      by_cases ho : it.ok st1
      · rw [if_pos ho] at h1
        refine ⟨wk.goes i ρ1 st1 H1 hlt F1 ho, fun σ H => ∃ ρ st env, Fut T ρ0 H0 ρ st H ∧ REnv T ρ H env σ ∧ OutS T W ρ H D (forL g b it.ok (it.xs.drop (i + 1)) env st), fun σ' H' p => ⟨it.xs.length - (i + 1), by omega, rfl, hlt, p⟩, fun x H2 y => ?_⟩
        obtain ⟨F2, rx⟩ := wk.yields i ρ1 st1 H1 it.xs[i] x H2 (List.getElem?_eq_getElem hlt) F1 ho y
        refine ⟨ρ1, st1, env1, it.xs[i], F2.sim, E1.later F2.lat, rx, ?_⟩
        cases q : g it.xs[i] env1 st1 with
        | ok e2 s2 =>
          simp only [q] at h1
          intro ρ3 H3 σ3 F3 E3 _
          refine ⟨ρ3, s2, e2, F3.sim, E3, ?_⟩
          have h3 := OutS.fut (F2.trans F3) h1
          have F13 := F1.trans (F2.trans F3)
          cases q2 : b e2 s2 with
          | nx e s => simp only [q2] at h3; exact fun ρ' H' σ' F' E' => ⟨ρ', s, e, F13.trans F', E', h3.fut F'⟩
          | ct e s => simp only [q2] at h3; exact fun ρ' H' σ' F' E' => ⟨ρ', s, e, F13.trans F', E', h3.fut F'⟩
          | bk e s => simp only [q2] at h3; exact h3
          | rt v s => simp only [q2] at h3; exact h3
          | ex e c fs s => simp only [q2] at h3; exact h3
          | bad => simp only [q2] at h3; exact h3
        | ex c fs s2 => simp only [q] at h1; exact h1
        | bad => simp only [q] at h1; exact h1
      · rw [if_neg ho] at h1; exact h1.elim
    · left
      have ei : i = it.xs.length := by omega
      subst ei
      rw [List.drop_length] at h1
      unfold forL at h1
      by_cases ho : it.ok st1
      · rw [if_pos ho] at h1
        exact ⟨wk.stops ρ1 st1 H1 F1 ho, h1 ρ1 H1 σ1 (Fut.refl F1.sim) E1⟩
      · rw [if_neg ho] at h1; exact h1.elim
end

/-! ### while -/
def whileN (mt : Ev → M Bool) (b : MS) : Nat → MS
  | 0, _, _ => .bad
  | n + 1, env, st => bndS (mt env) env (fun k s => if k = true then (match b env s with
      | .nx e s => whileN mt b n e s
      | .ct e s => whileN mt b n e s
      | .bk e s => .nx e s
      | .rt v s => .rt v s
      | .ex e c fs s => .ex e c fs s
      | .bad => .bad) else .nx env s) st
theorem while_more {mt : Ev → M Bool} {b : MS} : ∀ {n : Nat} {env : Ev} {st : Sto} {r : Fl}, whileN mt b n env st = r → r ≠ .bad → whileN mt b (n + 1) env st = r
  | 0, env, st, r, h, hr => absurd h.symm hr
  | n + 1, env, st, r, h, hr => by
    subst h
    conv => lhs; unfold whileN
    conv at hr => lhs; unfold whileN
    conv => rhs; unfold whileN
    unfold bndS at hr ⊢
    cases e : mt env st with
    | bad => rfl
    | ex c fs s => rfl
    | ok k s =>
      simp only [e] at hr ⊢
      cases k with
      | false => rfl
      | true =>
        simp only [if_true] at hr ⊢
        cases e2 : b env s with
        | nx e3 s3 => simp only [e2] at hr ⊢; exact while_more rfl hr
        | ct e3 s3 => simp only [e2] at hr ⊢; exact while_more rfl hr
        | bk e3 s3 => rfl
        | rt v s3 => rfl
        | ex e3 c fs s3 => rfl
        | bad => rfl
open Classical in
noncomputable def sWhile (mt : Ev → M Bool) (b : MS) : MS := fun env st => if h : ∃ n, whileN mt b n env st ≠ .bad then whileN mt b h.choose env st else .bad
theorem while_add {mt : Ev → M Bool} {b : MS} {n : Nat} {env : Ev} {st : Sto} {r : Fl} (h : whileN mt b n env st = r) (hr : r ≠ .bad) : ∀ k, whileN mt b (n + k) env st = r
  | 0 => h
  | k + 1 => while_more (while_add h hr k) hr
theorem while_eq {mt : Ev → M Bool} {b : MS} {n : Nat} {env : Ev} {st : Sto} {r : Fl} (h : whileN mt b n env st = r) (hr : r ≠ .bad) : sWhile mt b env st = r := by
  have hx : ∃ n, whileN mt b n env st ≠ .bad := ⟨n, by rw [h]; exact hr⟩
  unfold sWhile
  rw [dif_pos hx]
  have q := hx.choose_spec
  have e1 := while_add (r := _) rfl q n
  have e2 := while_add h hr hx.choose
  rw [Nat.add_comm] at e2
  rw [← e1, e2]
section
variable {X : Cx} {T : Tx} {W : WX} {b : MS} {c : Expr} {body : List Stmt} {pos : Pos} {mt : Ev → M Bool}
theorem s_while (hp : PassesOwn (model X.prog X.w) X.A X.env X.xe) (hc : PT X c (tT T W mt)) (hb : PSs X body (tS T W b)) : PS X (.While c body [] pos) (tS T W (sWhile mt b)) :=
  ps_mono (ps_while hp hc hb) fun D σ H ⟨ρ, st, env, S, E, h⟩ => by
    unfold sWhile at h
    split at h
    · rename_i hx
      refine ⟨fun m σ H => ∃ ρ st env, Sim T ρ st H ∧ REnv T ρ H env σ ∧ OutS T W ρ H D (whileN mt b m env st), ⟨_, ρ, st, env, S, E, h⟩, ?_⟩
      rintro m σ1 H1 ⟨ρ1, st1, env1, S1, E1, h1⟩
      cases m with
      | zero => exact h1.elim
      | succ n =>
        unfold whileN at h1
        refine ⟨ρ1, st1, env1, S1, E1, (OutS.bnd E1 h1).imp fun k H2 ⟨ρ2, s2, k', F2, rk, q2⟩ => ?_⟩
        subst rk
        have E2 := E1.later F2.lat
        cases k' with
        | false =>
          rw [if_neg (by decide)]
          rw [if_neg (by decide)] at q2
          exact q2 ρ2 H2 σ1 (Fut.refl F2.sim) E2
        | true =>
          rw [if_pos rfl]
          rw [if_pos rfl] at q2
          refine ⟨fun σ H => ∃ ρ st env, Sim T ρ st H ∧ REnv T ρ H env σ ∧ OutS T W ρ H D (whileN mt b n env st), fun σ' H' p => ⟨n, Nat.lt_succ_self _, p⟩, ρ2, s2, env1, F2.sim, E2, ?_⟩
          cases q3 : b env1 s2 with
          | nx e s => simp only [q3] at q2; exact fun ρ' H' σ' F' E' => ⟨ρ', s, e, F'.sim, E', q2.fut F'⟩
          | ct e s => simp only [q3] at q2; exact fun ρ' H' σ' F' E' => ⟨ρ', s, e, F'.sim, E', q2.fut F'⟩
          | bk e s => simp only [q3] at q2; exact q2
          | rt v s => simp only [q3] at q2; exact q2
          | ex e c fs s => simp only [q3] at q2; exact q2
          | bad => simp only [q3] at q2; exact q2
    · exact h.elim
end

/-! ### comprehensions -/
def wipeM (env : Ev) : List Nat → Ev
  | [] => env
  | v :: vs => (wipeM env vs).set v none
theorem REnv.wipe {T : Tx} {ρ : List Addr} {H : Hp} {env : Ev} {σ : St} (E : REnv T ρ H env σ) : ∀ vs : List Nat, REnv T ρ H (wipeM env vs) (L2.wipe σ vs)
  | [] => E
  | v :: vs => (REnv.wipe E vs).unset v
abbrev WF : WX := fun _ _ _ _ => False
mutual
/-- it speaks of cells below n alone -/
def blw (n : Nat) : MV → Bool
  | .ref m => decide (m < n)
  | .tup xs => blws n xs
  | .lst xs => blws n xs
  | .frz xs => blws n xs
  | .ins _ xs => blws n xs
  | .non => true
  | .bl _ => true
  | .int _ => true
  | .str _ => true
  | .fn _ => true
  | .exc => true
def blws (n : Nat) : List MV → Bool
  | [] => true
  | x :: xs => blw n x && blws n xs
end
def cellB (n : Nat) : Cell → Bool
  | .lst xs => blws n xs
  | .ins _ fs => blws n (fs.map (·.2))
  | .dct kvs => blws n (kvs.map (·.2))
mutual
theorem blw_back {T : Tx} {ρ e : List Addr} {H : Hp} : ∀ (m : MV) (v : V), blw ρ.length m = true → RV T (ρ ++ e) H m v → RV T ρ H m v
  | .non, v, _, h => h
  | .bl _, v, _, h => h
  | .int _, v, _, h => h
  | .str _, v, _, h => h
  | .fn _, v, _, h => h
  | .exc, v, _, h => h
  | .tup xs, v, b, h => by
    obtain ⟨a, ys, rfl, z, r⟩ := h
    refine ⟨a, ys, rfl, ?_, blws_back xs ys (by simpa [blw] using b) r⟩
    rcases z with ⟨z1, z2⟩ | z
    · exact .inl ⟨fun q => z1 (List.mem_append_left _ q), z2⟩
    · exact .inr z
  | .lst xs, v, b, h => by
    obtain ⟨a, ys, rfl, z1, z, r⟩ := h
    exact ⟨a, ys, rfl, fun q => z1 (List.mem_append_left _ q), z, blws_back xs ys (by simpa [blw] using b) r⟩
  | .frz xs, v, b, h => by
    obtain ⟨a, ys, rfl, z, r⟩ := h
    refine ⟨a, ys, rfl, ?_, blws_back xs ys (by simpa [blw] using b) r⟩
    rcases z with ⟨z1, z2⟩ | z
    · exact .inl ⟨fun q => z1 (List.mem_append_left _ q), z2⟩
    · exact .inr z
  | .ins c xs, v, b, h => by
    obtain ⟨a, dx, vs, rfl, z1, z2, z3, z4, r⟩ := h
    exact ⟨a, dx, vs, rfl, fun q => z1 (List.mem_append_left _ q), z2, z3, z4, blws_back xs vs (by simpa [blw] using b) r⟩
  | .ref n, v, b, h => by
    obtain ⟨a, e1, rfl⟩ := h
    have hn : n < ρ.length := by simpa [blw] using b
    rw [List.getElem?_append_left hn] at e1
    exact ⟨a, e1, rfl⟩
theorem blws_back {T : Tx} {ρ e : List Addr} {H : Hp} : ∀ (ms : List MV) (vs : List V), blws ρ.length ms = true → RVs T (ρ ++ e) H ms vs → RVs T ρ H ms vs
  | [], vs, _, h => h
  | x :: xs, vs, b, h => by
    obtain ⟨y, ys, rfl, h1, h2⟩ := h
    have b' : blw ρ.length x = true ∧ blws ρ.length xs = true := by simpa [blws] using b
    exact ⟨y, ys, rfl, blw_back x y b'.1 h1, blws_back xs ys b'.2 h2⟩
end
theorem cellB_back {T : Tx} {ρ e : List Addr} {H : Hp} {o : Option HO} : ∀ {c : Cell}, cellB ρ.length c = true → RC T (ρ ++ e) H c o → RC T ρ H c o
  | .lst xs, b, h => by obtain ⟨ys, e1, r⟩ := h; exact ⟨ys, e1, blws_back xs ys b r⟩
  | .ins c fs, b, h => by obtain ⟨dx, vs, e1, h1, h2, h3, r⟩ := h; exact ⟨dx, vs, e1, h1, h2, h3, blws_back _ vs b r⟩
  | .dct kvs, b, h => by
    obtain ⟨u, e1, r⟩ := h
    refine ⟨u, e1, ?_⟩
    rcases r with ⟨ys, h1, h2, r⟩ | ⟨ys, h1, h2, r⟩
    · exact .inl ⟨ys, h1, h2, blws_back _ _ b r⟩
    · exact .inr ⟨ys, h1, h2, blws_back _ _ b r⟩
/-- the cells of s are as they were, or speak of cells below -/
def Bk (s t : Sto) : Prop := ∀ (i : Nat) (c : Cell), t[i]? = some c → i < s.length → s[i]? = some c ∨ cellB s.length c = true
theorem RC.back {T : Tx} {ρ e : List Addr} {H H' : Hp} {o o0 : Option HO} : ∀ {c : Cell}, RC T (ρ ++ e) H' c o → RC T ρ H c o0 → RC T ρ H' c o
  | .lst xs, rc, rc0 => by
    obtain ⟨ys, e3, r⟩ := rc
    obtain ⟨zs, _, r0⟩ := rc0
    exact ⟨ys, e3, RVs.back xs ys zs r r0⟩
  | .ins c fs, rc, rc0 => by
    obtain ⟨dx, vs, e3, h1, h2, h3, r⟩ := rc
    obtain ⟨dx0, vs0, _, _, _, _, r0⟩ := rc0
    exact ⟨dx, vs, e3, h1, h2, h3, RVs.back _ vs vs0 r r0⟩
  | .dct kvs, rc, rc0 => by
    obtain ⟨u, e3, r⟩ := rc
    obtain ⟨u0, _, r0⟩ := rc0
    refine ⟨u, e3, ?_⟩
    have q0 : ∃ us, RVs T ρ H (kvs.map (·.2)) us := by
      rcases r0 with ⟨ys, _, _, r⟩ | ⟨ys, _, _, r⟩
      · exact ⟨_, r⟩
      · exact ⟨_, r⟩
    obtain ⟨us, q0⟩ := q0
    rcases r with ⟨ys, h1, h2, r⟩ | ⟨ys, h1, h2, r⟩
    · exact .inl ⟨ys, h1, h2, RVs.back _ _ us r q0⟩
    · exact .inr ⟨ys, h1, h2, RVs.back _ _ us r q0⟩
open Classical in
/-- the turns: the new list stands in cell n -/
noncomputable def lcL (g : MG) (mt : Ev → M Bool) (me : Ev → M MV) (ok : Sto → Prop) (n : Nat) (env : Ev) : List MV → Sto → Option Sto
  | [], s => if ok s then some s else none
  | x :: r, s => if ok s then match g x env s with
      | .ok e s1 => match mt e s1 with
        | .ok true s2 => match me e s2 with
          | .ok y s3 => match s3[n]? with
            | some (.lst acc) => if acc.length < line then lcL g mt me ok n env r (s3.set n (.lst (acc ++ [y]))) else none
            | _ => none
          | _ => none
        | .ok false s2 => lcL g mt me ok n env r s2
        | _ => none
      | _ => none
    else none
open Classical in
noncomputable def mLc (fr : Bool) (mi : MI) (g : MG) (mt : Ev → M Bool) (me : Ev → M MV) (vs : List Nat) : Ev → M MV := fun env => M.bnd (mi env) fun it s =>
  match lcL g mt me it.ok s.length (wipeM env vs) it.xs (s ++ [.lst []]) with
  | some t => if fr = true then match t[s.length]? with
      | some (.lst acc) => if t.length = s.length + 1 ∧ Bk s t then match acc.mapM (frzM t s.length 40) with
          | some acc' => .ok (.lst acc') (t.take s.length)
          | none => .bad
        else .bad
      | _ => .bad
    else .ok (.ref s.length) t
  | none => .bad
def mYes : Ev → M Bool := fun _ => M.ret true
section
variable {X : Cx} {T : Tx} {W : WX} {mi : MI} {g : MG} {mt : Ev → M Bool} {me : Ev → M MV} {vs : List Nat} {own : List (Str × Nat)} {scope : Scope} {elt tg iter : Expr} {ifs : List Expr} {pos : Pos}
theorem pts_mono {X : Cx} {t t' : TT} (h : PTs X ifs t) (q : ∀ σ H Q, t' σ H Q → t σ H Q) : PTs X ifs t' := ⟨fun pins s σ H Q I z => h.run pins s σ H Q I (q σ H Q z)⟩
theorem ts_nil {X : Cx} : PTs X [] (tT T W mYes) := pts_mono pts_nil fun σ H Q ⟨ρ, st, env, S, E, h⟩ => h ρ H true (Fut.refl S) rfl
theorem ts_one {X : Cx} {c : Expr} (h : PT X c (tT T W mt)) : PTs X [c] (tT T W mt) := pts_one h
/-- the last cell is let go: its object is inline from then on -/
theorem Fut.pop {ρ : List Addr} {H H' : Hp} {s t : Sto} {ρ1 : List Addr} {D : Addr} (S : Sim T ρ s H) (hD : H D = none) (F : Fut T ρ H ρ1 t H') (hi : ρ1[s.length]? = some D) (hl : t.length = s.length + 1) (hc : Bk s t) :
    ρ1.take s.length = ρ ∧ Fut T ρ H ρ (t.take s.length) H' := by
  obtain ⟨e, rfl, he⟩ := F.more
  have hlen := S.len
  have ht : (ρ ++ e).take s.length = ρ := by rw [← hlen]; simp
  refine ⟨ht, ⟨Lat.refl.more, ⟨by rw [List.length_take, hl, hlen]; omega, S.nd, fun c fs cl d a h => (S.exc c fs cl d a h).later ⟨Lat.refl.more, F.keep⟩, fun i a c e1 e2 => ?_⟩, F.keep⟩⟩
  have hi' := (List.getElem?_eq_some_iff.mp e2).1
  rw [List.length_take] at hi'
  have e1' : (ρ ++ e)[i]? = some a := by rw [List.getElem?_append_left (by omega)]; exact e1
  have e2' : t[i]? = some c := by rw [List.getElem?_take_of_lt (by omega)] at e2; exact e2
  have rc := F.sim.cell i a c e1' e2'
  rcases hc i c e2' (by omega) with h | hb
  · exact rc.back (S.cell i a c e1 h)
  · rw [← hlen] at hb
    exact cellB_back hb rc
theorem lc_red {fr : Bool} {σ : St} {H : Hp} {Q : VK} (h : tE T W (mLc fr mi g mt me vs) σ H Q) : tLc (tI T W mi) (tTg T vs g) (tT T WF mt) (tE T WF me) vs σ H Q := by
  obtain ⟨ρ, st, env, S, E, h⟩ := h
  refine ⟨ρ, st, env, S, E, ?_⟩
  unfold mLc M.bnd at h
  cases e : mi env st with
  | bad => simp only [e] at h; exact h.elim
  | ex c fs s => simp only [e] at h; exact h
  | ok it s =>
    simp only [e] at h
    intro ρ0 H0 J F0 wk D hD
    have h0 := Out.fut F0 h
    have FD := F0.sim.push (c := .lst []) (o := .lst []) hD fun ρ' H' L => ⟨[], rfl, rfl⟩
    have nD : (ρ0 ++ [D])[s.length]? = some D := by rw [← F0.sim.len]; simp
    cases hl : lcL g mt me it.ok s.length (wipeM env vs) it.xs (s ++ [.lst []]) with
    | none => rw [hl] at h0; exact h0.elim
    | some t =>
      rw [hl] at h0
      refine ⟨fun i m H => m = it.xs.length - i ∧ i ≤ it.xs.length ∧ ∃ ρ st, Fut T (ρ0 ++ [D]) (upd H0 D (.lst [])) ρ st H ∧ lcL g mt me it.ok s.length (wipeM env vs) (it.xs.drop i) st = some t, ⟨_, rfl, Nat.zero_le _, _, _, Fut.refl FD.sim, hl⟩, ?_⟩
      rintro i m H1 ⟨rfl, hi, ρ1, st1, F1, h1⟩
      have F01 : Fut T ρ0 H0 ρ1 st1 H1 := FD.trans F1
      by_cases hlt : i < it.xs.length
      · right
        rw [List.drop_eq_getElem_cons hlt] at h1
        unfold lcL at h1
        by_cases ho : it.ok st1
        · rw [if_pos ho] at h1
          refine ⟨wk.goes i ρ1 st1 H1 hlt F01 ho, fun H => ∃ ρ st, Fut T (ρ0 ++ [D]) (upd H0 D (.lst [])) ρ st H ∧ lcL g mt me it.ok s.length (wipeM env vs) (it.xs.drop (i + 1)) st = some t, fun H' p => ⟨it.xs.length - (i + 1), by omega, rfl, hlt, p⟩, fun x H2 y => ?_⟩
          obtain ⟨F2, rx⟩ := wk.yields i ρ1 st1 H1 it.xs[i] x H2 (List.getElem?_eq_getElem hlt) F01 ho y
          have E2 : REnv T ρ1 H2 (wipeM env vs) (L2.wipe σ vs) := (E.later (F0.trans (F01.trans F2)).lat).wipe vs
          refine ⟨ρ1, st1, wipeM env vs, it.xs[i], F2.sim, E2, rx, ?_⟩
          cases q1 : g it.xs[i] (wipeM env vs) st1 with
          | ok e2 s2 =>
            simp only [q1] at h1
            intro ρ3 H3 σ3 F3 E3 w3
            refine ⟨by rw [w3, wipe_wipe], ρ3, s2, e2, F3.sim, E3, ?_⟩
            cases q2 : mt e2 s2 with
            | ok k s4 =>
              simp only [q2] at h1
              intro ρ4 H4 b F4 rb
              subst rb
              cases k with
              | false =>
                rw [if_neg (by decide)]
                simp only at h1
                exact ⟨ρ4, s4, F1.trans (F2.trans (F3.trans F4)), h1⟩
              | true =>
                rw [if_pos rfl]
                simp only at h1
                refine ⟨ρ4, s4, e2, F4.sim, E3.later F4.lat, ?_⟩
                cases q3 : me e2 s4 with
                | ok y s5 =>
                  simp only [q3] at h1
                  intro ρ5 H5 v F5 rv
                  have F15 := F1.trans (F2.trans (F3.trans (F4.trans F5)))
                  have nD5 := F15.lat.ix nD
                  cases q4 : s5[s.length]? with
                  | none => simp only [q4] at h1; cases h1
                  | some cl =>
                    simp only [q4] at h1
                    cases cl with
                    | lst acc =>
                      simp only at h1
                      by_cases hz : acc.length < line
                      · rw [if_pos hz] at h1
                        obtain ⟨us, eu, ru⟩ := F5.sim.cell _ D _ nD5 q4
                        refine ⟨us, eu, by rw [← ru.length]; exact line_lt hz, ρ5, _, ?_, h1⟩
                        exact F15.trans (F5.sim.set (c := .lst (acc ++ [y])) (o := .lst (us ++ [v])) nD5 fun ρ' H' L => ⟨_, rfl, (ru.later L).append (RVs.one (rv.later L))⟩)
                      · rw [if_neg hz] at h1; cases h1
                    | _ => cases h1
                | ex c fs s5 => simp only [q3] at h1; cases h1
                | bad => simp only [q3] at h1; cases h1
            | ex c fs s4 => simp only [q2] at h1; cases h1
            | bad => simp only [q2] at h1; cases h1
          | ex c fs s2 => simp only [q1] at h1; cases h1
          | bad => simp only [q1] at h1; cases h1
        · rw [if_neg ho] at h1; cases h1
      · left
        have ei : i = it.xs.length := by omega
        subst ei
        rw [List.drop_length] at h1
        unfold lcL at h1
        by_cases ho : it.ok st1
        · rw [if_pos ho] at h1
          have e1 : st1 = t := Option.some.inj h1
          subst e1
          refine ⟨wk.stops ρ1 st1 H1 F01 ho, ?_⟩
          have nD1 := F1.lat.ix nD
          cases fr with
          | false => exact h0 ρ1 H1 (.ref D) F01 ⟨D, nD1, rfl⟩
          | true =>
            simp only [if_true] at h0
            cases q4 : st1[s.length]? with
            | none => simp only [q4] at h0; exact h0.elim
            | some cl =>
              simp only [q4] at h0
              cases cl with
              | lst acc =>
                simp only at h0
                by_cases hz : st1.length = s.length + 1 ∧ Bk s st1
                · rw [if_pos hz] at h0
                  obtain ⟨us, eu, ru⟩ := F1.sim.cell _ D _ nD1 q4
                  cases q5 : acc.mapM (frzM st1 s.length 40) with
                  | none => rw [q5] at h0; exact h0.elim
                  | some acc' =>
                    rw [q5] at h0
                    obtain ⟨p1, p2⟩ := Fut.pop F0.sim hD F01 nD1 hz.1 hz.2
                    have rz := frz_all (frz_ok (n := s.length) F1.sim 40) ru q5
                    rw [p1] at rz
                    exact h0 ρ0 H1 (.ref D) p2 ⟨D, us, rfl, F0.sim.free hD, eu, rz⟩
                · rw [if_neg hz] at h0; exact h0.elim
              | _ => exact h0.elim
        · rw [if_neg ho] at h1; cases h1
end
end Z

namespace Z
open PySem L2

section
variable {X : Cx} {T : Tx} {W : WX} {mi : MI} {g : MG} {mt : Ev → M Bool} {me : Ev → M MV} {vs : List Nat} {own : List (Str × Nat)} {scope : Scope} {elt tg iter : Expr} {ifs : List Expr} {pos : Pos}
abbrev Blk (X : Cx) (scope : Scope) (s : Shared) (H : Hp) (C : Addr) (cl : List (Str × Addr)) (fp : List Addr) : Cx := X.blk s H scope (compEnvC scope cl C X.env) fp
/-- [elt for tg in iter if ..] -/
theorem v_lc (fr : Bool) (own : List (Str × Nat)) (hc : X.calm = true) (hN : X.N.Nodup) (hi : PI X tg iter (tI T W mi)) (ok : BlkOk X.N X.env.scope scope own)
    (hg : ∀ s H C cl fp, PG (Blk X scope s H C cl fp) tg (tTg T (own.map (·.2)) g)) (ht : ∀ s H C cl fp, PTs (Blk X scope s H C cl fp) ifs (tT T WF mt))
    (he : ∀ s H C cl fp, PE (Blk X scope s H C cl fp) elt (tE T WF me)) (hs : ∀ x, foldedSetIterable iter X.env x = pure x := by intro _; rfl) :
    PE X (.ListComp elt [⟨tg, iter, ifs, 0⟩] scope pos) (tE T W (mLc fr mi g mt me (own.map (·.2)))) := pe_mono (pe_lc hc hN hi ok hg ht he hs) fun σ H Q h => lc_red h
theorem s_setLc {y : Str} {py spos : Pos} (i : Nat) (fr : Bool) (own : List (Str × Nat)) (hc : X.calm = true) (hN : X.N.Nodup) (hi : PI X tg iter (tI T W mi)) (ok : BlkOk X.N X.env.scope scope own)
    (hg : ∀ s H C cl fp, PG (Blk X scope s H C cl fp) tg (tTg T (own.map (·.2)) g)) (ht : ∀ s H C cl fp, PTs (Blk X scope s H C cl fp) ifs (tT T WF mt))
    (he : ∀ s H C cl fp, PE (Blk X scope s H C cl fp) elt (tE T WF me)) (hy : X.N[i]? = some y := by rfl) (hyl : X.env.scope.names.lookup y = some .local := by rfl)
    (hsw : swapsWith (.ListComp elt [⟨tg, iter, ifs, 0⟩] scope pos) (some (.Name y py)) spos.line X.env = pure true := by exact sw_true rfl rfl rfl (by decide +kernel))
    (hs : ∀ x, foldedSetIterable iter X.env x = pure x := by intro _; rfl) :
    PS X (.Assign [.Name y py] (.ListComp elt [⟨tg, iter, ifs, 0⟩] scope pos) spos) (tS T W (sAsg i (mLc fr mi g mt me (own.map (·.2))))) :=
  ps_mono (ps_setLc hc hN hy hyl hsw hi ok hg ht he hs) fun D σ H ⟨ρ, st, env, S, E, h⟩ => by
    have h2 : tE T W (mLc fr mi g mt me (own.map (·.2))) σ H fun x H1 => gName i x σ H1 D.nx :=
      ⟨ρ, st, env, S, E, (OutS.bnd E h).imp fun v H1 ⟨ρ1, s1, m, F1, r1, q1⟩ => q1 ρ1 H1 _ (Fut.refl F1.sim) ((E.later F1.lat).set r1 i)⟩
    exact lc_red h2
end

/-! ### raise X('..'), X without an __init__ of its own -/
def sRaise (c : Nat) : MS := fun env st => .ex env c [] st
section
variable {X : Cx} {T : Tx} {W : WX} {c : Nat} {x m : Str} {p p2 pos pos2 : Pos} {j : Nat} {bmB : List Value} {B newId initId : String}
theorem s_raise (hc : X.calm = true) (tk : Takes X W) (F : ExcBaseFacts B newId initId bmB) (q : PySem.W.excIn X.K (T.cls c) bmB newId = true) (gC : X.mg x = some (.ref (T.cls c))) (kC : PySem.W.keepIn X.K (.ref (T.cls c)) = true) (r : Raises X (.ref (T.cls c))) (hx : T.hasX c = true)
    (hg : Gl X x := by rfl) (hdb : (x == ("__debug__" : Str)) = false := by decide) : PS X (.Raise (some (.Call (.Name x p) [.Constant (.str m) j p2] [] pos)) none pos2) (tS T W (sRaise c)) :=
  ps_mono (ps_raise hc tk (pmk_own F q gC kC r hg hdb)) fun D σ H ⟨ρ, st, env, S, E, h⟩ => h ρ H σ _ none (Fut.refl S) E ⟨rfl, hx, by simp, .inl ⟨rfl, rfl⟩⟩
end

/-! ### try -/
/-- is class c under class k? FrameError is 0 -/
def subX (c k : Nat) : Bool := k == 0 || c == k
def isExc : Option MV → Bool
  | some .exc => true
  | _ => false
/-- the clause's name goes -/
def leaveE (i : Nat) (e : Ev) : Option Ev := if (e.set i none).any isExc = true then none else some (e.set i none)
def unsetN (i : Nat) : Fl → Fl
  | .nx e s => match leaveE i e with
    | some e' => .nx e' s
    | none => .bad
  | .bk e s => match leaveE i e with
    | some e' => .bk e' s
    | none => .bad
  | .ct e s => match leaveE i e with
    | some e' => .ct e' s
    | none => .bad
  | .rt v s => .rt v s
  | .ex _ _ _ _ => .bad
  | .bad => .bad
def sTry (i k : Nat) (mb : MS) (ms : Nat → List (Nat × MV) → MS) : MS := fun env st => match mb env st with
  | .ex e c fs s => if subX c k = true then unsetN i (ms c fs (e.set i (some .exc)) s) else .ex e c fs s
  | r => r
abbrev Tx.on (T : Tx) (c : Nat) (fs : List (Nat × MV)) (cl : Value) (d : Option Addr) (a : Addr) : Tx := { T with exc := some (c, fs, cl, d, a) }
section
variable {X : Cx} {T : Tx} {W : WX} {k i : Nat} {x n : Str} {body suite : List Stmt} {b₀ : Stmt} {np pos pos' : Pos} {mb : MS} {ms : Nat → List (Nat × MV) → MS}
theorem REnv.on {ρ : List Addr} {H : Hp} {c : Nat} {fs : List (Nat × MV)} {cl : Value} {d : Option Addr} {a : Addr} (hT : T.exc = none) : ∀ {e : Ev} {σ : St}, REnv T ρ H e σ → REnv (T.on c fs cl d a) ρ H e σ
  | [], _, h => h
  | none :: e, _, h => by obtain ⟨o, σ', q, r⟩ := h; exact ⟨o, σ', q, REnv.on hT r⟩
  | some m :: e, _, h => by
    obtain ⟨v, σ', q, r1, r⟩ := h
    rcases r1 with r1 | ⟨_, _, _, _, _, _, z, _⟩
    · exact ⟨v, σ', q, .inl r1, REnv.on hT r⟩
    · rw [hT] at z; cases z
theorem REnv.off {ρ : List Addr} {H : Hp} {c : Nat} {fs : List (Nat × MV)} {cl : Value} {d : Option Addr} {a : Addr} : ∀ {e : Ev} {σ : St}, e.any isExc = false → REnv (T.on c fs cl d a) ρ H e σ → REnv T ρ H e σ
  | [], _, _, h => h
  | none :: e, _, b, h => by obtain ⟨o, σ', q, r⟩ := h; exact ⟨o, σ', q, REnv.off (by simpa [isExc] using b) r⟩
  | some m :: e, _, b, h => by
    obtain ⟨v, σ', q, r1, r⟩ := h
    have b' : isExc (some m) = false ∧ e.any isExc = false := by simpa [List.any_cons] using b
    rcases r1 with r1 | ⟨rfl, _⟩
    · exact ⟨v, σ', q, .inl r1, REnv.off b'.2 r⟩
    · exact absurd b'.1 (by decide)
theorem REnv.mark {ρ : List Addr} {H : Hp} {c : Nat} {fs : List (Nat × MV)} {cl : Value} {d : Option Addr} {a : Addr} : ∀ {e : Ev} {σ : St} (i : Nat), REnv (T.on c fs cl d a) ρ H e σ → REnv (T.on c fs cl d a) ρ H (e.set i (some .exc)) (σ.set i (some (.ref a)))
  | [], _, i, h => by cases h; exact rfl
  | none :: e, _, 0, h => by obtain ⟨o, σ', rfl, q⟩ := h; exact ⟨_, σ', rfl, .inr ⟨rfl, c, fs, cl, d, a, rfl, rfl⟩, q⟩
  | none :: e, _, i + 1, h => by obtain ⟨o, σ', rfl, q⟩ := h; exact ⟨o, σ'.set i _, rfl, REnv.mark i q⟩
  | some m' :: e, _, 0, h => by obtain ⟨o, σ', rfl, _, q⟩ := h; exact ⟨_, σ', rfl, .inr ⟨rfl, c, fs, cl, d, a, rfl, rfl⟩, q⟩
  | some m' :: e, _, i + 1, h => by obtain ⟨o, σ', rfl, r1, q⟩ := h; exact ⟨o, σ'.set i _, rfl, r1, REnv.mark i q⟩
theorem Sim.on {ρ : List Addr} {st : Sto} {H : Hp} {c : Nat} {fs : List (Nat × MV)} {cl : Value} {d : Option Addr} {a : Addr} (S : Sim T ρ st H) (r : RX T ρ H c fs cl d) : Sim (T.on c fs cl d a) ρ st H :=
  ⟨S.len, S.nd, fun c' fs' cl' d' a' h => by cases h; exact r, S.cell⟩
theorem Fut.off {ρ ρ' : List Addr} {st' : Sto} {H H' : Hp} {c : Nat} {fs : List (Nat × MV)} {cl : Value} {d : Option Addr} {a : Addr} {st : Sto} (S : Sim T ρ st H) (F : Fut (T.on c fs cl d a) ρ H ρ' st' H') : Fut T ρ H ρ' st' H' :=
  ⟨F.more, ⟨F.sim.len, F.sim.nd, fun c' fs' cl' d' a' h => (S.exc c' fs' cl' d' a' h).later F.lat, F.sim.cell⟩, F.keep⟩
theorem leave_off {ρ : List Addr} {H : Hp} {c : Nat} {fs : List (Nat × MV)} {cl : Value} {d : Option Addr} {a : Addr} {e e' : Ev} {σ : St} (h : leaveE i e = some e') (E : REnv (T.on c fs cl d a) ρ H e σ) : REnv T ρ H e' (σ.set i none) := by
  unfold leaveE at h
  by_cases q : (e.set i none).any isExc = true
  · rw [if_pos q] at h; cases h
  · rw [if_neg q] at h; cases h
    exact REnv.off (by simpa using q) (REnv.unset i E)
theorem try_red (hT : T.exc = none) (hex : ∀ c, T.hasX c = true → PySem.W.exmOne X.K (.ref (T.cls c)) (.ref (T.cls k)) = some (subX c k)) {D : Ends} {σ : St} {H : Hp} (h : tS T W (sTry i k mb ms) D σ H) :
    tS T (wAs X.K (.ref (T.cls k)) i (fun a cl d D σ H => ∃ c fs, tS (T.on c fs cl d a) WF (ms c fs) D σ H) W D) mb D σ H := by
  obtain ⟨ρ, st, env, S, E, h⟩ := h
  refine ⟨ρ, st, env, S, E, ?_⟩
  unfold sTry at h
  cases em : mb env st with
  | nx e s => simp only [em] at h; exact h
  | rt v s => simp only [em] at h; exact h
  | bk e s => simp only [em] at h; exact h
  | ct e s => simp only [em] at h; exact h
  | bad => simp only [em] at h; exact h
  | ex e c fs s =>
    simp only [em] at h
    intro ρ1 H1 σ1 cl d F1 E1 r1
    obtain ⟨e1, e2, _, _⟩ := id r1
    refine ⟨subX c k, by rw [e1]; exact hex c e2, fun hs a ha => ?_, fun hs => ?_⟩
    · rw [if_pos hs] at h
      have h1 := OutS.fut F1 h
      refine ⟨c, fs, ρ1, s, e.set i (some .exc), F1.sim.on r1, (E1.on hT).mark i, ?_⟩
      cases q : ms c fs (e.set i (some .exc)) s with
      | nx e3 s3 =>
        simp only [q, unsetN] at h1
        intro ρ' H' σ' F' E'
        cases q2 : leaveE i e3 with
        | none => rw [q2] at h1; exact h1.elim
        | some e4 => rw [q2] at h1; exact h1 ρ' H' (σ'.set i none) (F'.off F1.sim) (leave_off q2 E')
      | rt v s3 => simp only [q, unsetN] at h1; exact fun ρ' H' u F' r' => h1 ρ' H' u (F'.off F1.sim) r'
      | bk e3 s3 =>
        simp only [q, unsetN] at h1
        intro ρ' H' σ' F' E'
        cases q2 : leaveE i e3 with
        | none => rw [q2] at h1; exact h1.elim
        | some e4 => rw [q2] at h1; exact h1 ρ' H' (σ'.set i none) (F'.off F1.sim) (leave_off q2 E')
      | ct e3 s3 =>
        simp only [q, unsetN] at h1
        intro ρ' H' σ' F' E'
        cases q2 : leaveE i e3 with
        | none => rw [q2] at h1; exact h1.elim
        | some e4 => rw [q2] at h1; exact h1 ρ' H' (σ'.set i none) (F'.off F1.sim) (leave_off q2 E')
      | ex e3 c3 fs3 s3 => simp only [q, unsetN] at h1; exact h1.elim
      | bad => simp only [q, unsetN] at h1; exact h1.elim
    · have hs' : ¬ subX c k = true := by rw [hs]; decide
      rw [if_neg hs'] at h
      exact h ρ1 H1 σ1 cl d F1 E1 r1
theorem s_try (hT : T.exc = none) (hs : X.stack = X.env :: X.outer) (hf : X.env.frame = some X.env.locals) (hN : X.N.Nodup) (hc : Names X x (.ref (T.cls k))) (tk : Takes X W)
    (hex : ∀ c, T.hasX c = true → PySem.W.exmOne X.K (.ref (T.cls c)) (.ref (T.cls k)) = some (subX c k))
    (hb : ∀ (W : WX) (pn : List (Addr × Obj)) (xe : Value → Shared → Prop), Takes (X.tr pn xe) W → PassesOwn (model X.prog X.w) X.A X.env xe → PSs (X.tr pn xe) body (tS T W mb))
    (hsu : ∀ (a : Addr) (oe : Obj) (cl : Value) (d : Option Addr) (pn : List (Addr × Obj)) (c : Nat) (fs : List (Nat × MV)), Zc cl d oe → (∃ vs, oe.data = .fields vs) → PSs (X.suite a ((a, oe) :: pn)) (b₀ :: suite) (tS (T.on c fs cl d a) WF (ms c fs)))
    (hi : X.N[i]? = some n := by rfl) (hln : X.env.kindOf n = some .local := by rfl) :
    PS X (.Try body [.ExceptHandler (some (.Name x np)) (some n) (b₀ :: suite) pos'] [] [] pos) (tS T W (sTry i k mb ms)) :=
  ps_mono (ps_try_as (tb := fun W => tS T W mb) (ts := fun a cl d D σ H => ∃ c fs, tS (T.on c fs cl d a) WF (ms c fs) D σ H) (Wout := W) hs hf hN hi hln hc tk hb (fun a oe cl d pn hz hv => ⟨fun pins s σ H D I ⟨c, fs, h⟩ => (hsu a oe cl d pn c fs hz hv).run pins s σ H D I h⟩)) fun D σ H h => try_red hT hex h
end
end Z

namespace Z
open PySem L2

/-! ### operators that may be a class's own -/
def OpM (X : Cx) (T : Tx) (W : WX) (f : Value → Value → Sem Value) (g : MV → MV → M MV) : Prop :=
  ∀ (pins : List (Addr × Obj)) (s : Shared) (σ : St) (H : Hp) (x y : V) (v u : Value) (Q : VK) (ρ : List Addr) (st : Sto) (a b : MV), Inv X pins σ H s → RelV x v → RelV y u → Sim T ρ st H → RV T ρ H a x → RV T ρ H b y →
    OutF T ρ H (g a b st) Q (WE W σ) → wpAny (model X.prog X.w) X.A (f v u) (EP X pins σ Q) X.xe s
/-- a dunder of class c by its plain reading -/
structure OwnOk (X : Cx) (T : Tx) (nm : Str) (p c : Nat) (mf : MF) : Prop where
  ok : ∃ (f : Addr) (fd : FuncData) (ps : List Str) (k : Nat), PySem.W.findIn X.K (.ref (T.cls c)) nm = some (some (.ref f)) ∧ PySem.W.isFn X.K (.ref f) = true ∧ FnOk X.prog X.w X.K X.mg X.base (L2.CX X.prog X.w) k f fd ps (spM T p mf) ∧ Room (k + 2) X.A ∧ Binds X.K fd ps []
  sf : PySem.W.selfFirst X.K (T.cls c) = true
def ownM (cs : List (Nat × MF)) (g : MV → MV → M MV) : MV → MV → M MV := fun x y s => match clsOf s x, clsOf s y with
  | some c, some d => if c = d then match cs.lookup c with
      | some mf => mf [x, y] s
      | none => .bad
    else .bad
  | none, none => g x y s
  | _, _ => .bad
def optM (f : Sto → MV → MV → Option MV) : MV → MV → M MV := fun x y s => M.opt (f s x y) s
def mBinM (g : MV → MV → M MV) (ma mb : Ev → M MV) : Ev → M MV := fun env => M.bnd (ma env) fun x => M.bnd (mb env) fun y => g x y
def cmpB (f : Sto → MV → MV → Option Bool) : MV → MV → M MV := fun x y s => match f s x y with
  | some b => .ok (.bl b) s
  | none => .bad
def mCmpM (g : MV → MV → M MV) (ma mb : Ev → M MV) : Ev → M Bool := fun env => M.bnd (mBinM g ma mb env) fun x => match x with
  | .bl b => M.ret b
  | _ => fun _ => .bad
section
variable {X : Cx} {T : Tx} {W : WX} {ma mb : Ev → M MV} {a b : Expr} {pos : Pos} {cs : List (Nat × MF)} {g : MV → MV → M MV}
theorem om_prim {f : Value → Value → Sem Value} {h : Sto → MV → MV → Option MV} (ho : OpR X f (rB T h)) : OpM X T W f (optM h) := fun pins s σ H x y v u Q ρ st a b I rx ry S ra rb q => by
  unfold optM M.opt at q
  cases e : h st a b with
  | none => rw [e] at q; exact q.elim
  | some w =>
    rw [e] at q
    exact ho pins s σ H x y v u Q I rx ry ⟨ρ, st, a, b, w, S, ra, rb, e, fun H' z F r => q ρ H' z F r⟩
theorem om_cmp {f : Value → Value → Sem Value} {h : Sto → MV → MV → Option Bool} (ho : OpR X f (rP T h)) : OpM X T W f (cmpB h) := fun pins s σ H x y v u Q ρ st a b I rx ry S ra rb q => by
  unfold cmpB at q
  cases e : h st a b with
  | none => rw [e] at q; exact q.elim
  | some w =>
    rw [e] at q
    exact ho pins s σ H x y v u Q I rx ry ⟨ρ, st, a, b, w, S, ra, rb, e, q ρ H (.bl w) (Fut.refl S) rfl⟩
/-- an own def at two instances -/
theorem own_call {pins : List (Addr × Obj)} {s : Shared} {σ : St} {H : Hp} {Q : VK} {ρ : List Addr} {st : Sto} {f : Addr} {fd : FuncData} {ps : List Str} {k p : Nat} {mf : MF} {ms : List MV} {vs : List V} {us : List Value} (tk : Takes X W)
    (F : FnOk X.prog X.w X.K X.mg X.base (L2.CX X.prog X.w) k f fd ps (spM T p mf)) (hr : Room k X.A) (hb : Binds X.K fd ps []) (I : Inv X pins σ H s) (S : Sim T ρ st H) (r : RVs T ρ H ms vs) (rv : Vals vs us) (hl : ms.length = p) (q : OutF T ρ H (mf ms st) Q (WE W σ)) :
    wpAny (model X.prog X.w) X.A (call (.ref f) us) (EP X pins σ Q) X.xe s := run_fnS F hr hb (passAt tk σ) I rv ⟨ρ, st, ms, S, r, hl, q⟩
theorem back_of {pins : List (Addr × Obj)} {σ : St} {Q : VK} {v : Value} {s' : Shared} (h : EP X pins σ Q v s') : PySem.W.CmpBack (EP X pins σ Q) v s' := by
  cases v with
  | notImplemented =>
    obtain ⟨x, H, I, r, q⟩ := h
    cases x with
    | int i => obtain ⟨t, e⟩ := r; cases e
    | str i => obtain ⟨t, e⟩ := r; cases e
    | byt i => obtain ⟨t, e⟩ := r; cases e
    | flt i => obtain ⟨t, e⟩ := r; cases e
    | _ => cases r
  | _ => exact h
theorem own_split {x y : MV} {st : Sto} {ρ : List Addr} {H : Hp} {Q : VK} {E : XK} (h : OutF T ρ H (ownM cs g x y st) Q E) :
    (∃ c mf, clsOf st x = some c ∧ clsOf st y = some c ∧ cs.lookup c = some mf ∧ OutF T ρ H (mf [x, y] st) Q E) ∨ (clsOf st x = none ∧ clsOf st y = none ∧ OutF T ρ H (g x y st) Q E) := by
  unfold ownM at h
  cases e1 : clsOf st x with
  | none =>
    cases e2 : clsOf st y with
    | none => rw [e1, e2] at h; exact .inr ⟨rfl, rfl, h⟩
    | some d => rw [e1, e2] at h; exact h.elim
  | some c =>
    cases e2 : clsOf st y with
    | none => rw [e1, e2] at h; exact h.elim
    | some d =>
      rw [e1, e2] at h
      simp only at h
      by_cases hc : c = d
      · subst hc
        rw [if_pos rfl] at h
        cases e3 : cs.lookup c with
        | none => rw [e3] at h; exact h.elim
        | some mf => rw [e3] at h; exact .inl ⟨c, mf, rfl, rfl, e3, h⟩
      · rw [if_neg hc] at h; exact h.elim
theorem om_own {op : Operator} (tk : Takes X W) (h : ∀ q ∈ cs, OwnOk X T (PySem.dunder op.info.2) 2 q.1 q.2) (hg : OpM X T W (binaryOp op) g) : OpM X T W (binaryOp op) (ownM cs g) := fun pins s σ H x y v u Q ρ st a b I rx ry S ra rb q => by
  rcases own_split q with ⟨c, mf, e1, e2, e3, q⟩ | ⟨_, _, q⟩
  · obtain ⟨a1, dx, ids, xs, vs, rfl, _, h2, _, _, _⟩ := ins_of S ra e1
    obtain ⟨a2, dx', ids', xs', vs', rfl, _, h2', _, _, _⟩ := ins_of S rb e2
    cases rx
    cases ry
    obtain ⟨f, fd, ps, k, hs, hf, F, hr, hb⟩ := (h _ (lookup_mem e3)).ok
    obtain ⟨_, J, _⟩ := ins_get I.hok h2
    obtain ⟨_, J', _⟩ := ins_get I.hok h2'
    obtain ⟨od, J, _⟩ := J.look
    obtain ⟨od', J', _⟩ := J'.look
    obtain ⟨m, hF⟩ := I.fr
    refine PySem.W.binop_K hF I.ok.mod.kin J J'.type (h _ (lookup_mem e3)).sf hs hf ?_
    exact wpAny_mono (own_call (ms := [a, b]) (vs := [.ref a1, .ref a2]) tk F (hr.mono (by omega)) hb I S ⟨_, _, rfl, ra, _, _, rfl, rb, rfl⟩ (.cons rfl (.cons rfl .nil)) rfl q) (fun _ _ z => back_of z) fun _ _ z => z
  · exact hg pins s σ H x y v u Q ρ st a b I rx ry S ra rb q
theorem om_ownEq (tk : Takes X W) (hu : X.A.units < cLine) (h : ∀ q ∈ cs, OwnOk X T "__eq__" 2 q.1 q.2) (hg : OpM X T W (compareOp .Eq) g) : OpM X T W (compareOp .Eq) (ownM cs g) := fun pins s σ H x y v u Q ρ st a b I rx ry S ra rb q => by
  rcases own_split q with ⟨c, mf, e1, e2, e3, q⟩ | ⟨_, _, q⟩
  · obtain ⟨a1, dx, ids, xs, vs, rfl, _, h2, _, _, _⟩ := ins_of S ra e1
    obtain ⟨a2, dx', ids', xs', vs', rfl, _, h2', _, _, _⟩ := ins_of S rb e2
    cases rx
    cases ry
    obtain ⟨f, fd, ps, k, hs, hf, F, hr, hb⟩ := (h _ (lookup_mem e3)).ok
    obtain ⟨_, J, _⟩ := ins_get I.hok h2
    obtain ⟨_, J', _⟩ := ins_get I.hok h2'
    obtain ⟨od, J, _⟩ := J.look
    obtain ⟨od', J', _⟩ := J'.look
    obtain ⟨m, hF⟩ := I.fr
    refine PySem.W.cmp_K (op := .Eq) (tb := .ref (T.cls c)) hu hF I.ok.mod.kin J J'.type (by simp [PySem.W.notFirst]) hs hf ?_
    exact wpAny_mono (own_call (ms := [a, b]) (vs := [.ref a1, .ref a2]) tk F (hr.mono (by omega)) hb I S ⟨_, _, rfl, ra, _, _, rfl, rb, rfl⟩ (.cons rfl (.cons rfl .nil)) rfl q) (fun _ _ z => back_of z) fun _ _ z => z
  · exact hg pins s σ H x y v u Q ρ st a b I rx ry S ra rb q
theorem binM_red {f : Value → Value → Sem Value} (ho : OpM X T W f g) (ha : PE X a (tE T W ma)) (hb : PE X b (tE T W mb)) {pins : List (Addr × Obj)} {s : Shared} {σ : St} {H : Hp} {Q : VK} (I : Inv X pins σ H s) (h : tE T W (mBinM g ma mb) σ H Q) :
    wpAny (model X.prog X.w) X.A (eval a X.env) (fun v s₁ => wpAny (model X.prog X.w) X.A (eval b X.env) (fun u s₂ => wpAny (model X.prog X.w) X.A (f v u) (EP X pins σ Q) X.xe s₂) X.xe s₁) X.xe s := by
  refine binT (R := fun x y H2 => ∃ ρ st a b, Sim T ρ st H2 ∧ RV T ρ H2 a x ∧ RV T ρ H2 b y ∧ OutF T ρ H2 (g a b st) Q (WE W σ)) ha hb I ?_ fun v u s2 x y H2 I2 rx ry ⟨ρ, st, a, b, S, ra, rb, q⟩ => ho pins s2 σ H2 x y v u Q ρ st a b I2 rx ry S ra rb q
  obtain ⟨ρ, st, env, S, E, h⟩ := h
  refine ⟨ρ, st, env, S, E, h.bnd.imp fun x H1 ⟨ρ1, s1, a, F1, r1, q1⟩ => ?_⟩
  exact ⟨ρ1, s1, env, F1.sim, E.later F1.lat, (Out.bnd q1).imp fun y H2 ⟨ρ2, s2, b, F2, r2, q2⟩ => ⟨ρ2, s2, a, b, F2.sim, r1.later F2.lat, r2, outF_of q2⟩⟩
theorem v_binM {op : Operator} (ho : OpM X T W (binaryOp op) g) (ha : PE X a (tE T W ma)) (hb : PE X b (tE T W mb)) : PE X (.BinOp a op b pos) (tE T W (mBinM g ma mb)) :=
  ⟨fun pins s σ H Q I h => wpAny_BinOp (binM_red ho ha hb I h)⟩
theorem v_cmpM {op : CmpOp} (ho : OpM X T W (compareOp op) g) (ha : PE X a (tE T W ma)) (hb : PE X b (tE T W mb)) (hm : behindInMarks op b = false) : PE X (.Compare a [op] [b] pos) (tE T W (mBinM g ma mb)) :=
  ⟨fun pins s σ H Q I h => wpAny_Compare1 (binM_red ho ha hb I h) hm⟩
theorem t_cmpM {op : CmpOp} (ho : OpM X T W (compareOp op) g) (ha : PE X a (tE T W ma)) (hb : PE X b (tE T W mb)) (hm : behindInMarks op b = false) : PT X (.Compare a [op] [b] pos) (tT T W (mCmpM g ma mb)) := by
  refine ⟨fun pins s σ H Q I h => wpAny_isTrue_Compare1 ?_ hm⟩
  have h2 : tE T W (mBinM g ma mb) σ H fun x H1 => ∃ k, x = .bl k ∧ Q k H1 := by
    obtain ⟨ρ, st, env, S, E, h⟩ := h
    refine ⟨ρ, st, env, S, E, (Out.bnd h).imp fun x H1 ⟨ρ1, s1, m, F1, r1, q1⟩ => ?_⟩
    cases m with
    | bl k => cases r1; exact ⟨k, rfl, q1 ρ1 H1 k (Fut.refl F1.sim) rfl⟩
    | _ => exact False.elim q1
  refine wpAny_mono (binM_red ho ha hb I h2) (fun v s1 z => wpAny_mono z (fun u s2 z2 => wpAny_mono z2 (fun c s3 z3 => ?_) fun _ _ e => e) fun _ _ e => e) fun _ _ e => e
  obtain ⟨x, H3, I3, r3, k, e, q3⟩ := z3
  subst e
  cases r3
  exact wpAny_truthy_bool ⟨H3, I3, q3⟩
end

/-! ### str(x): a text, an int, an instance with its own __str__ -/
def strM (cs : List (Nat × MF)) : MF := fun args s => match args with
  | [x] => match clsOf s x with
    | some c => match cs.lookup c with
      | some mf => match mf [x] s with
        | .ok (.str y) t => .ok (.str y) t
        | .ok _ _ => .bad
        | r => r
      | none => .bad
    | none => match x with
      | .int i => if i.natAbs.log2 < 1920 then .ok (.str (toString i)) s else .bad
      | _ => .bad
  | _ => .bad
section
variable {X : Cx} {T : Tx} {W : WX} {as : Ev → M (List MV)} {e : Expr} {es : List Expr} {p pos : Pos} {x : Str} {Ty : String} {n : Nat} {mf : MF} {cs : List (Nat × MF)}
theorem v_calT (h : CalM X T W (.type Ty) n mf) (hv : bootBuiltins x = some (.type Ty)) (hm : X.mg x = none) (ha : PA X (e :: es) (tA T W as)) (hn : Len as n := by repeat first | exact len_nil | apply len_cons) (hg : Gl X x := by rfl) (hnn : x ≠ "__name__" := by decide) (hdb : (x == ("__debug__" : Str)) = false := by decide)
    (he : starEach (e :: es) X.env = (false, eval e X.env) :: starEach es X.env := by rfl) (hpl : (backTo pos (starEach es X.env)).any (·.1) = false := by rfl) : PE X (.Call (.Name x p) (e :: es) [] pos) (tE T W (mCall mf as)) := by
  refine ⟨fun pins s σ H Q I ⟨ρ, st, env, S, E, hh⟩ => ?_⟩
  refine wpAny_Call_Name_kw (ld_blt I hg hm hv ?_ hnn hdb)
  have t2 : tA T W as σ H fun us H1 => ∃ ρ1 s1 ms, Fut T ρ H ρ1 s1 H1 ∧ RVs T ρ1 H1 ms us ∧ ms.length = n ∧ OutF T ρ1 H1 (mf ms s1) Q (WE W σ) := ⟨ρ, st, env, S, E, args_red hn hh⟩
  exact PyProof.Rows.callWith_type1 (thn (ha.run pos pins s σ H _ I t2) fun us s1 ⟨vs, H1, I1, r1, ρ1, st1, ms, F1, rm, hl, q⟩ => h pins s1 σ H1 us vs Q ρ1 st1 ms I1 r1 F1.sim rm hl q) he hpl
theorem cal_str (tk : Takes X W) (hu : X.A.in1.in1.units < cLine) (h : ∀ q ∈ cs, OwnOk X T "__str__" 1 q.1 q.2) : CalM X T W (.type "str") 1 (strM cs) := fun pins s σ H us vs Q ρ st ms I r S rm hl q => by
  match ms, hl with
  | [a], _ =>
    obtain ⟨v, rfl, rv⟩ := rvs1 rm
    cases r with
    | cons r0 r9 =>
      cases r9
      rename_i u
      simp only [strM] at q
      cases e1 : clsOf st a with
      | some c =>
        simp only [e1] at q
        cases e3 : cs.lookup c with
        | none => rw [e3] at q; exact q.elim
        | some mf =>
          simp only [e3] at q
          obtain ⟨a1, dx, ids, xs, vs, rfl, _, h2, _, _, _⟩ := ins_of S rv e1
          cases r0
          obtain ⟨f, fd, ps, k, hs, hf, F, hr, hb⟩ := (h _ (lookup_mem e3)).ok
          obtain ⟨_, J, _⟩ := ins_get I.hok h2
          obtain ⟨od, J, _⟩ := J.look
          refine PySem.W.kso_call hu I.kIn J hs hf ?_
          have q2 : OutF T ρ H (mf [a] st) (fun w H' => (∃ y, w = .str y) ∧ Q w H') (WE W σ) := by
            cases em : mf [a] st with
            | ok w t =>
              rw [em] at q
              cases w with
              | str y => exact fun ρ' H' u F r => ⟨⟨y, r⟩, q ρ' H' u F r⟩
              | _ => exact q.elim
            | ex c fs t => rw [em] at q; exact q
            | bad => rw [em] at q; exact q.elim
          have b := hb s [.ref a1] I.kIn (by have := F.len [.ref a1] H _ _ ⟨ρ, st, [a], S, rm, rfl, q2⟩; simpa using this)
          rw [List.append_nil] at b
          have ev : Env0 X.prog X.w X.K X.mg X.base X.A.in1.in1 X.stack s H := by
            have e := I.env0
            exact ⟨e.frames, e.mod, e.bs, e.bsz, e.funs, e.frf, e.hok, e.bare⟩
          refine wpAny_call (codeAny_mono (F.run X.A.in1.in1 X.stack s H ⟨[.ref a1], []⟩ [.ref a1] [.ref a1] _ (WE W σ) hr.in1.in1 ev b (.cons rfl .nil) ⟨ρ, st, [a], S, rm, rfl, q2⟩) fun r s' hq => ?_)
          cases r with
          | error e => exact passAt tk σ pins H s e s' I hq
          | ok fl =>
            cases fl with
            | ret w =>
              obtain ⟨z, H', I', rz, ⟨y, ey⟩, qz⟩ := I.after hq
              subst ey
              obtain ⟨t, rfl⟩ := id rz
              exact ⟨_, H', I', rz, qz⟩
            | next => exact False.elim hq
            | brk => exact False.elim hq
            | cont => exact False.elim hq
      | none =>
        simp only [e1] at q
        cases a with
        | int i =>
          simp only at q
          by_cases hl : i.natAbs.log2 < 1920
          · rw [if_pos hl] at q
            cases rv
            exact call_str_int pins s σ H _ [u] Q I (.cons r0 .nil) ⟨_, rfl, hl, q ρ H _ (Fut.refl S) rfl⟩
          · rw [if_neg hl] at q; exact q.elim
        | _ => exact q.elim
end
end Z

namespace Z
open PySem L2

/-! ### isinstance -/
inductive TyM where
  | non | bl | int | str | tup | lst | own (c : Nat)
def TyM.nm : TyM → String
  | .non => "NoneType" | .bl => "bool" | .int => "int" | .str => "str" | .tup => "tuple" | .lst => "list" | .own _ => "object"
def tyM (s : Sto) : MV → Option TyM
  | .non => some .non
  | .bl _ => some .bl
  | .int _ => some .int
  | .str _ => some .str
  | .tup _ => some .tup
  | .lst _ => some .lst
  | .frz _ => some .lst
  | .ins c _ => some (.own c)
  | .ref n => match s[n]? with
    | some (.lst _) => some .lst
    | some (.ins c _) => some (.own c)
    | _ => none
  | _ => none
/-- what isinstance asks of the classes -/
structure InsTy (K : PySem.W.Frag) (C : Addr) : Prop where
  ha : PySem.W.findIn K (.ref C) "__class__" = some (some (.builtin "object.__class__"))
  hn : PySem.W.specialIn K (.builtin "object.__class__") "__get__" = some (some (.builtin "getset_descriptor.__get__"))
  ht : PySem.W.takesIn K (.builtin "object.__class__") = some true
  hm : PySem.W.mroIn K C (.type "object") = some true
def tyV (T : Tx) : TyM → Value
  | .own c => .ref (T.cls c)
  | t => .type t.nm
theorem ty_of {T : Tx} {K : PySem.W.Frag} {ρ : List Addr} {st : Sto} {H : Hp} {m : MV} {v : V} {t : TyM} (hK : T.K = K) (hC : ClsAll T) (hI : ∀ c, T.has c = true → InsTy K (T.cls c)) (S : Sim T ρ st H) (r : RV T ρ H m v) (h : tyM st m = some t) : TyX K H v (tyV T t) ∧ ∀ c, t = .own c → T.has c = true := by
  have nb : (∀ c, t ≠ .own c) → ∀ c, t = .own c → T.has c = true := fun e c e2 => absurd e2 (e c)
  have inst : ∀ {c : Nat}, clsOf st m = some c → TyX K H v (.ref (T.cls c)) ∧ T.has c = true := fun {c} e => by
    obtain ⟨a, dx, ids, xs, vs, rfl, h1, h2, _, _, _⟩ := ins_of S r e
    have z := hI c h1
    exact ⟨.base (.ins h2 (hK ▸ (hC c h1).cls) z.ha z.hn z.ht z.hm), h1⟩
  have lst : ∀ {p : Addr} {ys : List V}, SqL T.K H p ys → TyX K H (.ref p) (.type "list") := fun {p ys} q => by
    rcases q with (q | ⟨o, q⟩) | ⟨o, its, n, e1, e2, _⟩
    · exact .base (.lst q)
    · exact .base (.frz q)
    · exact .kList (hK ▸ e1) e2
  cases m with
  | non => cases h; cases r; exact ⟨.base .non, nb (by intro c z; cases z)⟩
  | bl b => cases h; cases r; exact ⟨.base (.bl b), nb (by intro c z; cases z)⟩
  | int b => cases h; cases r; exact ⟨.base (.int b), nb (by intro c z; cases z)⟩
  | str b => cases h; cases r; exact ⟨.base (.str b), nb (by intro c z; cases z)⟩
  | tup xs =>
    cases h
    obtain ⟨a, ys, rfl, z, _⟩ := r
    refine ⟨?_, nb (by intro c z; cases z)⟩
    rcases z with ⟨_, q | ⟨o, q⟩⟩ | ⟨o, its, n, e1, e2, _⟩
    · exact .base (.tup q)
    · exact .fTuple q
    · exact .kTuple (hK ▸ e1) e2
  | lst xs =>
    cases h
    obtain ⟨a, ys, rfl, _, z, _⟩ := r
    exact ⟨.base (.lst z), nb (by intro c z; cases z)⟩
  | frz xs =>
    cases h
    obtain ⟨a, ys, rfl, z, _⟩ := r
    exact ⟨lst z.sq, nb (by intro c z; cases z)⟩
  | ins c xs =>
    cases h
    have z := inst (c := c) rfl
    exact ⟨z.1, fun d e => by cases e; exact z.2⟩
  | ref n =>
    simp only [tyM] at h
    split at h
    · rename_i xs e
      cases h
      obtain ⟨a, ys, rfl, z, _⟩ := list_of (xs := xs) S r (by simp only [listOf, e])
      exact ⟨.base (.lst z), nb (by intro c z; cases z)⟩
    · rename_i c fs e
      cases h
      have z := inst (c := c) (by simp only [clsOf, e])
      exact ⟨z.1, fun d e => by cases e; exact z.2⟩
    · cases h
  | fn k => cases h
  | exc => cases h
/-- the answers: of a built-in class, of an own one -/
def isTup : TyM → Option Bool
  | .tup => some true | .own _ => none | _ => some false
def isLst : TyM → Option Bool
  | .lst => some true | .own _ => none | _ => some false
def isBl : TyM → Option Bool
  | .bl => some true | .own _ => none | _ => some false
def isInt : TyM → Option Bool
  | .int => some true | .bl => some true | .own _ => none | _ => some false
def isStr : TyM → Option Bool
  | .str => some true | .own _ => none | _ => some false
def isOwn (d : Nat) : TyM → Option Bool
  | .own c => some (c == d) | _ => none
theorem is_bi {T : Tx} {K : PySem.W.Frag} {n : String} {f : TyM → Option Bool} (h : ∀ t b, (∀ c, t ≠ .own c) → f t = some b → kitB t.nm n = some b) (h2 : ∀ c, f (.own c) = none) : ∀ t b, (∀ c, t = .own c → T.has c = true) → f t = some b → PySem.W.kitOne K (tyV T t) (.type n) = some b := fun t b _ e => by
  cases t with
  | own c => rw [h2] at e; cases e
  | _ => exact kit_ty (h _ b (by intro c z; cases z) e)
theorem is_tup {T : Tx} {K : PySem.W.Frag} : ∀ t b, (∀ c, t = .own c → T.has c = true) → isTup t = some b → PySem.W.kitOne K (tyV T t) (.type "tuple") = some b := is_bi (fun t b n e => by cases t <;> first | exact absurd rfl (n _) | (cases e; decide +kernel)) fun _ => rfl
theorem is_lst {T : Tx} {K : PySem.W.Frag} : ∀ t b, (∀ c, t = .own c → T.has c = true) → isLst t = some b → PySem.W.kitOne K (tyV T t) (.type "list") = some b := is_bi (fun t b n e => by cases t <;> first | exact absurd rfl (n _) | (cases e; decide +kernel)) fun _ => rfl
theorem is_bl {T : Tx} {K : PySem.W.Frag} : ∀ t b, (∀ c, t = .own c → T.has c = true) → isBl t = some b → PySem.W.kitOne K (tyV T t) (.type "bool") = some b := is_bi (fun t b n e => by cases t <;> first | exact absurd rfl (n _) | (cases e; decide +kernel)) fun _ => rfl
theorem is_int {T : Tx} {K : PySem.W.Frag} : ∀ t b, (∀ c, t = .own c → T.has c = true) → isInt t = some b → PySem.W.kitOne K (tyV T t) (.type "int") = some b := is_bi (fun t b n e => by cases t <;> first | exact absurd rfl (n _) | (cases e; decide +kernel)) fun _ => rfl
theorem is_str {T : Tx} {K : PySem.W.Frag} : ∀ t b, (∀ c, t = .own c → T.has c = true) → isStr t = some b → PySem.W.kitOne K (tyV T t) (.type "str") = some b := is_bi (fun t b n e => by cases t <;> first | exact absurd rfl (n _) | (cases e; decide +kernel)) fun _ => rfl
theorem is_own {T : Tx} {K : PySem.W.Frag} {d : Nat} {u : Value} (h : ∀ c, T.has c = true → PySem.W.kitOne K (.ref (T.cls c)) u = some (c == d)) : ∀ t b, (∀ c, t = .own c → T.has c = true) → isOwn d t = some b → PySem.W.kitOne K (tyV T t) u = some b := fun t b q e => by
  cases t with
  | own c => cases e; exact h c (q c rfl)
  | _ => cases e
def mIsi (f : TyM → Option Bool) (ma : Ev → M MV) : Ev → M MV := fun env => M.bnd (ma env) fun x s => match tyM s x with
  | some t => M.opt ((f t).map .bl) s
  | none => .bad
section
variable {X : Cx} {T : Tx} {W : WX} {ma : Ev → M MV} {a c : Expr} {p pos : Pos} {f : TyM → Option Bool}
theorem v_isi {w : V} {u : Value} (hK : T.K = X.K) (hC : ClsAll T) (hI : ∀ c, T.has c = true → InsTy X.K (T.cls c)) (hf : ∀ t b, (∀ c, t = .own c → T.has c = true) → f t = some b → PySem.W.kitOne X.K (tyV T t) u = some b) (hc : PE X c (tC w)) (hw : ClsV w u) (hm : X.mg "isinstance" = none) (ha : PE X a (tE T W ma)) (hg : Gl X "isinstance" := by rfl)
    (he : starEach (a :: [c]) X.env = (false, eval a X.env) :: starEach [c] X.env := by rfl) (he2 : starEach (c :: []) X.env = (false, eval c X.env) :: starEach [] X.env := by rfl) (hpl : (backTo pos (starEach [c] X.env)).any (·.1) = false := by rfl) :
    PE X (.Call (.Name "isinstance" p) [a, c] [] pos) (tE T W (mIsi f ma)) :=
  pe_mono (pe_callB call_isi hg hm rfl (pa_cons ha (pa_cons hc pa_nil he2) he) (by decide) (by decide) he hpl) fun σ H Q h => by
    obtain ⟨ρ, st, env, S, E, h⟩ := h
    refine ⟨ρ, st, env, S, E, h.bnd.imp fun x H1 ⟨ρ1, s1, m, F1, r1, q1⟩ => ?_⟩
    cases e : tyM s1 m with
    | none => simp only [e] at q1; exact q1.elim
    | some t =>
      simp only [e] at q1
      obtain ⟨z1, z2⟩ := ty_of hK hC hI F1.sim r1 e
      obtain ⟨v, ev, q⟩ := opt_out q1
      cases eb : f t with
      | none => rw [eb] at ev; cases ev
      | some b =>
        rw [eb] at ev; cases ev
        exact ⟨x, w, tyV T t, u, b, rfl, hw, z1, hf t b z2 eb, q ρ1 H1 _ (Fut.refl F1.sim) rfl⟩
end

/-! ### isinstance of the handled exception -/
def subXs (c : Nat) (ks : List Nat) : Bool := ks.any (subX c)
def mExcIs (i : Nat) (fs : List (Nat × MV)) (b : Bool) : Ev → M MV := fun env s => match env.getD i none, fs with
  | some .exc, [] => .ok (.bl b) s
  | _, _ => .bad
theorem excIs_out {i : Nat} {fs : List (Nat × MV)} {b : Bool} {env : Ev} {s : Sto} {T : Tx} {W : WX} {ρ : List Addr} {H : Hp} {σ : St} {Q : VK} (h : Out T W (RV T) ρ H σ (mExcIs i fs b env s) Q) : env[i]? = some (some .exc) ∧ fs = [] ∧ ∀ ρ' H' u, Fut T ρ H ρ' s H' → RV T ρ' H' (.bl b) u → Q u H' := by
  unfold mExcIs at h
  cases e : env.getD i none with
  | none => rw [e] at h; exact h.elim
  | some m =>
    rw [e] at h
    cases m with
    | exc =>
      cases fs with
      | nil =>
        refine ⟨?_, rfl, h⟩
        rw [List.getD_eq_getElem?_getD] at e
        cases q : env[i]? with
        | none => rw [q] at e; cases e
        | some o => rw [q] at e; simp at e; rw [e]
      | cons _ _ => exact h.elim
    | _ => exact h.elim
/-- isinstance(e, (c1, c2, ..)) -/
def rIsET (K : PySem.W.Frag) (D a : Addr) : List V → Hp → VK → Prop := fun xs H Q => ∃ (tp : Addr) (cs : List V) (us : List Value) (b : Bool), xs = [.ref a, .ref tp] ∧ H tp = some (.tup cs) ∧ Paired ClsV cs us ∧ PySem.W.kitAny K (.ref D) us = some b ∧ Q (.bl b) H
theorem call_isET {X : Cx} {a D : Addr} {oe : Obj} {pn : List (Addr × Obj)} (C : ExcC X.K D) (hz : Zc (.ref D) none oe) (hf : ∃ vs, oe.data = .fields vs) : CallR (X.suite a ((a, oe) :: pn)) (.builtin "isinstance") (rIsET X.K D a) := by
  intro pins s σ H xs us Q I r ⟨tp, cs, ws, b, e1, hT, k, e, q⟩
  subst e1
  obtain ⟨u1, u2, rfl, r1, r2⟩ := vals2 r
  cases (show u1 = Value.ref a from r1)
  cases (show u2 = Value.ref tp from r2)
  obtain ⟨hget, _⟩ := I.pin (a, oe) (List.mem_append.mpr (.inl List.mem_cons_self))
  obtain ⟨vs, hv⟩ := hf
  have J : PySem.W.InstAt s.heap a oe D none := by
    rcases oe with ⟨oc, od, oda, osl⟩
    have h1 := hz.1
    have h2 := hz.2
    dsimp only at h1 h2 hv
    subst h1 h2 hv
    exact ⟨hget, rfl, rfl, trivial⟩
  obtain ⟨_, its, rv, o, h1, h2, n, h3⟩ := (show ObjOk X.prog X.w H s.heap tp (.tup cs) from I.hok tp _ hT)
  have e3 := ClsV.all k rv
  subst e3
  rcases o with ⟨oc, od, dt, sl⟩
  simp only at h2 h3
  subst h2 h3
  exact PySem.W.kia_tup (PySem.W.handS_kitx_exc C.hg C.hk C.hs C.hd C.ha C.hn C.ht C.hm) I.kIn J h1 e (fun z => nomatch z) fun tk => ⟨.bl b, H, I.kept (t' := tk) fun _ _ z => z, rfl, q⟩
section
variable {X : Cx} {T : Tx} {a : Addr} {oe : Obj} {pn : List (Addr × Obj)} {cl : Value} {d : Option Addr} {c : Nat} {fs : List (Nat × MV)} {x : Str} {px p pos : Pos} {ce : Expr}
theorem exc_now {ρ : List Addr} {st : Sto} {H : Hp} {σ : St} {env : Ev} {i : Nat} (S : Sim (T.on c fs cl d a) ρ st H) (E : REnv (T.on c fs cl d a) ρ H env σ) (h : env[i]? = some (some .exc)) (hf : fs = []) : cl = .ref (T.cls c) ∧ d = none ∧ T.hasX c = true ∧ σ[i]? = some (some (.ref a)) := by
  obtain ⟨h1, h2, _, h4⟩ := S.exc c fs cl d a rfl
  subst hf
  have hd : d = none := by
    rcases h4 with ⟨_, h4⟩ | ⟨_, _, _, ne, _⟩
    · exact h4
    · exact absurd rfl ne
  obtain ⟨v, q1, q2⟩ := E.get h
  rcases q2 with q2 | ⟨_, c', fs', cl', d', a', e, ev⟩
  · exact q2.elim
  · cases e
    exact ⟨h1, hd, h2, by rw [q1, ev]⟩
theorem v_excIs (i : Nat) {w : V} {cv : Value} {b : Bool} (hC : ∀ c, T.hasX c = true → ExcC X.K (T.cls c)) (hb : T.hasX c = true → PySem.W.kitOne X.K (.ref (T.cls c)) cv = some b) (hz : Zc cl d oe) (hf : ∃ vs, oe.data = .fields vs) (hw : ClsV w cv)
    (hx : PE (X.suite a ((a, oe) :: pn)) (.Name x px) (fun σ H Q => ∃ v, σ[i]? = some (some v) ∧ Q v H)) (hc : PE (X.suite a ((a, oe) :: pn)) ce (tC w)) (hm : X.mg "isinstance" = none) (hg : Gl X "isinstance" := by rfl)
    (he : starEach (.Name x px :: [ce]) X.env = (false, eval (.Name x px) X.env) :: starEach [ce] X.env := by rfl) (he2 : starEach (ce :: []) X.env = (false, eval ce X.env) :: starEach [] X.env := by rfl) (hpl : (backTo pos (starEach [ce] X.env)).any (·.1) = false := by rfl) :
    PE (X.suite a ((a, oe) :: pn)) (.Call (.Name "isinstance" p) [.Name x px, ce] [] pos) (tE (T.on c fs cl d a) WF (mExcIs i fs b)) := by
  refine ⟨fun pins s σ H Q I hh => ?_⟩
  obtain ⟨ρ, st, env, S, E, h⟩ := hh
  obtain ⟨e1, e2, q⟩ := excIs_out h
  obtain ⟨rfl, rfl, hx1, hs⟩ := exc_now S E e1 e2
  exact (pe_callB (X := X.suite a ((a, oe) :: pn)) (call_isE (hC c hx1) hz hf) hg hm rfl (pa_cons hx (pa_cons hc pa_nil he2) he) (by decide) (by decide) he hpl).run pins s σ H Q I
    ⟨_, hs, w, cv, b, rfl, fun u r => hw.eq r, hb hx1, q ρ H _ (Fut.refl S) rfl⟩
theorem v_excIsT (i : Nat) {ws : List V} {cvs : List Value} {es : List Expr} {b : Bool} {k : Nat} {p2 : Pos} (hC : ∀ c, T.hasX c = true → ExcC X.K (T.cls c)) (hb : T.hasX c = true → PySem.W.kitAny X.K (.ref (T.cls c)) cvs = some b) (hz : Zc cl d oe) (hf : ∃ vs, oe.data = .fields vs) (hw : Paired ClsV ws cvs)
    (hx : PE (X.suite a ((a, oe) :: pn)) (.Name x px) (fun σ H Q => ∃ v, σ[i]? = some (some v) ∧ Q v H)) (hc : PA (X.suite a ((a, oe) :: pn)) es (fun _ H Q => Q ws H)) (hl : ws.length ≤ 1000) (hm : X.mg "isinstance" = none) (hg : Gl X "isinstance" := by rfl)
    (he : starEach (.Name x px :: [.Tuple es k p2]) X.env = (false, eval (.Name x px) X.env) :: starEach [.Tuple es k p2] X.env := by rfl) (he2 : starEach (.Tuple es k p2 :: []) X.env = (false, eval (.Tuple es k p2) X.env) :: starEach [] X.env := by rfl) (hpl : (backTo pos (starEach [.Tuple es k p2] X.env)).any (·.1) = false := by rfl) :
    PE (X.suite a ((a, oe) :: pn)) (.Call (.Name "isinstance" p) [.Name x px, .Tuple es k p2] [] pos) (tE (T.on c fs cl d a) WF (mExcIs i fs b)) := by
  refine ⟨fun pins s σ H Q I hh => ?_⟩
  obtain ⟨ρ, st, env, S, E, h⟩ := hh
  obtain ⟨e1, e2, q⟩ := excIs_out h
  obtain ⟨rfl, rfl, hx1, hs⟩ := exc_now S E e1 e2
  refine (pe_callB (X := X.suite a ((a, oe) :: pn)) (call_isET (hC c hx1) hz hf) hg hm rfl (pa_cons hx (pa_cons (pe_tup hc) pa_nil he2) he) (by decide) (by decide) he hpl).run pins s σ H Q I
    ⟨_, hs, Nat.le_trans hl (by decide), fun tp hp => ?_⟩
  exact ⟨tp, ws, cvs, b, rfl, upd_same, hw, hb hx1, q ρ _ _ (S.fresh (o := .tup ws) hp) rfl⟩
end

/-! ### f'..' -/
def mFmt (ma : Ev → M MV) : Ev → M MV := fun env => M.bnd (ma env) fun x => match x with
  | .str y => if y.length ≤ line then M.ret (.str y) else fun _ => .bad
  | .int i => if i.natAbs.log2 < 1920 then M.ret (.str (toString i)) else fun _ => .bad
  | _ => fun _ => .bad
def mJs : List (Ev → M MV) → Str → Ev → M MV
  | [], acc, _ => M.ret (.str acc)
  | m :: ms, acc, env => M.bnd (m env) fun x => match x with
    | .str y => if (acc ++ y).length ≤ line then mJs ms (acc ++ y) env else fun _ => .bad
    | _ => fun _ => .bad
section
variable {X : Cx} {T : Tx} {W : WX} {ma : Ev → M MV} {e : Expr} {pos : Pos}
theorem v_fmt (he : PE X e (tE T W ma)) : PE X (.FormattedValue e (-1) none pos) (tE T W (mFmt ma)) := pe_mono (pe_fmt he) fun σ H Q h => by
  obtain ⟨ρ, st, env, S, E, h⟩ := h
  refine ⟨ρ, st, env, S, E, h.bnd.imp fun x H1 ⟨ρ1, s1, m, F1, r1, q1⟩ => ?_⟩
  cases m with
  | str y =>
    cases r1
    simp only at q1
    split at q1
    · rename_i hl; exact .inl ⟨y, rfl, line_le hl, q1 ρ1 H1 _ (Fut.refl F1.sim) rfl⟩
    · exact q1.elim
  | int i =>
    cases r1
    simp only at q1
    split at q1
    · rename_i hl; exact .inr ⟨i, rfl, hl, q1 ρ1 H1 _ (Fut.refl F1.sim) rfl⟩
    · exact q1.elim
  | _ => exact False.elim q1
theorem js_red {σ : St} {Q : VK} : ∀ {ms : List (Ev → M MV)} {acc : Str} {H : Hp}, tE T W (mJs ms acc) σ H Q → tJs (ms.map fun m => tE T W m) acc σ H fun out H1 => Q (.str out) H1
  | [], acc, H, ⟨ρ, st, env, S, E, h⟩ => h ρ H _ (Fut.refl S) rfl
  | m :: ms, acc, H, ⟨ρ, st, env, S, E, h⟩ => by
    refine ⟨ρ, st, env, S, E, (Out.bnd (f := fun x => _) h).imp fun x H1 ⟨ρ1, s1, m, F1, r1, q1⟩ => ?_⟩
    cases m with
    | str y =>
      cases r1
      simp only at q1
      split at q1
      · rename_i hl; exact ⟨y, rfl, line_le hl, js_red ⟨ρ1, s1, env, F1.sim, E.later F1.lat, q1⟩⟩
      · exact q1.elim
    | _ => exact False.elim q1
theorem v_joined {v1 v2 : Expr} {rest : List Expr} {ms : List (Ev → M MV)} (h : PJ X (v1 :: v2 :: rest) (ms.map fun m => tE T W m)) : PE X (.JoinedStr (v1 :: v2 :: rest) pos) (tE T W (mJs ms Str.empty)) :=
  pe_mono (pe_joined h) fun σ H Q h => js_red h
theorem v_joined1 (h : PE X e (tE T W ma)) : PE X (.JoinedStr [e] pos) (tE T W ma) := pe_joined1 h
/-! i.bit_length() -/
def mBits (ma : Ev → M MV) : Ev → M MV := fun env => M.bnd (ma env) fun x => match x with
  | .int i => M.ret (.int (Builtin.Int.intBits i : Nat))
  | _ => fun _ => .bad
theorem v_bits {apos : Pos} (ho : PE X e (tE T W ma)) (hbase : attributeBase e "bit_length" X.env (eval e X.env) = eval e X.env := by rfl) (hline : (apos.endLine == pos.line) = true := by rfl) : PE X (.Call (.Attribute e "bit_length" apos) [] [] pos) (tE T W (mBits ma)) :=
  pe_mono (pe_bits ho hbase hline) fun σ H Q h => by
    obtain ⟨ρ, st, env, S, E, h⟩ := h
    refine ⟨ρ, st, env, S, E, h.bnd.imp fun x H1 ⟨ρ1, s1, m, F1, r1, q1⟩ => ?_⟩
    cases m with
    | int i => cases r1; exact ⟨i, rfl, q1 ρ1 H1 _ (Fut.refl F1.sim) rfl⟩
    | _ => exact False.elim q1
end
end Z

namespace Z
open PySem L2

/-! ### C(e, .., k = v, ..) -/
/-- what is raised by it is not followed -/
def noEx (r : R MV) : R MV := match r with
  | .ok v s => .ok v s
  | _ => .bad
def mKw (g : List MV → List MV → List MV) (mf : MF) (as bs : Ev → M (List MV)) : Ev → M MV := fun env => M.bnd (as env) fun xs => M.bnd (bs env) fun ys s => noEx (mf (g xs ys) s)
section
variable {X : Cx} {T : Tx} {W : WX} {ma : Ev → M MV} {as bs : Ev → M (List MV)} {k n q c : Nat} {f : Addr} {fd : FuncData} {ps ks : List Str} {init : MF} {x nm : Str} {pp pos kpos : Pos} {e : Expr} {es : List Expr} {kws : List Keyword} {g : List Value → List Value → List Value} {gV gA : List V → List V → List V} {gM : List MV → List MV → List MV}
theorem pk_mono {t t' : TA} (h : PK X kws t) (q : ∀ σ H Q, t' σ H Q → t σ H Q) : PK X kws t' := ⟨fun pos pins s σ H Q I z => h.run pos pins s σ H Q I (q σ H Q z)⟩
theorem k_nil : PK X [] (tA T W mNil) := pk_mono pk_nil fun σ H Q h => by
  obtain ⟨ρ, st, env, S, E, h⟩ := h
  exact h ρ H [] (Fut.refl S) rfl
theorem k_cons (ha : PE X e (tE T W ma)) (hr : PK X kws (tA T W as)) : PK X (⟨nm, e, kpos⟩ :: kws) (tA T W (mCons ma as)) :=
  pk_mono (pk_cons ha hr) fun σ H Q h => by
    obtain ⟨ρ, st, env, S, E, h⟩ := h
    refine ⟨ρ, st, env, S, E, h.bnd.imp fun x H1 ⟨ρ1, s1, a, F1, r1, q1⟩ => ?_⟩
    refine ⟨ρ1, s1, env, F1.sim, E.later F1.lat, (Out.bnd q1).imp fun xs H2 ⟨ρ2, s2, as, F2, r2, q2⟩ => ?_⟩
    exact q2 ρ2 H2 _ (Fut.refl F2.sim) ⟨x, xs, rfl, r1.later F2.lat, r2⟩
theorem noEx_out {ρ : List Addr} {H : Hp} {r : R MV} {Q : VK} {E : XK} (h : OutF T ρ H (noEx r) Q E) : OutF T ρ H r Q (fun _ _ _ => False) := by
  cases r with
  | ok v s => exact h
  | ex c fs s => exact h.elim
  | bad => exact h
/-- arguments one behind the other -/
theorem kw_red {σ : St} {H : Hp} {Q : VK} {mf : MF} (hmf : ∀ (ρ : List Addr) (st : Sto) (H : Hp) (ms : List MV) (Q : VK) (E : XK), Sim T ρ st H → OutF T ρ H (mf ms st) Q E → OutF T ρ H (newC c init ms st) Q E) (hA : Len as n) (hB : Len bs q) (hc : T.has c = true) (hgr : ∀ {ρ : List Addr} {H : Hp} {ms ns : List MV} {vs zs : List V}, ms.length = n → ns.length = q → RVs T ρ H ms vs → RVs T ρ H ns zs → RVs T ρ H (gM ms ns) (gA vs zs)) {p : Nat} (hgl : ∀ ms ns : List MV, ms.length = n → ns.length = q → (gM ms ns).length + 1 = p)
    (h : tE T W (mKw gM mf as bs) σ H Q) :
    tA T W as σ H fun vs H1 => tA T W bs σ H1 fun zs H2 => vs.length = n ∧ zs.length = q ∧ ∀ x dx, H2 x = none → H2 dx = none → dx ≠ x → spM T p init (.ref x :: gA vs zs) (upd (upd H2 dx (.own x)) x (.ins (T.cls c) dx [])) (fun v H3 => v = .non ∧ Q (.ref x) H3) (fun _ _ _ => False) := by
  obtain ⟨ρ, st, env, S, E, h⟩ := h
  refine ⟨ρ, st, env, S, E, ?_⟩
  unfold mKw M.bnd at h
  cases e1 : as env st with
  | ok xs t =>
    simp only [e1] at h
    intro ρ1 H1 vs F1 r1
    refine ⟨ρ1, t, env, F1.sim, E.later F1.lat, ?_⟩
    cases e2 : bs env t with
    | ok ys t2 =>
      simp only [e2] at h
      intro ρ2 H2 zs F2 r2
      have l1 := hA _ _ _ _ e1
      have l2 := hB _ _ _ _ e2
      have r1' := r1.later F2.lat
      have h2 : OutF T ρ H (noEx (mf (gM xs ys) t2)) Q (WE W σ) := outF_of h
      have h3 : OutF T ρ2 H2 (newC c init (gM xs ys) t2) Q (fun _ _ _ => False) := by
        refine hmf ρ2 t2 H2 _ _ _ F2.sim ?_
        have z := noEx_out h2
        revert z
        generalize mf (gM xs ys) t2 = r
        intro z
        cases r with
        | ok v s => exact fun ρ' H' u F r => z ρ' H' u ((F1.trans F2).trans F) r
        | ex c fs s => exact fun ρ' H' cl d F r => z ρ' H' cl d ((F1.trans F2).trans F) r
        | bad => exact z
      refine ⟨by rw [← r1.length]; exact l1, by rw [← r2.length]; exact l2, ?_⟩
      exact new_red hc F2.sim (hgr l1 l2 r1' r2) h3 (hgl xs ys l1 l2)
    | ex c fs t2 => simp only [e2] at h; exact fun ρ' H' cl d F r => h ρ' H' cl d (F1.trans F) r
    | bad => simp only [e2] at h; exact h.elim
  | ex c fs t => simp only [e1] at h; exact h
  | bad => simp only [e1] at h; exact h.elim
theorem new_same (ρ : List Addr) (st : Sto) (H : Hp) (ms : List MV) (Q : VK) (E : XK) (_ : Sim T ρ st H) (h : OutF T ρ H (newC c init ms st) Q E) : OutF T ρ H (newC c init ms st) Q E := h
theorem new_pure (ρ : List Addr) (st : Sto) (H : Hp) (ms : List MV) (Q : VK) (E : XK) (S : Sim T ρ st H) (h : OutF T ρ H (mPure (newC c init) ms st) Q E) : OutF T ρ H (newC c init ms st) Q E := pure_out S h
theorem passes_no (tk : Takes X W) : Passes (L2.CX X.prog X.w) X (fun _ _ _ => False) := passes_call tk fun _ _ _ _ z => z.elim
theorem v_makeK {mf : MF} (hmf : ∀ (ρ : List Addr) (st : Sto) (H : Hp) (ms : List MV) (Q : VK) (E : XK), Sim T ρ st H → OutF T ρ H (mf ms st) Q E → OutF T ρ H (newC c init ms st) Q E) (tk : Takes X W) (hc : T.has c = true) (M : Mk X.K (T.cls c) f) {p : Nat} (F : FnOk X.prog X.w X.K X.mg X.base (L2.CX X.prog X.w) k f fd ps (spM T p init)) (hr : Room (k + 1) X.A) (hm : X.mg x = some (.ref (T.cls c))) (hb : KBn X.K fd ps (n + 1) ks g gV)
    (hgV : ∀ (x : V) vs zs, vs.length = n → zs.length = ks.length → gV (x :: vs) zs = x :: gA vs zs) (hgr : ∀ {ρ : List Addr} {H : Hp} {ms ns : List MV} {vs zs : List V}, ms.length = n → ns.length = ks.length → RVs T ρ H ms vs → RVs T ρ H ns zs → RVs T ρ H (gM ms ns) (gA vs zs))
    (hgl : ∀ ms ns : List MV, ms.length = n → ns.length = ks.length → (gM ms ns).length + 1 = p)
    (ha : PA X (e :: es) (tA T W as)) (hkw : PK X kws (tA T W bs)) (hA : Len as n := by repeat first | exact len_nil | apply len_cons) (hB : Len bs ks.length := by repeat first | exact len_nil | apply len_cons) (hg : Gl X x := by rfl) (hall : (backToKw pos (keywordEach kws X.env)).all (·.1.isSome) = true := by rfl) (hks : (backToKw pos (keywordEach kws X.env)).filterMap (·.1) = ks := by rfl)
    (hdb : (x == ("__debug__" : Str)) = false := by decide) (he : starEach (e :: es) X.env = (false, eval e X.env) :: starEach es X.env := by rfl)
    (hpl : ((backTo pos (starEach (e :: es) X.env)).any (·.1) || (backToKw pos (keywordEach kws X.env)).any (·.1.isNone)) = false := by rfl) :
    PE X (.Call (.Name x pp) (e :: es) kws pos) (tE T W (mKw gM mf as bs)) :=
  pe_mono (pe_makeN M F hr hg hm hb (passes_no tk) ha hkw hall hks hdb he hpl) fun σ H Q h => by
    have z := kw_red hmf hA hB hc hgr hgl h
    obtain ⟨ρ, st, env, S, E, z⟩ := z
    refine ⟨ρ, st, env, S, E, z.imp fun vs H1 ⟨ρ1, st1, env1, S1, E1, z1⟩ => ⟨ρ1, st1, env1, S1, E1, z1.imp fun zs H2 ⟨l1, l2, z2⟩ => ⟨l1, l2, fun x dx h1 h2 h3 => ?_⟩⟩⟩
    rw [hgV _ _ _ l1 l2]
    exact z2 x dx h1 h2 h3
theorem v_makeK0 {mf : MF} (hmf : ∀ (ρ : List Addr) (st : Sto) (H : Hp) (ms : List MV) (Q : VK) (E : XK), Sim T ρ st H → OutF T ρ H (mf ms st) Q E → OutF T ρ H (newC c init ms st) Q E) (tk : Takes X W) (hc : T.has c = true) (M : Mk X.K (T.cls c) f) {p : Nat} (F : FnOk X.prog X.w X.K X.mg X.base (L2.CX X.prog X.w) k f fd ps (spM T p init)) (hr : Room (k + 1) X.A) (hm : X.mg x = some (.ref (T.cls c))) (hb : KBn X.K fd ps 1 ks g gV)
    (hgV : ∀ (x : V) zs, zs.length = ks.length → gV [x] zs = x :: gA [] zs) (hgr : ∀ {ρ : List Addr} {H : Hp} {ms ns : List MV} {vs zs : List V}, ms.length = 0 → ns.length = ks.length → RVs T ρ H ms vs → RVs T ρ H ns zs → RVs T ρ H (gM ms ns) (gA vs zs))
    (hgl : ∀ ms ns : List MV, ms.length = 0 → ns.length = ks.length → (gM ms ns).length + 1 = p)
    (hkw : PK X kws (tA T W bs)) (hB : Len bs ks.length := by repeat first | exact len_nil | apply len_cons) (hg : Gl X x := by rfl) (hall : (backToKw pos (keywordEach kws X.env)).all (·.1.isSome) = true := by rfl) (hks : (backToKw pos (keywordEach kws X.env)).filterMap (·.1) = ks := by rfl)
    (hdb : (x == ("__debug__" : Str)) = false := by decide)
    (hpl : ((backTo pos (starEach [] X.env)).any (·.1) || (backToKw pos (keywordEach kws X.env)).any (·.1.isNone)) = false := by rfl) :
    PE X (.Call (.Name x pp) [] kws pos) (tE T W (mKw gM mf mNil bs)) :=
  pe_mono (pe_makeK0 M F hr hg hm hb (passes_no tk) hkw hall hks hdb hpl) fun σ H Q h => by
    have z := kw_red (as := mNil) hmf len_nil hB hc hgr hgl h
    obtain ⟨ρ, st, env, S, E, z⟩ := z
    have z0 := z ρ H [] (Fut.refl S) rfl
    obtain ⟨ρ1, st1, env1, S1, E1, z1⟩ := z0
    refine ⟨ρ1, st1, env1, S1, E1, z1.imp fun zs H2 ⟨l1, l2, z2⟩ => ⟨rfl, l2, fun x dx h1 h2 h3 => ?_⟩⟩
    rw [hgV _ _ l2]
    exact z2 x dx h1 h2 h3
end
end Z
namespace Z
open PySem L2
theorem vals_rev : ∀ {vs : List V} {us : List Value}, Vals vs us → Vals vs.reverse us.reverse
  | [], [], _ => .nil
  | v :: vs, u :: us, h => by
    cases h with
    | cons r t =>
      rw [List.reverse_cons, List.reverse_cons]
      exact (vals_rev t).append (.cons r .nil)
theorem rvs_rev {T : Tx} {ρ : List Addr} {H : Hp} : ∀ {ms : List MV} {vs : List V}, RVs T ρ H ms vs → RVs T ρ H ms.reverse vs.reverse
  | [], vs, h => by cases h; rfl
  | m :: ms, vs, h => by
    obtain ⟨y, ys, rfl, h1, h2⟩ := h
    rw [List.reverse_cons, List.reverse_cons]
    exact (rvs_rev h2).append (RVs.one h1)
end Z

namespace Z
open PySem L2

/-! ### the head: facts as tests of the written part, defs by names -/
abbrev Fc := PySem.W.Frag → Bool
def obsZ (fs : List Fc) (fn : List He.DefD) (K : PySem.W.Frag) : He.AlD := ((fs.all (· K)) && (fn.all (·.ok K)), fn.map (He.fnW K ·.at_))
def SaysZ (fs : List Fc) (fn : List He.DefD) (K : PySem.W.Frag) : Prop := obsZ fs fn K = (true, fn.map (He.DefD.val))
def obsZG (n : Nat) (fs : List Fc) (fn : List He.DefD) (g : Addr → Option Obj) : He.AlD := obsZ fs fn (He.frG g (He.asD g n))
def hookZ (n : Nat) (fs : List Fc) (fn : List He.DefD) : PySem.W.Hook where
  α := He.AlD
  obs s := obsZG n fs fn s.heap.get?
  val _ := (true, fn.map (He.DefD.val))
  says _ h := ∃ K : PySem.W.Frag, K.In h ∧ SaysZ fs fn K
  of _ s e := ⟨He.frG s.heap.get? (He.asD s.heap.get? n), He.frG_in, e⟩
  keeps _ _ _ q k := q.elim fun K z => ⟨K, PySem.W.Frag.In.keeps z.1 k, z.2⟩
theorem obsZG_eq {n : Nat} {fs : List Fc} {fn : List He.DefD} {g : Addr → Option Obj} {s : Shared} (h : ∀ a, g a = s.heap.get? a) : (obsZG n fs fn g : (hookZ n fs fn).α) = (hookZ n fs fn).obs s := by
  rw [show g = s.heap.get? from funext h]
  rfl
section
variable {fs : List Fc} {fn : List He.DefD} {K : PySem.W.Frag}
theorem SaysZ.two (c : SaysZ fs fn K) : fs.all (· K) = true ∧ fn.all (·.ok K) = true := by
  have := congrArg (fun z : He.AlD => z.1) c
  exact Bool.and_eq_true_iff.mp this
theorem SaysZ.fc (c : SaysZ fs fn K) (i : Nat) {f : Fc} (h : fs[i]? = some f := by rfl) : f K = true :=
  List.all_eq_true.mp c.two.1 f (List.mem_of_getElem? h)
/-- the function object at a place -/
def fdOf (K : PySem.W.Frag) (p : Str × Option Str) : FuncData := match K.lookup (He.fAd K p) with
  | some ⟨_, _, .func fd, _⟩ => fd
  | _ => PySem.W.fnOf "" "" (defArgs (.Pass ⟨0, 0, 0, 0⟩)) [] (defScope (.Pass ⟨0, 0, 0, 0⟩)) .none .none .none .none none .none .none
theorem SaysZ.fd (c : SaysZ fs fn K) (i : Nat) {d : He.DefD} (h : fn[i]? = some d := by rfl) : FunD K d.name d.qual d.params d.body d.scope (d.dvs K) (d.kws K) (He.fAd K d.at_) (fdOf K d.at_) := by
  have ok : d.ok K = true := List.all_eq_true.mp c.two.2 d (List.mem_of_getElem? h)
  have e := congrArg (fun z : He.AlD => z.2[i]?) c
  have e2 : (fn.map (He.fnW K ·.at_))[i]? = (fn.map (He.DefD.val))[i]? := e
  rw [List.getElem?_map, List.getElem?_map, h] at e2
  obtain ⟨fd, F⟩ := He.DefD.funD (Option.some.inj e2) ok
  have F2 := F.ex
  obtain ⟨oc, od, dV, kV, doc, pm, an, cdv, ct, osl, _, lk, _⟩ := F2
  have : fdOf K d.at_ = fd := by unfold fdOf; rw [lk]
  rw [this]
  exact F
end
/-- .. with what the module's names stand for -/
structure TxtZ (fs : List Fc) (fn : List He.DefD) (K : PySem.W.Frag) (mg : Str → Option Value) : Prop where
  c : SaysZ fs fn K
  g : ∀ x v, PySem.W.nsIn K mainGlobals x = some (some v) → mg x = some v
  n : ∀ x, PySem.W.nsIn K mainGlobals x = some none → mg x = none
theorem txt_of {fs : List Fc} {fn : List He.DefD} {K : PySem.W.Frag} {mg : Str → Option Value} {h : Heap} (X : K.In h) (G : h.Ns mainGlobals mg) (c : SaysZ fs fn K) : TxtZ fs fn K mg :=
  ⟨c, fun _ _ e => PySem.W.mg_of X G e, fun _ e => PySem.W.mg_none_of X G e⟩
/-! the tests -/
def isV (a : Option (Option Value)) (v : Value) : Bool := decide (a = some (some v))
def isA (a : Option (Option Value)) : Bool := decide (a = some none)
def cGlo (x : Str) : Fc := fun K => isV (PySem.W.nsIn K mainGlobals x) (.ref (He.ga K x))
def cBlt (x : Str) (id : String) : Fc := fun K => isV (PySem.W.nsIn K mainGlobals x) (.builtin id)
def cFree (x : Str) : Fc := fun K => isA (PySem.W.nsIn K mainGlobals x)
def cKeep (x : Str) : Fc := fun K => PySem.W.keepIn K (.ref (He.ga K x))
def cNo (x f : Str) : Fc := fun K => isA (PySem.W.findIn K (.ref (He.ga K x)) f)
/-- a class whose instances are laid plainly -/
def cCls (x : Str) : Fc := fun K => PySem.W.plainGet K (He.ga K x) Str.empty && PySem.W.hasDictIn K (He.ga K x) && PySem.W.plainOver K (He.ga K x) && isV (PySem.W.findIn K (.ref (He.ga K x)) "__setattr__") (.builtin "object.__setattr__")
def cMet (x m : Str) : Fc := fun K => isV (PySem.W.findIn K (.ref (He.ga K x)) m) (.ref (He.fAd K (x, some m))) && PySem.W.isFn K (.ref (He.fAd K (x, some m)))
def cMk (x : Str) : Fc := fun K => PySem.W.makesIn K (He.ga K x)
def cSelf (x : Str) : Fc := fun K => PySem.W.selfFirst K (He.ga K x)
def cIns (x : Str) : Fc := fun K => isV (PySem.W.findIn K (.ref (He.ga K x)) "__class__") (.builtin "object.__class__") && decide (PySem.W.specialIn K (.builtin "object.__class__") "__get__" = some (some (.builtin "getset_descriptor.__get__"))) && decide (PySem.W.takesIn K (.builtin "object.__class__") = some true) && decide (PySem.W.mroIn K (He.ga K x) (.type "object") = some true)
def cExc (x : Str) : Fc := fun K => PySem.W.excIn K (He.ga K x) [.type "ValueError", .type "Exception", .type "BaseException", .type "object"] "ValueError.__new__" && decide (PySem.W.subIn K (.ref (He.ga K x)) (.type "BaseException") = some true) && decide (PySem.W.typeIn K (.ref (He.ga K x)) = some (.type "type"))
def cExm (x y : Str) (b : Bool) : Fc := fun K => decide (PySem.W.exmOne K (.ref (He.ga K x)) (.ref (He.ga K y)) = some b)
def cExi (x : Str) : Fc := fun K => isV (PySem.W.findIn K (.ref (He.ga K x)) "__getattribute__") (.builtin "BaseException.__getattribute__") && isA (PySem.W.findIn K (.ref (He.ga K x)) "__getattr__") && decide (PySem.W.subIn K (.ref (He.ga K x)) (.type "BaseException") = some true) && PySem.W.hasDictIn K (He.ga K x) &&
  isV (PySem.W.findIn K (.ref (He.ga K x)) "__class__") (.builtin "object.__class__") && decide (PySem.W.specialIn K (.builtin "object.__class__") "__get__" = some (some (.builtin "getset_descriptor.__get__"))) && decide (PySem.W.takesIn K (.builtin "object.__class__") = some true) && decide (PySem.W.mroIn K (He.ga K x) (.type "object") = some true)
def cKit (x : Str) (y : PySem.W.Frag → Value) (b : Bool) : Fc := fun K => decide (PySem.W.kitOne K (.ref (He.ga K x)) (y K) = some b)
def cKitA (x : Str) (ys : PySem.W.Frag → List Value) (b : Bool) : Fc := fun K => decide (PySem.W.kitAny K (.ref (He.ga K x)) (ys K) = some b)
section
variable {fs : List Fc} {fn : List He.DefD} {K : PySem.W.Frag} {mg : Str → Option Value} {x m f : Str}
theorem isV_ok {a : Option (Option Value)} {v : Value} (h : isV a v = true) : a = some (some v) := of_decide_eq_true h
theorem isA_ok {a : Option (Option Value)} (h : isA a = true) : a = some none := of_decide_eq_true h
theorem and2 {a b : Bool} (h : (a && b) = true) : a = true ∧ b = true := Bool.and_eq_true_iff.mp h
theorem TxtZ.glo (T : TxtZ fs fn K mg) (i : Nat) (h : fs[i]? = some (cGlo x) := by rfl) : mg x = some (.ref (He.ga K x)) := T.g _ _ (isV_ok (T.c.fc i h))
theorem TxtZ.blt {id : String} (T : TxtZ fs fn K mg) (i : Nat) (h : fs[i]? = some (cBlt x id) := by rfl) : mg x = some (.builtin id) := T.g _ _ (isV_ok (T.c.fc i h))
theorem TxtZ.free (T : TxtZ fs fn K mg) (i : Nat) (h : fs[i]? = some (cFree x) := by rfl) : mg x = none := T.n _ (isA_ok (T.c.fc i h))
theorem TxtZ.keep (T : TxtZ fs fn K mg) (i : Nat) (h : fs[i]? = some (cKeep x) := by rfl) : PySem.W.keepIn K (.ref (He.ga K x)) = true := T.c.fc i h
theorem TxtZ.no (T : TxtZ fs fn K mg) (i : Nat) (h : fs[i]? = some (cNo x f) := by rfl) : NoAttr K (He.ga K x) f := isA_ok (T.c.fc i h)
theorem TxtZ.cls (T : TxtZ fs fn K mg) (i : Nat) (h : fs[i]? = some (cCls x) := by rfl) : Cls K (He.ga K x) := by
  obtain ⟨z, h4⟩ := and2 (T.c.fc i h)
  obtain ⟨z, h3⟩ := and2 z
  obtain ⟨h1, h2⟩ := and2 z
  exact ⟨h1, h2, h3, isV_ok h4⟩
theorem TxtZ.met (T : TxtZ fs fn K mg) (i : Nat) (h : fs[i]? = some (cMet x m) := by rfl) : PySem.W.findIn K (.ref (He.ga K x)) m = some (some (.ref (He.fAd K (x, some m)))) ∧ PySem.W.isFn K (.ref (He.fAd K (x, some m))) = true := by
  obtain ⟨h1, h2⟩ := and2 (T.c.fc i h)
  exact ⟨isV_ok h1, h2⟩
theorem TxtZ.make (T : TxtZ fs fn K mg) (i j k : Nat) (h : fs[i]? = some (cMk x) := by rfl) (h2 : fs[j]? = some (cMet x "__init__") := by rfl) (h3 : fs[k]? = some (cKeep x) := by rfl) : Mk K (He.ga K x) (He.fAd K (x, some "__init__")) :=
  ⟨T.c.fc i h, (T.met j h2).1, (T.met j h2).2, T.keep k h3⟩
theorem TxtZ.self (T : TxtZ fs fn K mg) (i : Nat) (h : fs[i]? = some (cSelf x) := by rfl) : PySem.W.selfFirst K (He.ga K x) = true := T.c.fc i h
theorem TxtZ.exc (T : TxtZ fs fn K mg) (i : Nat) (h : fs[i]? = some (cExc x) := by rfl) : PySem.W.excIn K (He.ga K x) [.type "ValueError", .type "Exception", .type "BaseException", .type "object"] "ValueError.__new__" = true ∧ PySem.W.subIn K (.ref (He.ga K x)) (.type "BaseException") = some true ∧ PySem.W.typeIn K (.ref (He.ga K x)) = some (.type "type") := by
  obtain ⟨z, h3⟩ := and2 (T.c.fc i h)
  obtain ⟨h1, h2⟩ := and2 z
  exact ⟨h1, of_decide_eq_true h2, of_decide_eq_true h3⟩
theorem TxtZ.exm {y : Str} {b : Bool} (T : TxtZ fs fn K mg) (i : Nat) (h : fs[i]? = some (cExm x y b) := by rfl) : PySem.W.exmOne K (.ref (He.ga K x)) (.ref (He.ga K y)) = some b := of_decide_eq_true (T.c.fc i h)
theorem TxtZ.exi (T : TxtZ fs fn K mg) (i : Nat) (h : fs[i]? = some (cExi x) := by rfl) : ExcC K (He.ga K x) := by
  obtain ⟨z, h8⟩ := and2 (T.c.fc i h)
  obtain ⟨z, h7⟩ := and2 z
  obtain ⟨z, h6⟩ := and2 z
  obtain ⟨z, h5⟩ := and2 z
  obtain ⟨z, h4⟩ := and2 z
  obtain ⟨z, h3⟩ := and2 z
  obtain ⟨h1, h2⟩ := and2 z
  exact ⟨isV_ok h1, isA_ok h2, of_decide_eq_true h3, h4, isV_ok h5, of_decide_eq_true h6, of_decide_eq_true h7, of_decide_eq_true h8⟩
theorem TxtZ.ins (T : TxtZ fs fn K mg) (i : Nat) (h : fs[i]? = some (cIns x) := by rfl) : InsTy K (He.ga K x) := by
  obtain ⟨z, h4⟩ := and2 (T.c.fc i h)
  obtain ⟨z, h3⟩ := and2 z
  obtain ⟨h1, h2⟩ := and2 z
  exact ⟨isV_ok h1, of_decide_eq_true h2, of_decide_eq_true h3, of_decide_eq_true h4⟩
theorem TxtZ.kit {y : PySem.W.Frag → Value} {b : Bool} (T : TxtZ fs fn K mg) (i : Nat) (h : fs[i]? = some (cKit x y b) := by rfl) : PySem.W.kitOne K (.ref (He.ga K x)) (y K) = some b := of_decide_eq_true (T.c.fc i h)
theorem TxtZ.kitA {ys : PySem.W.Frag → List Value} {b : Bool} (T : TxtZ fs fn K mg) (i : Nat) (h : fs[i]? = some (cKitA x ys b) := by rfl) : PySem.W.kitAny K (.ref (He.ga K x)) (ys K) = some b := of_decide_eq_true (T.c.fc i h)
theorem Df.of {qual nm : Str} {st : Stmt} {f : Addr} {fd : FuncData} {dvs : List V} {kws : List (Str × V)} (F : FunD K nm qual (defArgs st) (defBody st) (defScope st) dvs kws f fd) : Df K qual st f fd := by
  obtain ⟨oc, od, dV, kV, doc, pm, an, cdv, ct, osl, e, lk, hc, _, _⟩ := F.ex
  exact ⟨⟨nm, oc, od, dV, kV, doc, pm, an, cdv, ct, osl, e, lk, hc⟩, F.kp⟩
end
/-- a promise that nothing keeps -/
theorem fn_bad {P : Program} {w : World} {K : PySem.W.Frag} {mg : Str → Option Value} {base : Heap} {T : Tx} {k p : Nat} {f : Addr} {fd : FuncData} {ps : List Str} : FnOk P w K mg base (L2.CX P w) k f fd ps (spM T p fun _ _ => .bad) :=
  ⟨fun _ _ _ _ ⟨_, _, _, _, _, _, h⟩ => h.elim, fun _ _ _ _ _ _ _ _ _ _ _ _ _ ⟨_, _, _, _, _, _, h⟩ => h.elim⟩
theorem hu64 {A : Around} {k : Nat} (hr : Room k A) : A.units + 64 < cLine := hr.units
theorem hu65 {A : Around} {k : Nat} (hr : Room k A) : A.units + 65 < cLine := by have := hr.un; omega
theorem hu2 {A : Around} {k : Nat} (hr : Room k A) : A.in1.in1.units < cLine := by have := hr.un; show A.units + 1 + 1 < cLine; omega
theorem hu0 {A : Around} {k : Nat} (hr : Room k A) : A.units < cLine := by have := hr.un; omega
theorem one_all {α β : Type} {P : α → β → Prop} {c : α} {m : β} (h : P c m) : ∀ q ∈ [(c, m)], P q.1 q.2 := fun q hq => by
  rw [List.mem_singleton.mp hq]; exact h
end Z
namespace Z
open PySem L2
/-- a law's end: exceptions may leave its defs, none leaves the law -/
theorem walk_ofW {l : PySem.W.OpenLaw} {n k : Nat} {q : Program} {loose : List Str} {XP : (Str → Option Value) → Heap → Prop} {YP : World → Heap → Prop} {d : PySem.DefRec} {CX : World → CXT} {x : Str} (hn : l.most = some n) (hn2 : n ≤ sizeLine) (hdf : d.params.defaults = []) (hr : Room k PySem.callerA)
    (F : ∀ (w : World) (mg : Str → Option Value) (fa : Addr) (h : Heap), YP w h → h.Ns mainGlobals mg → mg d.name = some (.ref fa) → ∃ (K : PySem.W.Frag) (fd : FuncData) (sp : Sp), K.In h ∧ (∀ (s : Shared) (u : Value), BindsTo s fd ⟨[u], []⟩ [(x, u)]) ∧
      (∀ (H : Hp) (a : Addr) (ns : List Int), ns.length ≤ n → Only H → SqL K H a (ns.map V.int) → sp [.ref a] H (fun v _ => v = .bl true) fun _ _ _ => False) ∧ ∀ base : Heap, K.In base → base.Ns mainGlobals mg → FnOk l.prog w K mg base (CX w) k fa fd [x] sp)
    (hCX : ∀ (w : World) (H : Hp) (s : Shared) (e : Value) (s' : Shared), CX w [] H s (fun _ _ _ => False) e s' → False) : PySem.W.WalkO q loose XP YP l.row.toRowW d [] (fun f vs => PySem.call f vs) := by
  refine Att.attach_call hn hdf fun w s0 s1 mg mb fa o pm cd doc a vs ns G Y ho hd hcd hmg hobj hints hlen hg => ?_
  have ⟨K, fd, sp, KX, hb, hsp, hF⟩ := F w mg fa _ Y G.T.g hmg
  refine law_call (CX := CX w) KX G.T.g G.T.b G.T.builtins G.T.nolimit hg hobj hints (Nat.le_trans hlen hn2) hr hF hb ?_ ?_
  · exact fun H hO hS => hsp H a ns hlen hO hS
  · exact fun H e s' => hCX w H s1 e s'
/-- the script, as a locked list -/
theorem law_sp {T : Tx} {K : PySem.W.Frag} {H : Hp} {a : Addr} {ns : List Int} {mf : MF} (hK : T.K = K) (hT : T.exc = none) (hS : SqL K H a (ns.map V.int)) (h : ∃ s, mf [.frz (ns.map .int)] [] = .ok (.bl true) s) : spM T 1 mf [.ref a] H (fun v _ => v = .bl true) fun _ _ _ => False := by
  obtain ⟨s, h⟩ := h
  have go : ∀ l : List Int, RVs T [] H (l.map .int) (l.map V.int) := fun l => by
    induction l with
    | nil => rfl
    | cons i l ih => exact ⟨_, _, rfl, rfl, ih⟩
  refine ⟨[], [], [.frz (ns.map .int)], ⟨rfl, .nil, fun c fs cl d a e => ?_, fun i a c e => ?_⟩, ⟨_, [], rfl, ⟨a, _, rfl, ?_, go ns⟩, rfl⟩, rfl, ?_⟩
  · rw [hT] at e; cases e
  · cases e
  · subst hK
    exact hS.imp (fun z => ⟨by simp, z⟩) id
  · rw [h]
    exact fun ρ' H' u F r => r
theorem cx_no {P : Program} (w : World) (H : Hp) (s : Shared) (e : Value) (s' : Shared) (h : L2.CX P w [] H s (fun _ _ _ => False) e s') : False := by
  obtain ⟨_, _, _, _, _, _, _, _, _, _, _, _, z⟩ := h
  exact z
end Z

namespace Z
open PySem L2
/-! ### running a plain reading -/
section
variable {α β : Type} {env : Ev} {s : Sto}
@[simp] theorem ret_run (a : α) : M.ret a s = .ok a s := rfl
@[simp] theorem opt_some (a : α) : M.opt (some a) s = .ok a s := rfl
@[simp] theorem opt_none : M.opt (none : Option α) s = .bad := rfl
@[simp ↓] theorem bnd_run (m : M α) (f : α → M β) : M.bnd m f s = (match m s with | .ok a t => f a t | .ex c fs t => .ex c fs t | .bad => .bad) := rfl
@[simp ↓] theorem mVar_run (i : Nat) : mVar i env s = (match env.getD i none with | some .exc => .bad | some v => .ok v s | none => .bad) := rfl
@[simp ↓] theorem mC_run (v : MV) : mC v env s = .ok v s := rfl
@[simp ↓] theorem mBin_run (f : Sto → MV → MV → Option MV) (ma mb : Ev → M MV) : mBin f ma mb env s = (match ma env s with | .ok x t => (match mb env t with | .ok y u => M.opt (f u x y) u | .ex c fs t => .ex c fs t | .bad => .bad) | .ex c fs t => .ex c fs t | .bad => .bad) := by
  unfold mBin M.bnd
  cases ma env s with
  | ex c fs z => rfl
  | bad => rfl
  | ok x0 t0 =>
    simp only []
    cases mb env t0 with
    | ex c fs z => rfl
    | bad => rfl
    | ok x1 t1 =>
      rfl
@[simp ↓] theorem mUn_run (f : Sto → MV → Option MV) (ma : Ev → M MV) : mUn f ma env s = (match ma env s with | .ok x t => M.opt (f t x) t | .ex c fs t => .ex c fs t | .bad => .bad) := by
  unfold mUn M.bnd
  cases ma env s with
  | ex c fs z => rfl
  | bad => rfl
  | ok x0 t0 =>
    rfl
@[simp ↓] theorem mCmp_run (f : Sto → MV → MV → Option Bool) (ma mb : Ev → M MV) : mCmp f ma mb env s = (match ma env s with | .ok x t => (match mb env t with | .ok y u => M.opt (f u x y) u | .ex c fs t => .ex c fs t | .bad => .bad) | .ex c fs t => .ex c fs t | .bad => .bad) := by
  unfold mCmp M.bnd
  cases ma env s with
  | ex c fs z => rfl
  | bad => rfl
  | ok x0 t0 =>
    simp only []
    cases mb env t0 with
    | ex c fs z => rfl
    | bad => rfl
    | ok x1 t1 =>
      rfl
@[simp ↓] theorem mV_run (m : Ev → M Bool) : mV m env s = (match m env s with | .ok b t => .ok (.bl b) t | .ex c fs t => .ex c fs t | .bad => .bad) := by
  unfold mV M.bnd
  cases m env s with
  | ex c fs z => rfl
  | bad => rfl
  | ok x0 t0 =>
    rfl
@[simp ↓] theorem mAnd_run (m m' : Ev → M Bool) : mAnd m m' env s = (match m env s with | .ok k t => (if k = true then m' env t else .ok false t) | .ex c fs t => .ex c fs t | .bad => .bad) := by
  show M.bnd _ _ _ = _
  unfold M.bnd
  cases m env s with
  | ok k t => cases k <;> rfl
  | ex c fs t => rfl
  | bad => rfl
@[simp ↓] theorem mOr_run (m m' : Ev → M Bool) : mOr m m' env s = (match m env s with | .ok k t => (if k = true then .ok true t else m' env t) | .ex c fs t => .ex c fs t | .bad => .bad) := by
  show M.bnd _ _ _ = _
  unfold M.bnd
  cases m env s with
  | ok k t => cases k <;> rfl
  | ex c fs t => rfl
  | bad => rfl
@[simp ↓] theorem mNot_run (m : Ev → M Bool) : mNot m env s = (match m env s with | .ok k t => .ok (!k) t | .ex c fs t => .ex c fs t | .bad => .bad) := by
  unfold mNot M.bnd
  cases m env s with
  | ex c fs z => rfl
  | bad => rfl
  | ok x0 t0 =>
    rfl
@[simp ↓] theorem mTru_run (ma : Ev → M MV) : mTru ma env s = (match ma env s with | .ok x t => M.opt (truOf t x) t | .ex c fs t => .ex c fs t | .bad => .bad) := by
  unfold mTru M.bnd
  cases ma env s with
  | ex c fs z => rfl
  | bad => rfl
  | ok x0 t0 =>
    rfl
@[simp ↓] theorem mAndV_run (ma mb : Ev → M MV) : mAndV ma mb env s = (match ma env s with | .ok (.bl true) t => mb env t | .ok (.bl false) t => .ok (.bl false) t | .ok _ _ => .bad | .ex c fs t => .ex c fs t | .bad => .bad) := by
  show M.bnd _ _ _ = _
  unfold M.bnd
  cases ma env s with
  | ok k t => cases k with
    | bl b => cases b <;> rfl
    | _ => rfl
  | ex c fs t => rfl
  | bad => rfl
@[simp ↓] theorem mOrV_run (ma mb : Ev → M MV) : mOrV ma mb env s = (match ma env s with | .ok (.bl true) t => .ok (.bl true) t | .ok (.bl false) t => mb env t | .ok _ _ => .bad | .ex c fs t => .ex c fs t | .bad => .bad) := by
  show M.bnd _ _ _ = _
  unfold M.bnd
  cases ma env s with
  | ok k t => cases k with
    | bl b => cases b <;> rfl
    | _ => rfl
  | ex c fs t => rfl
  | bad => rfl
@[simp ↓] theorem mNotV_run (ma : Ev → M MV) : mNotV ma env s = (match ma env s with | .ok (.bl k) t => .ok (.bl !k) t | .ok _ _ => .bad | .ex c fs t => .ex c fs t | .bad => .bad) := by
  show M.bnd _ _ _ = _
  unfold M.bnd
  cases ma env s with
  | ok k t => cases k <;> rfl
  | ex c fs t => rfl
  | bad => rfl
@[simp ↓] theorem mIte_run (m : Ev → M Bool) (ma mb : Ev → M MV) : mIte m ma mb env s = (match m env s with | .ok k t => (if k = true then ma env t else mb env t) | .ex c fs t => .ex c fs t | .bad => .bad) := by
  show M.bnd _ _ _ = _
  unfold M.bnd
  cases m env s with
  | ok k t => cases k <;> rfl
  | ex c fs t => rfl
  | bad => rfl
@[simp ↓] theorem mNil_run : mNil env s = .ok [] s := rfl
@[simp ↓] theorem mCons_run (m : Ev → M MV) (r : Ev → M (List MV)) : mCons m r env s = (match m env s with | .ok x t => (match r env t with | .ok xs u => .ok (x :: xs) u | .ex c fs t => .ex c fs t | .bad => .bad) | .ex c fs t => .ex c fs t | .bad => .bad) := by
  unfold mCons M.bnd
  cases m env s with
  | ex c fs z => rfl
  | bad => rfl
  | ok x0 t0 =>
    simp only []
    cases r env t0 with
    | ex c fs z => rfl
    | bad => rfl
    | ok x1 t1 =>
      rfl
@[simp ↓] theorem mTup_run (as : Ev → M (List MV)) : mTup as env s = (match as env s with | .ok xs t => (if xs.length ≤ line then .ok (.tup xs) t else .bad) | .ex c fs t => .ex c fs t | .bad => .bad) := by
  show M.bnd _ _ _ = _
  unfold M.bnd
  cases as env s with
  | ok xs t => simp only []; split <;> rfl
  | ex c fs t => rfl
  | bad => rfl
@[simp ↓] theorem mLst_run (fr : Bool) (as : Ev → M (List MV)) : mLst fr as env s = (match as env s with | .ok xs t => (if xs.length ≤ line then mkList fr xs t else .bad) | .ex c fs t => .ex c fs t | .bad => .bad) := by
  show M.bnd _ _ _ = _
  unfold M.bnd
  cases as env s with
  | ok xs t => simp only []; split <;> rfl
  | ex c fs t => rfl
  | bad => rfl
@[simp] theorem mkList_t (xs : List MV) : mkList true xs s = .ok (.lst xs) s := rfl
@[simp] theorem mkList_f (xs : List MV) : mkList false xs s = .ok (.ref s.length) (s ++ [.lst xs]) := rfl
@[simp ↓] theorem mIx_run (ma mb : Ev → M MV) : mIx ma mb env s = mBin ixF ma mb env s := rfl
@[simp ↓] theorem mCallF_run (f : Sto → List MV → Option MV) (as : Ev → M (List MV)) : mCallF f as env s = (match as env s with | .ok xs t => M.opt (f t xs) t | .ex c fs t => .ex c fs t | .bad => .bad) := by
  unfold mCallF M.bnd
  cases as env s with
  | ex c fs z => rfl
  | bad => rfl
  | ok x0 t0 =>
    rfl
@[simp ↓] theorem mCallL_run (fr : Bool) (f : Sto → List MV → Option (List MV)) (as : Ev → M (List MV)) : mCallL fr f as env s = (match as env s with | .ok xs t => (match f t xs with | some ys => mkList fr ys t | none => .bad) | .ex c fs t => .ex c fs t | .bad => .bad) := by
  unfold mCallL M.bnd
  cases as env s <;> rfl
@[simp ↓] theorem mCall_run (mf : MF) (as : Ev → M (List MV)) : mCall mf as env s = (match as env s with | .ok xs t => mf xs t | .ex c fs t => .ex c fs t | .bad => .bad) := by
  unfold mCall M.bnd
  cases as env s with
  | ex c fs z => rfl
  | bad => rfl
  | ok x0 t0 =>
    rfl
@[simp ↓] theorem mFld_run (f : Nat) (ma : Ev → M MV) : mFld f ma env s = (match ma env s with | .ok x t => M.opt (fldOf t f x) t | .ex c fs t => .ex c fs t | .bad => .bad) := by
  unfold mFld mUn M.bnd
  cases ma env s with
  | ex c fs z => rfl
  | bad => rfl
  | ok x0 t0 =>
    rfl
@[simp ↓] theorem mMeth_run (cs : List (Nat × MF)) (ma : Ev → M MV) (as : Ev → M (List MV)) : mMeth cs ma as env s = (match ma env s with | .ok x t => (match clsOf t x with | some c => (match cs.lookup c with | some mf => (match as env t with | .ok xs u => mf (x :: xs) u | .ex c fs t => .ex c fs t | .bad => .bad) | none => .bad) | none => .bad) | .ex c fs t => .ex c fs t | .bad => .bad) := by
  unfold mMeth M.bnd
  cases ma env s with
  | ex c fs z => rfl
  | bad => rfl
  | ok x t =>
    simp only []
    cases clsOf t x with
    | none => rfl
    | some c =>
      simp only []
      cases cs.lookup c with
      | none => rfl
      | some mf =>
        simp only []
        cases as env t <;> rfl
@[simp ↓] theorem mBinM_run (g : MV → MV → M MV) (ma mb : Ev → M MV) : mBinM g ma mb env s = (match ma env s with | .ok x t => (match mb env t with | .ok y u => g x y u | .ex c fs t => .ex c fs t | .bad => .bad) | .ex c fs t => .ex c fs t | .bad => .bad) := by
  unfold mBinM M.bnd
  cases ma env s with
  | ex c fs z => rfl
  | bad => rfl
  | ok x0 t0 =>
    simp only []
    cases mb env t0 with
    | ex c fs z => rfl
    | bad => rfl
    | ok x1 t1 =>
      rfl
@[simp ↓] theorem mIsi_run (f : TyM → Option Bool) (ma : Ev → M MV) : mIsi f ma env s = (match ma env s with | .ok x t => (match tyM t x with | some k => M.opt ((f k).map .bl) t | none => .bad) | .ex c fs t => .ex c fs t | .bad => .bad) := by
  unfold mIsi M.bnd
  cases ma env s <;> rfl
@[simp ↓] theorem mBits_run (ma : Ev → M MV) : mBits ma env s = (match ma env s with | .ok (.int i) t => .ok (.int (Builtin.Int.intBits i : Nat)) t | .ok _ _ => .bad | .ex c fs t => .ex c fs t | .bad => .bad) := by
  show M.bnd _ _ _ = _
  unfold M.bnd
  cases ma env s with
  | ok k t => cases k <;> rfl
  | ex c fs t => rfl
  | bad => rfl
@[simp ↓] theorem mFmt_run (ma : Ev → M MV) : mFmt ma env s = (match ma env s with | .ok (.str y) t => (if y.length ≤ line then .ok (.str y) t else .bad) | .ok (.int i) t => (if i.natAbs.log2 < 1920 then .ok (.str (toString i)) t else .bad) | .ok _ _ => .bad | .ex c fs t => .ex c fs t | .bad => .bad) := by
  show M.bnd _ _ _ = _
  unfold M.bnd
  cases ma env s with
  | ok k t => cases k with
    | str y => simp only []; split <;> rfl
    | int y => simp only []; split <;> rfl
    | _ => rfl
  | ex c fs t => rfl
  | bad => rfl
@[simp ↓] theorem mJs_nil (acc : Str) : mJs [] acc env s = .ok (.str acc) s := rfl
@[simp ↓] theorem mJs_cons (m : Ev → M MV) (ms : List (Ev → M MV)) (acc : Str) : mJs (m :: ms) acc env s = (match m env s with | .ok (.str y) t => (if (acc ++ y).length ≤ line then mJs ms (acc ++ y) env t else .bad) | .ok _ _ => .bad | .ex c fs t => .ex c fs t | .bad => .bad) := by
  show M.bnd _ _ _ = _
  unfold M.bnd
  cases m env s with
  | ok k t => cases k with
    | str y => simp only []; split <;> rfl
    | _ => rfl
  | ex c fs t => rfl
  | bad => rfl
@[simp ↓] theorem mKw_run (g : List MV → List MV → List MV) (mf : MF) (as bs : Ev → M (List MV)) : mKw g mf as bs env s = (match as env s with | .ok xs t => (match bs env t with | .ok ys u => noEx (mf (g xs ys) u) | .ex c fs t => .ex c fs t | .bad => .bad) | .ex c fs t => .ex c fs t | .bad => .bad) := by
  unfold mKw M.bnd
  cases as env s with
  | ex c fs z => rfl
  | bad => rfl
  | ok x0 t0 =>
    simp only []
    cases bs env t0 with
    | ex c fs z => rfl
    | bad => rfl
    | ok x1 t1 => rfl
@[simp] theorem noEx_ok (v : MV) : noEx (.ok v s) = .ok v s := rfl
/-! statements -/
@[simp ↓] theorem sSeq_run (a b : MS) : sSeq a b env s = (match a env s with | .nx e t => b e t | .rt v t => .rt v t | .bk e t => .bk e t | .ct e t => .ct e t | .ex e c fs t => .ex e c fs t | .bad => .bad) := rfl
@[simp ↓] theorem sNil_run : sNil env s = .nx env s := rfl
@[simp ↓] theorem sBreak_run : sBreak env s = .bk env s := rfl
@[simp ↓] theorem sCont_run : sCont env s = .ct env s := rfl
@[simp ↓] theorem sAsg_run (i : Nat) (m : Ev → M MV) : sAsg i m env s = (match m env s with | .ok v t => .nx (env.set i (some v)) t | .ex c fs t => .ex env c fs t | .bad => .bad) := by
  unfold sAsg bndS
  cases m env s with
  | ex c fs z => rfl
  | bad => rfl
  | ok x0 t0 =>
    rfl
@[simp ↓] theorem sExpr_run (m : Ev → M MV) : sExpr m env s = (match m env s with | .ok _ t => .nx env t | .ex c fs t => .ex env c fs t | .bad => .bad) := by
  unfold sExpr bndS
  cases m env s with
  | ex c fs z => rfl
  | bad => rfl
  | ok x0 t0 =>
    rfl
@[simp ↓] theorem sRet_run (m : Ev → M MV) : sRet m env s = (match m env s with | .ok v t => .rt v t | .ex c fs t => .ex env c fs t | .bad => .bad) := by
  unfold sRet bndS
  cases m env s with
  | ex c fs z => rfl
  | bad => rfl
  | ok x0 t0 =>
    rfl
@[simp ↓] theorem sRetN_run : sRetN env s = .rt .non s := rfl
@[simp ↓] theorem sIf_run (m : Ev → M Bool) (a b : MS) : sIf m a b env s = (match m env s with | .ok k t => (if k = true then a env t else b env t) | .ex c fs t => .ex env c fs t | .bad => .bad) := by
  unfold sIf bndS
  cases m env s with
  | ex c fs z => rfl
  | bad => rfl
  | ok x0 t0 =>
    rfl
@[simp ↓] theorem sPar_run (i j : Nat) (as : Ev → M (List MV)) : sPar i j as env s = (match as env s with | .ok [v, w] t => .nx ((env.set i (some v)).set j (some w)) t | .ok _ _ => .bad | .ex c fs t => .ex env c fs t | .bad => .bad) := by
  show bndS _ _ _ _ = _
  unfold bndS
  cases as env s with
  | ok xs t => match xs with
    | [] => rfl
    | [_] => rfl
    | [_, _] => rfl
    | _ :: _ :: _ :: _ => rfl
  | ex c fs t => rfl
  | bad => rfl
@[simp ↓] theorem sSub_run (mo mi mv : Ev → M MV) : sSub mo mi mv env s = (match mv env s with | .ok v t => (match mo env t with | .ok o u => (match mi env u with | .ok i w => (match setL o i v w with | some z => .nx env z | none => .bad) | .ex c fs t => .ex env c fs t | .bad => .bad) | .ex c fs t => .ex env c fs t | .bad => .bad) | .ex c fs t => .ex env c fs t | .bad => .bad) := by
  unfold sSub bndS
  cases mv env s with
  | ex c fs z => rfl
  | bad => rfl
  | ok x0 t0 =>
    simp only []
    cases mo env t0 with
    | ex c fs z => rfl
    | bad => rfl
    | ok x1 t1 =>
      simp only []
      cases mi env t1 with
      | ex c fs z => rfl
      | bad => rfl
      | ok x2 t2 =>
        rfl
@[simp ↓] theorem sFldM_run (f : Nat) (mo mv : Ev → M MV) : sFldM f mo mv env s = (match mv env s with | .ok v t => (match mo env t with | .ok o u => (match setFld f o v u with | some z => .nx env z | none => .bad) | .ex c fs t => .ex env c fs t | .bad => .bad) | .ex c fs t => .ex env c fs t | .bad => .bad) := by
  unfold sFldM bndS
  cases mv env s with
  | ex c fs z => rfl
  | bad => rfl
  | ok x0 t0 =>
    simp only []
    cases mo env t0 with
    | ex c fs z => rfl
    | bad => rfl
    | ok x1 t1 =>
      rfl
@[simp ↓] theorem sTg_run (g : MG) (m : Ev → M MV) : sTg g m env s = (match m env s with | .ok v t => (match g v env t with | .ok e u => .nx e u | _ => .bad) | .ex c fs t => .ex env c fs t | .bad => .bad) := by
  unfold sTg bndS
  cases m env s with
  | ex c fs z => rfl
  | bad => rfl
  | ok x0 t0 =>
    rfl
@[simp ↓] theorem sRaise_run (c : Nat) : sRaise c env s = .ex env c [] s := rfl
@[simp ↓] theorem sFor_run (mi : MI) (g : MG) (b : MS) : sFor mi g b env s = (match mi env s with | .ok it t => forL g b it.ok it.xs env t | .ex c fs t => .ex env c fs t | .bad => .bad) := by
  unfold sFor bndS
  cases mi env s with
  | ex c fs z => rfl
  | bad => rfl
  | ok x0 t0 =>
    rfl
@[simp ↓] theorem miRange_run (ma : Ev → M MV) : miRange ma env s = (match ma env s with | .ok (.int j) t => (if small j = true then .ok ⟨intsM 0 j.toNat, fun _ => True⟩ t else .bad) | .ok _ _ => .bad | .ex c fs t => .ex c fs t | .bad => .bad) := by
  show M.bnd _ _ _ = _
  unfold M.bnd
  cases ma env s with
  | ok k t => cases k with
    | int j => simp only []; split <;> rfl
    | _ => rfl
  | ex c fs t => rfl
  | bad => rfl
@[simp ↓] theorem tgName_run (i : Nat) (v : MV) : tgName i v env s = .ok (env.set i (some v)) s := rfl
theorem mFun_run (n : Nat) (mb : MS) (args : List MV) : mFun n mb args s = flowR (mb (args.map some ++ List.replicate (n - args.length) none) s) := rfl
@[simp] theorem flow_rt (v : MV) : flowR (.rt v s) = .ok v s := rfl
@[simp] theorem flow_nx (e : Ev) : flowR (.nx e s) = .ok .non s := rfl
@[simp] theorem flow_ex (e : Ev) (c : Nat) (fs : List (Nat × MV)) : flowR (.ex e c fs s) = .ex c fs s := rfl
@[simp] theorem flow_bad : flowR .bad = .bad := rfl
theorem for_T_nil (g : MG) (b : MS) : forL g b (fun _ => True) [] env s = .nx env s := for_nil trivial
theorem for_T_cons (g : MG) (b : MS) (x : MV) (r : List MV) : forL g b (fun _ => True) (x :: r) env s = (match g x env s with
    | .ok e t => (match b e t with
      | .nx e u => forL g b (fun _ => True) r e u
      | .ct e u => forL g b (fun _ => True) r e u
      | .bk e u => .nx e u
      | .rt v u => .rt v u
      | .ex e c fs u => .ex e c fs u
      | .bad => .bad)
    | .ex c fs t => .bad
    | .bad => .bad) := by
  conv => lhs; unfold forL
  simp only [if_true]
  cases g x env s with
  | ex c fs z => rfl
  | bad => rfl
  | ok e t =>
    simp only []
    all_goals (cases b e t <;> rfl)
/-! data -/
@[simp] theorem bAdd_i (i j : Int) : bAdd s (.int i) (.int j) = some (.int (i + j)) := rfl
@[simp] theorem bSub_i (i j : Int) : bSub s (.int i) (.int j) = some (.int (i - j)) := rfl
theorem bMul_i {i j : Int} (h : i.natAbs.log2 + j.natAbs.log2 < 100000000) : bMul s (.int i) (.int j) = some (.int (i * j)) := by
  show (if mulOk i j = true then some (MV.int (i * j)) else none) = _
  have e : mulOk i j = true := decide_eq_true h
  rw [if_pos e]
theorem bDiv_i {i j : Int} (h : 0 < j) (h2 : j.natAbs.log2 < 9000) : bDiv s (.int i) (.int j) = some (.int (i / j)) := by
  have e : divOk j = true := decide_eq_true ⟨h, h2⟩
  unfold bDiv
  simp only [e, if_true]
theorem bMod_i {i j : Int} (h : 0 < j) : bMod s (.int i) (.int j) = some (.int (i % j)) := by
  show (if 0 < j then _ else _) = _
  rw [if_pos h]
@[simp] theorem cLt_i (i j : Int) : cLt s (.int i) (.int j) = some (decide (i < j)) := rfl
@[simp] theorem cLe_i (i j : Int) : cLe s (.int i) (.int j) = some (decide (i ≤ j)) := rfl
@[simp] theorem cGt_i (i j : Int) : cGt s (.int i) (.int j) = some (decide (j < i)) := rfl
@[simp] theorem cGe_i (i j : Int) : cGe s (.int i) (.int j) = some (decide (j ≤ i)) := rfl
@[simp] theorem cEq_i (i j : Int) : cEq s (.int i) (.int j) = some (decide (i = j)) := rfl
@[simp] theorem cEq_b (i j : Bool) : cEq s (.bl i) (.bl j) = some (i == j) := rfl
@[simp] theorem cEq_s (i j : Str) : cEq s (.str i) (.str j) = some (decide (i = j)) := rfl
@[simp] theorem cNe_b (i j : Bool) : cNe s (.bl i) (.bl j) = some (!(i == j)) := rfl
@[simp] theorem cNe_i (i j : Int) : cNe s (.int i) (.int j) = some (!decide (i = j)) := rfl
@[simp] theorem cIs_n (x : MV) : cIs s x .non = some (isN x) := rfl
@[simp] theorem tru_b (b : Bool) : truOf s (.bl b) = some b := rfl
@[simp] theorem fInt_i (i : Int) : fInt s [.int i] = some (.int i) := rfl
@[simp] theorem fInt_b (b : Bool) : fInt s [.bl b] = some (.int (if b then 1 else 0)) := rfl
@[simp] theorem fAbs_i (i : Int) : fAbs s [.int i] = some (.int i.natAbs) := rfl
@[simp] theorem fGcd_i (i j : Int) : fGcd s [.int i, .int j] = some (.int (Nat.gcd i.natAbs j.natAbs : Nat)) := rfl
theorem atI_n {α : Type} (xs : List α) (n : Nat) : atI xs (n : Int) = xs[n]? := by
  unfold atI ixN
  rw [if_pos (Int.natCast_nonneg n)]
  by_cases h : n < xs.length
  · have h' : (n : Int) < (xs.length : Int) := by omega
    rw [if_pos h']; simp
  · have h' : ¬ (n : Int) < (xs.length : Int) := by omega
    rw [if_neg h', List.getElem?_eq_none (by omega)]; rfl
@[simp] theorem ix_t0 (x : MV) (xs : List MV) : ixF s (.tup (x :: xs)) (.int 0) = some x := atI_n (x :: xs) 0
@[simp] theorem ix_t1 (x y : MV) (xs : List MV) : ixF s (.tup (x :: y :: xs)) (.int 1) = some y := atI_n (x :: y :: xs) 1
@[simp] theorem ix_t2 (x y z : MV) (xs : List MV) : ixF s (.tup (x :: y :: z :: xs)) (.int 2) = some z := atI_n (x :: y :: z :: xs) 2
@[simp] theorem ix_l0 (x : MV) (xs : List MV) : ixF s (.lst (x :: xs)) (.int 0) = some x := atI_n (x :: xs) 0
@[simp] theorem ix_l1 (x y : MV) (xs : List MV) : ixF s (.lst (x :: y :: xs)) (.int 1) = some y := atI_n (x :: y :: xs) 1
end
end Z

namespace Z
open PySem L2
/-! ### sizes -/
abbrev nb (x : Int) : Nat := Builtin.Int.intBits x
theorem nb_lt {m : Nat} {x : Int} (h : x.natAbs < 2 ^ m) : nb x ≤ m := PySem.intBits_le_iff.mpr h
theorem lt_nb {m : Nat} {x : Int} (h : nb x ≤ m) : x.natAbs < 2 ^ m := PySem.intBits_le_iff.mp h
theorem log_nb (x : Int) : x.natAbs.log2 ≤ nb x := by
  unfold nb Builtin.Int.intBits
  split
  · rename_i h; have : x = 0 := by simpa using h
    subst this; decide
  · omega
theorem nb_log {m : Nat} {x : Int} (h : nb x ≤ m) : x.natAbs.log2 ≤ m := Nat.le_trans (log_nb x) h
theorem nb_mono {m n : Nat} {x : Int} (h : nb x ≤ m) (hm : m ≤ n) : nb x ≤ n := Nat.le_trans h hm
theorem nb_abs {x y : Int} {m : Nat} (h : x.natAbs ≤ y.natAbs) (hy : nb y ≤ m) : nb x ≤ m := nb_lt (Nat.lt_of_le_of_lt h (lt_nb hy))
theorem nb_mul {x y : Int} {m n : Nat} (hx : nb x ≤ m) (hy : nb y ≤ n) : nb (x * y) ≤ m + n := nb_lt (by
  rw [Int.natAbs_mul, Nat.pow_add]
  exact Nat.mul_lt_mul'' (lt_nb hx) (lt_nb hy))
theorem nb_add {x y : Int} {m n : Nat} (hx : nb x ≤ m) (hy : nb y ≤ n) : nb (x + y) ≤ max m n + 1 := nb_lt (by
  have h1 := lt_nb (nb_mono hx (Nat.le_max_left m n))
  have h2 := lt_nb (nb_mono hy (Nat.le_max_right m n))
  rw [Nat.pow_succ]
  have := Int.natAbs_add_le x y
  omega)
theorem nb_neg {x : Int} {m : Nat} (h : nb x ≤ m) : nb (-x) ≤ m := nb_abs (by omega) h
theorem nb_sub {x y : Int} {m n : Nat} (hx : nb x ≤ m) (hy : nb y ≤ n) : nb (x - y) ≤ max m n + 1 := by
  rw [Int.sub_eq_add_neg]; exact nb_add hx (nb_neg hy)
theorem nb_div {x y : Int} {m : Nat} (hx : nb x ≤ m) (hy : 0 < y) : nb (x / y) ≤ m := nb_abs (by
  rcases Int.lt_or_le x 0 with h | h
  · have h1 : x ≤ x / y := by
      have := Int.le_ediv_of_mul_le hy (show x * y ≤ x by
        have h2 : 1 ≤ y := by omega
        have h3 : (-x) * 1 ≤ (-x) * y := Int.mul_le_mul_of_nonneg_left h2 (by omega)
        have h4 : (-x) * y = -(x * y) := Int.neg_mul x y
        omega)
      exact this
    have h2 : x / y < 0 := Int.ediv_neg_of_neg_of_pos h hy
    omega
  · have h1 : x / y ≤ x := Int.ediv_le_self y h
    have h2 : 0 ≤ x / y := Int.ediv_nonneg h (by omega)
    omega) hx
section
variable {s : Sto} {x y : Int} {m n : Nat}
theorem mulS (hx : nb x ≤ m) (hy : nb y ≤ n) (h : m + n < 100000000) : bMul s (.int x) (.int y) = some (.int (x * y)) := bMul_i (by
  have := nb_log hx
  have := nb_log hy
  omega)
theorem divS (h : 0 < y) (hy : nb y ≤ m) (hm : m < 9000) : bDiv s (.int x) (.int y) = some (.int (x / y)) := bDiv_i h (by
  have := nb_log hy
  omega)
end
end Z

namespace Z
open PySem PySem.W PySem.Calls PyProof.Rows PySem.HandSPX
/-! ### an own exception whose __init__ says super().__init__(f'..') and stores its argument -/
def iniArgs (fld : Str) (pa pb : Pos) : Arguments := { posonlyargs := [], args := [{ arg := "self", annotation := none, pos := pa }, { arg := fld, annotation := none, pos := pb }], vararg := none, kwonlyargs := [], kw_defaults := [], kwarg := none, defaults := [] }
def iniScope (fld : Str) : Scope := { kind := .function, names := [(Str.ofString "self", .local), (fld, .local), (Str.ofString "__class__", .free), (Str.ofString "super", .globalImplicit)], isGenerator := false, isCoroutine := false, more := [] }
/-- a part of the text: written, or the argument -/
inductive GP (fld : Str) : Expr → Prop where
  | c {x : Str} {j : Nat} {p : Pos} (h : x.length ≤ 1000) : GP fld (.Constant (.str x) j p)
  | f {p p' : Pos} : GP fld (.FormattedValue (.Name fld p) (-1) none p')
inductive GPs (fld : Str) : List Expr → Prop where
  | nil : GPs fld []
  | cons {e : Expr} {es : List Expr} (h : GP fld e) (r : GPs fld es) : GPs fld (e :: es)
/-- an int or a text, of a size that can be written -/
def VOk (v : Value) : Prop := (∃ i t, v = .int i t ∧ i.natAbs.log2 < 1920) ∨ ∃ y t, v = .str y t ∧ y.length ≤ 100000
section
variable {prog : Program} {w : World} {A : Around} {E : Value → Shared → Prop}
theorem part_run {fld : Str} {env : Env} {s : Shared} {v : Value} (hl : ∀ (tk : Nat) (p : Pos) (Q : Value → Shared → Prop), Q v { s with toks := tk } → wpAny (model prog w) A (eval (.Name fld p) env) Q E { s with toks := tk }) (hv : VOk v) {e : Expr} (h : GP fld e) (tk : Nat)
    (Q : Value → Shared → Prop) (hq : ∀ y t tk', y.length ≤ 100000 → Q (.str y t) { s with toks := tk' }) : wpAny (model prog w) A (eval e env) Q E { s with toks := tk } := by
  cases h with
  | c hx => exact Calls.Constant_str (hq _ _ _ (Nat.le_trans hx (by decide)))
  | f =>
    refine wpAny_FormattedValue_plain (hl tk _ _ ?_)
    rcases hv with ⟨i, t, rfl, hi⟩ | ⟨y, t, rfl, hy⟩
    · refine wpAny_formatField_int hi (hq _ _ _ ?_)
      have := int_text_length_le (a := i) (by omega) hi
      show (Str.ofString (toString i)).length ≤ 100000
      rw [PySem.ofString_length]; omega
    · refine wpAny_formatField_str (hq y _ _ hy) (hq y _ _ hy) ?_
      exact Nat.le_trans hy (by decide)
theorem parts_run {fld : Str} {env : Env} {s : Shared} {v : Value} (hl : ∀ (tk : Nat) (p : Pos) (Q : Value → Shared → Prop), Q v { s with toks := tk } → wpAny (model prog w) A (eval (.Name fld p) env) Q E { s with toks := tk }) (hv : VOk v) {es : List Expr} (h : GPs fld es) :
    ∀ (acc : Str) (tk : Nat) (Q : Str → Shared → Prop), acc.length + es.length * 100000 ≤ 1000000 → (∀ out tk', out.length ≤ 1000000 → Q out { s with toks := tk' }) → Joins (model prog w) A E (evalEach es env) acc Q { s with toks := tk } := by
  induction h with
  | nil =>
    intro acc tk Q hz hq
    have e0 : evalEach [] env = [] := by first | rfl | simp [evalEach]
    rw [e0]
    exact hq acc tk (by simpa using hz)
  | @cons e es he r ih =>
    intro acc tk Q hz hq
    have e0 : evalEach (e :: es) env = eval e env :: evalEach es env := by first | rfl | simp [evalEach]
    rw [e0]
    rw [List.length_cons] at hz
    refine part_run hl hv he tk _ fun y t tk' hy => ⟨y, t, rfl, ?_, ih (acc ++ y) tk' Q ?_ hq⟩
    · rw [Str.length_append, sizeLine_eq]; omega
    · rw [Str.length_append]; omega
/-- what the written part says of such a class at C, its __init__ at f, the cell of __class__ at cc, the code at cda -/
structure IniK (P : Program) (K : Frag) (C f : Addr) (qual fld : Str) (es : List Expr) (pa pb p0 p1 p2 p3 p4 p5 q1 q2 q3 q4 : Pos) : Prop where
  fn : ∃ (oc ccl cl doc pm ct : Value) (od cdd cld an : Option Addr) (osl ccs csl : Array (Option Value)) (cc cda : Addr) (vs : Array Value) (file : Str) (tf : Tok),
    K.lookup f = some ⟨oc, od, .func (ksFn "__init__" qual (iniArgs fld pa pb) [.Expr (.Call (.Attribute (.Call (.Name "super" p0) [] [] p1) "__init__" p2) [.JoinedStr es p5] [] p3) p4, .Assign [.Attribute (.Name "self" q1) fld q2] (.Name fld q3) q4] (iniScope fld) .none .none doc pm an (.ref cda) ct cc), osl⟩ ∧
      codeIn K (.ref cda) qual = true ∧ K.lookup cda = some ⟨ccl, cdd, .fields vs, ccs⟩ ∧ vs[2]? = some (.str file tf) ∧ ((P.main.file : Str) == file) = true ∧ K.lookup cc = some ⟨cl, cld, .cell (some (.ref C)), csl⟩
  gp : ∃ e1 e2 r, es = e1 :: e2 :: r ∧ GPs fld es ∧ es.length ≤ 5
  top : (P.main.scope.names.lookup ("super" : Str)).isSome = false
  op : nsIn K cStatics "thirdparty.any" = some none
  cls : excInitIn K C [.type "ValueError", .type "Exception", .type "BaseException", .type "object"] "ValueError.__new__" = true
  mro : ∃ cd, clsIn K C = some cd ∧ refsVE cd.mro = true ∧ cd.hasDict = true ∧ alongIn K "__init__" ((cd.mro.dropWhile (· != .ref C)).drop 1) = some (some (.builtin "ValueError.__init__"))
  sub : mroIn K C (.ref C) = some true
  ve : subIn K (.ref C) (.type "ValueError") = some true
  sa : findIn K (.ref C) "__setattr__" = some (some (.builtin "object.__setattr__"))
  no : findIn K (.ref C) fld = some none
  f1 : ¬ fld = Str.ofString "self" ∧ ¬ fld = Str.ofString "super" ∧ (fld == ("__debug__" : Str)) = false ∧ ¬ fld = Str.ofString "__class__"
  ini : findIn K (.ref C) "__init__" = some (some (.ref f))
  tf : typeIn K (.ref f) = some (.type "function")
  kC : keepIn K (.ref C) = true
  bd : ∀ (body : List Stmt) (doc pm ct cdv : Value) (an : Option Addr) (cc : Addr) (a b : Value), bindArgs (ksFn "__init__" qual (iniArgs fld pa pb) body (iniScope fld) .none .none doc pm an cdv ct cc) ⟨[a, b], []⟩ = pure [(Str.ofString "self", a), (fld, b)]
/-- .. of the text itself, whatever the frame -/
structure IniE (fld : Str) (es : List Expr) (p0 p1 p2 p3 p4 p5 q1 q2 q3 q4 : Pos) : Prop where
  ev : ∀ env : Env, ∃ pl : Sem Bool, eval (.Call (.Attribute (.Call (.Name "super" p0) [] [] p1) "__init__" p2) [.JoinedStr es p5] [] p3) env = (do
    let ov ← attributeBase (.Call (.Name "super" p0) [] [] p1) "__init__" env (eval (.Call (.Name "super" p0) [] [] p1) env)
    standAt p2.atName
    let (f, first) ← holding [ov] (getMethod ov "__init__" pl)
    callWith p3 f first (backTo p3 (starEach [.JoinedStr es p5] env)) [])
  st : ∀ env : Env, starEach [.JoinedStr es p5] env = (false, eval (.JoinedStr es p5) env) :: starEach [] env
  sw : ∀ env : Env, swapsWith (.Name fld q3) (some (.Attribute (.Name "self" q1) fld q2)) q4.line env = pure false
  sx : ∀ env : Env, swapsWith (.Call (.Attribute (.Call (.Name "super" p0) [] [] p1) "__init__" p2) [.JoinedStr es p5] [] p3) none p4.line env = pure false
/-- its __init__, run -/
theorem ini_init {K : Frag} {mg mb : Str → Option Value} {C f : Addr} {qual fld : Str} {es : List Expr} {pa pb p0 p1 p2 p3 p4 p5 q1 q2 q3 q4 : Pos} (T : IniK prog K C f qual fld es pa pb p0 p1 p2 p3 p4 p5 q1 q2 q3 q4) (TE : IniE fld es p0 p1 p2 p3 p4 p5 q1 q2 q3 q4) {s : Shared} {R : Result → Shared → Prop} {x t0 : Addr} {v : Value} (hv : VOk v)
    (X : K.In s.heap) (hlim : s.heap.NoLimit) (hx : s.heap.get? x = some (excO C t0)) (hnx : K.lookup x = none) (hroom : A.depth < recursionLimit) (hg : s.heap.Ns mainGlobals mg) (hb : s.heap.Ns builtinsNs mb) (hmg : mg "super" = none) (hmb : mb "super" = some (.type "super"))
    (hq : ∀ h' tk dx t1, (∀ b o, b ≠ x → s.heap.get? b = some o → h'.get? b = some o) → h'.get? x = some { cls := .ref C, dict := some dx, data := .fields #[.ref t1, .none, .none, .none, .bool false, .none] } → s.heap.objs.size ≤ dx → dx ≠ x →
      h'.Ns1 dx (fun y => if y = fld then some v else none) → R (.ok (.ret .none)) { s with heap := h', toks := tk }) :
    codeAny (model prog w) A (.call (.ref f) ⟨[.ref x, v], []⟩) R s := by
  obtain ⟨oc, ccl, cl, doc, pm, ct, od, cdd, cld, an, osl, ccs, csl, cc, cda, vs, file, tf, ho, hcd, hcda, hvs, hfile, hcc⟩ := T.fn
  obtain ⟨cd, hcl, hmro, hhd, hal⟩ := T.mro
  obtain ⟨g1, g2, g3, g4⟩ := T.f1
  obtain ⟨e1, e2, er, hes, hgp, hlen⟩ := T.gp
  have l1 : (iniScope fld).names.lookup (Str.ofString "self") = some .local := by simp [iniScope]
  have l2 : (iniScope fld).names.lookup fld = some .local := by simp [iniScope, List.lookup, beq_eq_false_iff_ne.mpr g1]
  have l3 : (iniScope fld).names.lookup (Str.ofString "__class__") = some .free := by
    have : (Str.ofString "__class__" == fld) = false := beq_eq_false_iff_ne.mpr (Ne.symm g4)
    have z : (Str.ofString "__class__" == Str.ofString "self") = false := by decide
    simp [iniScope, List.lookup, this, z]
  have l4 : (iniScope fld).names.lookup (Str.ofString "super") = some .globalImplicit := by
    have : (Str.ofString "super" == fld) = false := beq_eq_false_iff_ne.mpr (Ne.symm g2)
    have z : (Str.ofString "super" == Str.ofString "self") = false := by decide
    have z2 : (Str.ofString "super" == Str.ofString "__class__") = false := by decide
    simp [iniScope, List.lookup, this, z, z2]
  refine ks_codeAny_call_defAt (binds := [(Str.ofString "self", .ref x), (fld, v)]) hroom (X _ _ ho) rfl hlim (codeRec_of X hcd) rfl (BindsTo.of_eq (T.bd _ _ _ _ _ _ _ _ _)) ?_ ?_ (fun h₁ hns k => ?_)
  · intro y hy
    simp [iniScope] at hy
    rcases hy with rfl | rfl | rfl | rfl <;> exact fun z => nomatch z
  · intro y hy
    simp at hy
    rcases hy with rfl | rfl
    · exact l1
    · exact l2
  have hn : (fun y => (List.reverse [((Str.ofString "self"), Value.ref x), (fld, v)]).lookup y) (Str.ofString "self") = some (.ref x) := by
    have : (Str.ofString "self" == fld) = false := beq_eq_false_iff_ne.mpr (Ne.symm g1)
    simp [List.lookup, this]
  have hn2 : (fun y => (List.reverse [((Str.ofString "self"), Value.ref x), (fld, v)]).lookup y) fld = some v := by
    simp [List.lookup]
  have hxL : s.heap.objs.size ≠ x := Nat.ne_of_gt (Heap.lt_size hx)
  have X₁ : K.In h₁ := X.keeps k
  have hx₁ := k _ _ hx
  have hI : InstAt h₁ x (excO C t0) C none := ⟨hx₁, rfl, rfl, trivial⟩
  obtain ⟨oD, hD1, hD2⟩ : ∃ oD, h₁.get? C = some oD ∧ oD.data = .cls cd := by
    unfold clsIn at hcl
    split at hcl
    · rename_i c d cd' sl ho2
      cases hcl
      exact ⟨_, X₁ _ _ ho2, rfl⟩
    · cases hcl
  obtain ⟨hp, g, dr, tk, os⟩ := s
  -- super().__init__(..)
  obtain ⟨pl, hev⟩ := TE.ev (callEnv (ksFn "__init__" qual (iniArgs fld pa pb) [.Expr (.Call (.Attribute (.Call (.Name "super" p0) [] [] p1) "__init__" p2) [.JoinedStr es p5] [] p3) p4, .Assign [.Attribute (.Name "self" q1) fld q2] (.Name fld q3) q4] (iniScope fld) .none .none doc pm an (.ref cda) ct cc) hp.objs.size f)
  refine ks_wpAt_execs_cons (ks_wpAt_Expr_any ?_ rfl (TE.sx _))
  refine ks_wpAt_MethodCall ?_ hev
  refine ks_wpAt_super_base (fd := ksFn "__init__" qual (iniArgs fld pa pb) _ (iniScope fld) .none .none doc pm an (.ref cda) ct cc) l4 l3 (by decide) rfl (X₁ _ _ ho) rfl (ar := { arg := "self", annotation := none, pos := pa }) rfl rfl (X₁ _ _ hcda) rfl hvs hfile T.top ?_
  refine ks_loadName_global rfl l4 (loadGlobal_builtin (hg.keeps k) hmg (hb.keeps k) hmb ⟨rfl, ?_⟩)
  refine wpAny_loadName_free rfl l3 (by rfl) ⟨_, X₁ _ _ hcc, rfl⟩ ?_
  refine wpAny_loadName_local rfl l1 hns hn ?_
  refine ks_wpAny_isType_cls hD1 hD2 ⟨rfl, ?_⟩
  refine ks_wpAny_call_super hD1 hD2 hx₁ rfl (fun c e => nomatch e) (looks_mroIn X₁ T.sub) (fun h₂ hso k₂ => ?_)
  have X₂ : K.In h₂ := X₁.keeps k₂
  have hx₂ := k₂ _ _ hx₁
  have hI₂ : InstAt h₂ x (excO C t0) C none := ⟨hx₂, rfl, rfl, trivial⟩
  refine kxs_getMethod kxs_ValueError hso (looks_opaque X₂ T.op) (l₀ := cd.mro) (fun A Q E s k q => wpAny_bind ((looks_clsIn X₂ hcl) A _ E s k (wpAny_pure q))) rfl X₂ hal (hI₂.type.andThen (looks_subIn X₂ T.ve)) (ks_ne X₂ hI₂ hcl) (by decide) ?_
  rw [TE.st]
  have k₃ : ∀ b o, h₂.get? b = some o → (h₂.push (kxs_mw "ValueError.__init__" x)).get? b = some o := fun b o e => Heap.get?_push_of_some _ e
  have hu : (h₂.push (kxs_mw "ValueError.__init__" x)).get? h₂.objs.size = some (kxs_mw "ValueError.__init__" x) := Heap.get?_push_at rfl rfl
  refine kxs_callWith (i := "ValueError.__init__") (x := x) rfl (evalArgs_plain ?_)
  refine Calls.spliced_cons ?_
  subst hes
  refine wpAny_JoinedStr (pos := p5) (parts_run (fld := fld) (v := v) (s := ⟨h₂.push (kxs_mw "ValueError.__init__" x), g, dr, tk, os⟩) (fun tk' p Q q => ?_) hv hgp Str.empty _ _ (by show 0 + _ ≤ _; omega) fun out tk' ho' => ⟨Nat.le_trans ho' (by decide), ?_⟩)
  · exact wpAny_Name (wpAny_loadName_local rfl l2 (hns.keeps fun b o e => k₃ b o (k₂ b o e)) hn2 q) g3
  refine Calls.spliced_nil ⟨hu, ?_⟩
  have ux : h₂.objs.size ≠ x := Nat.ne_of_gt (Heap.lt_size hx₂)
  have hns₂ := hns.keeps k₂
  have uL : h₂.objs.size ≠ hp.objs.size := Nat.ne_of_gt hns₂.lt
  have g0n : ∀ b, hp.objs.size ≤ b → (hideAll hp [x]).get? b = none := fun b hb => Heap.get?_none_of_le (by rw [hideAll_size]; exact hb)
  have F : Fr (hideAll hp [x]) hp.objs.size (h₂.push (kxs_mw "ValueError.__init__" x)) (fun y => (List.reverse [((Str.ofString "self"), Value.ref x), (fld, v)]).lookup y) :=
    ⟨hns₂.keeps k₃, fun b o e => k₃ _ _ (k₂ _ _ (k _ _ (of_hideAll _ e))), Nat.le_of_eq (hideAll_size _ _)⟩
  have N : News (hideAll hp [x]) hp.objs.size (h₂.push (kxs_mw "ValueError.__init__" x)) [(h₂.objs.size, kxs_mw "ValueError.__init__" x), (x, excObj C t0 none .none)] := by
    intro p hp'
    simp only [List.mem_cons, List.not_mem_nil, or_false] at hp'
    rcases hp' with rfl | rfl
    · exact ⟨hu, uL, g0n _ (Nat.le_of_lt hns₂.lt)⟩
    · exact ⟨k₃ _ _ hx₂, Ne.symm hxL, hideAll_none _ (by simp)⟩
  have X0 : K.In (hideAll hp [x]) := fun a o e => hideAll_get _ (X a o e) (fun m => by
    rw [List.mem_singleton.mp m, hnx] at e; cases e)
  refine kxs_call F X0 N PySem.F.excBase_ValueError T.cls List.mem_cons_self (.tail ux (.head fun p hp => nomatch hp)) (by rw [sizeLine_eq]; exact (by decide : 1 ≤ 16777216)) fun t1 h₄ F₄ N₄ _ => ?_
  have hx₄ : h₄.get? x = some (excObj C t1 none .none) := (N₄ (x, excObj C t1 none .none) (by simp)).1
  have X₄ : K.In h₄ := X0.keeps F₄.keep
  -- self.fld = fld
  refine ks_wpAt_execs_cons (ks_wpAt_Assign_Attr ?_ (TE.sw _))
  refine wpAt_of_wpAny (wpAny_Name (wpAny_loadName_local rfl l2 F₄.ns hn2 ?_) g3)
  refine wpAny_Name (wpAny_loadName_local rfl l1 F₄.ns hn ?_) (by decide)
  refine set_plain X₄ (ox := excObj C t1 none .none) (od := none) ⟨hx₄, rfl, rfl, trivial⟩ T.sa ?_
  refine exc_osa X₄ hx₄ hcl hmro hhd T.no fun h₅ tk₅ dx k₅ dn dne hx₅ hn₅ => ?_
  refine wpAt_of_wpAny (wpAny_execs_nil (hq h₅ tk₅ dx t1 (fun b o hb e => k₅ b o hb (F₄.keep b o (hideAll_get _ e (by simpa using hb)))) hx₅ ?_ dne hn₅))
  exact Nat.le_of_lt (Nat.lt_of_lt_of_le F₄.ns.lt dn)
end
end Z

namespace Z
open PySem PySem.W PySem.Calls PyProof.Rows PySem.HandSPX
/-- such an exception, made -/
structure IniMade (h h' : Heap) (e C d : Addr) (fld : Str) (v : Value) : Prop where
  keep : ∀ b o, h.get? b = some o → h'.get? b = some o
  new : h.objs.size ≤ e
  obj : ∃ oe vs, h'.get? e = some oe ∧ oe.cls = .ref C ∧ oe.dict = some d ∧ oe.data = .fields vs ∧ vs[1]? = some .none
  dbig : h.objs.size ≤ d
  dne : d ≠ e
  ns : h'.Ns1 d (fun y => if y = fld then some v else none)
section
variable {prog : Program} {w : World} {A : Around} {E : Value → Shared → Prop}
theorem ini_made {K : Frag} {mg mb : Str → Option Value} {C f : Addr} {qual fld : Str} {es : List Expr} {pa pb p0 p1 p2 p3 p4 p5 q1 q2 q3 q4 : Pos} (T : IniK prog K C f qual fld es pa pb p0 p1 p2 p3 p4 p5 q1 q2 q3 q4) (TE : IniE fld es p0 p1 p2 p3 p4 p5 q1 q2 q3 q4) {s : Shared} {R : Result → Shared → Prop} {v : Value} (hv : VOk v)
    (X : K.In s.heap) (hlim : s.heap.NoLimit) (hroom : A.depth + 1 < recursionLimit) (hg : s.heap.Ns mainGlobals mg) (hb : s.heap.Ns builtinsNs mb) (hmg : mg "super" = none) (hmb : mb "super" = some (.type "super"))
    (hq : ∀ h' tk e d, IniMade s.heap h' e C d fld v → R (.ok (.ret (.ref e))) { s with heap := h', toks := tk }) : codeAny (model prog w) A (.call (.ref C) ⟨[v], []⟩) R s := by
  obtain ⟨nm, N, qn, bs, bm, hdct, sn, sub, ab, col, dd, k0, k1, k2, k3, k5, hC, hT⟩ := excInit_of X T.cls
  rcases s with ⟨hp, g, dr, tk, os⟩
  have kk : ∀ b o, hp.get? b = some o → ((hp.push (kdv_tup [v])).push (excO C hp.objs.size)).get? b = some o := fun b o e => Heap.get?_push_of_some _ (Heap.get?_push_of_some _ e)
  have hget : ((hp.push (kdv_tup [v])).push (excO C hp.objs.size)).get? (hp.objs.size + 1) = some (excO C hp.objs.size) := by heap_get
  have hnx : K.lookup (hp.objs.size + 1) = none := by
    cases e : K.lookup (hp.objs.size + 1) with
    | none => rfl
    | some o =>
      have z := Heap.lt_size (X _ _ e)
      exact absurd z (by show ¬ hp.objs.size + 1 < hp.objs.size; omega)
  refine call_own PySem.F.excBase_ValueError hT hC (looks_findIn X T.ini) (fun self => bind_fn X self T.tf) (by rw [sizeLine_eq]; exact (by decide : 1 ≤ 16777216)) ?_
  refine ini_init (mg := mg) (mb := mb) (s := ⟨(hp.push (kdv_tup [v])).push (excO C hp.objs.size), g, dr, tk, os⟩) T TE hv (X.keeps kk) (hlim.keeps kk) hget hnx ?_ (hg.keeps kk) (hb.keeps kk) hmg hmb fun h' tk' dx t1 k' hx dn dne hns => ?_
  · show A.depth + 1 < recursionLimit
    exact hroom
  · have z : hp.objs.size + 1 + 1 ≤ dx := by
      have q := dn
      rw [Heap.size_push, Heap.size_push] at q
      exact q
    refine ⟨rfl, hq h' tk' (hp.objs.size + 1) dx ⟨fun b o e => k' b o (Nat.ne_of_lt (Nat.lt_succ_of_lt (Heap.lt_size e))) (kk b o e), Nat.le_succ _, ⟨_, _, hx, rfl, rfl, rfl, rfl⟩, by show hp.objs.size ≤ dx; omega, dne, hns⟩⟩
end
end Z
namespace Z
open PySem L2
theorem relO_one {fld : Str} {v : V} {v' : Value} (r : RelV v v') (f : Str) : RelO (List.lookup f [(fld, v)]) (if f = fld then some v' else none) := by
  by_cases h : f = fld
  · subst h
    rw [if_pos rfl, show List.lookup f [(f, v)] = some v by simp [List.lookup]]
    exact r
  · have q : (f == fld) = false := beq_eq_false_iff_ne.mpr h
    rw [if_neg h, show List.lookup f [(fld, v)] = none by simp [List.lookup, q]]
    trivial
/-- an int or a text that can be written -/
def VSm : V → Prop
  | .int i => i.natAbs.log2 < 1920
  | .str y => y.length ≤ 100000
  | _ => False
theorem vok_of {y : V} {v : Value} (r : RelV y v) (h : VSm y) : VOk v := by
  cases y with
  | int i => obtain ⟨t, rfl⟩ := r; exact .inl ⟨i, t, rfl, h⟩
  | str x => obtain ⟨t, rfl⟩ := r; exact .inr ⟨x, t, rfl, h⟩
  | _ => exact h.elim
section
variable {X : Cx} {C f : Addr} {qual fld : Str} {es : List Expr} {pa pb p0 p1 p2 p3 p4 p5 q1 q2 q3 q4 : Pos}
def tMkI (C : Addr) (fld : Str) (ta : TA) : St → Hp → XK → Prop := fun σ H Q => ta σ H fun vs H1 => ∃ y, vs = [y] ∧ VSm y ∧ ∀ d, H1 d = none → Q (.ref C) (some d) (upd H1 d (.xd [(fld, y)]))
theorem pmk_ini {a : Expr} {ta : TA} {x : Str} {p pos : Pos} {k : Nat} (T : IniK X.prog X.K C f qual fld es pa pb p0 p1 p2 p3 p4 p5 q1 q2 q3 q4) (TE : IniE fld es p0 p1 p2 p3 p4 p5 q1 q2 q3 q4) (hr : Room k X.A) (hms : X.mg "super" = none) (gC : X.mg x = some (.ref C)) (rC : Raises X (.ref C)) (ha : PA X [a] ta) (hg : Gl X x := by rfl)
    (hdb : (x == ("__debug__" : Str)) = false := by decide) (he : starEach (a :: []) X.env = (false, eval a X.env) :: starEach [] X.env := by rfl) (hpl : (backTo pos (starEach [] X.env)).any (·.1) = false := by rfl) :
    PMk X (.Call (.Name x p) [a] [] pos) (tMkI C fld ta) := by
  intro pins s σ H Q I h
  refine wpAny_Call_Name_kw (ld_glob I hg gC ?_ hdb)
  refine PySem.W.callWith_K (h₀ := X.base) I.ok.mod.kin T.kC (thn (ha.run pos pins s σ H _ I h) fun us s1 hh => ?_) he hpl
  obtain ⟨vs, H1, I1, r1, y, rfl, hy, q1⟩ := hh
  refine ⟨I1.kIn, ?_⟩
  cases r1 with
  | cons rv rn =>
    rename_i v' us'
    cases rn
    show wpAny _ _ (call (.ref C) [v']) _ _ _
    have hlim := I1.nolimit
    obtain ⟨mb, hmb, hbb⟩ := I1.mod.blt
    have hsup : mb "super" = some (.type "super") := (hbb _ (by decide)).trans (by decide +kernel)
    have g1 := I1.mod.glob.keeps I1.bk
    have g2 := hmb.keeps I1.bk
    rcases s1 with ⟨hp, g, dr, tk, os⟩
    refine wpAny_call (ini_made (mg := X.mg) (mb := mb) T TE (vok_of rv hy) I1.kIn hlim (by have := hr.dp; omega) g1 g2 hms hsup fun h' tk' e d M => ?_)
    show MkP X pins σ Q (.ref e) ⟨h', g, dr, tk', os⟩
    obtain ⟨oe, fv, hoe, hc, hd, hdat, h1⟩ := M.obj
    have hns := M.ns
    obtain ⟨G', g1, g2⟩ := restrict h' fun b => decide (b ≠ e)
    have gk : ∀ b, b ≠ e → G'.get? b = h'.get? b := fun b hb => g1 b (decide_eq_true hb)
    have ge : G'.get? e = none := g2 e (by simp)
    have old : ∀ b o, hp.get? b = some o → G'.get? b = some o := fun b o q => (gk b (Nat.ne_of_lt (Nat.lt_of_lt_of_le (Heap.lt_size q) M.new))).trans (M.keep b o q)
    have ob : ObjOk X.prog X.w (upd H1 d (.xd [(fld, y)])) G' d (.xd [(fld, y)]) := ⟨_, hns.at (fun o q => (gk d M.dne).trans q), fun f => relO_one rv f⟩
    have J : Inv X pins σ (upd H1 d (.xd [(fld, y)])) ⟨G', g, dr, tk', os⟩ := I1.laid (t' := tk') old M.dbig ob
    refine ⟨e, oe, fv, ⟨G', g, dr, tk', os⟩, _, .ref C, some d, rfl, J, fun b o q => ?_, ge, hoe, ⟨hc, hd⟩, hdat, h1, ?_, rfl, I1.bare, rC, q1 d (I1.hok.fresh M.dbig)⟩
    · by_cases hb : b = e
      · have q' : G'.get? b = some o := q
        rw [hb, ge] at q'; cases q'
      · exact (gk b hb).symm.trans q
    · rw [upd_ne (Ne.symm M.dne)]
      exact I1.hok.fresh M.new
end
end Z

namespace Z
open PySem L2
/-! ### raise X(e), X with an __init__ that says super().__init__(f'..') -/
def smM : MV → Bool
  | .int i => decide (i.natAbs.log2 < 1920)
  | .str y => decide (y.length ≤ 100000)
  | _ => false
def sRaiseA (c f : Nat) (ma : Ev → M MV) : MS := fun env => bndS (ma env) env fun v s => if smM v = true then .ex env c [(f, v)] s else .bad
section
variable {X : Cx} {T : Tx} {W : WX} {ma : Ev → M MV} {c f : Nat} {C fA : Addr} {qual x : Str} {es : List Expr} {pa pb p0 p1 p2 p3 p4 p5 q1 q2 q3 q4 p pos pos2 : Pos} {a : Expr} {k : Nat}
theorem vsm_of {ρ : List Addr} {H : Hp} {v : MV} {y : V} (r : RV T ρ H v y) (h : smM v = true) : VSm y := by
  cases v with
  | int i =>
    cases r
    show i.natAbs.log2 < 1920
    exact of_decide_eq_true h
  | str s =>
    cases r
    show s.length ≤ 100000
    exact of_decide_eq_true h
  | _ => cases h
theorem s_raiseA (hc : X.calm = true) (tk : Takes X W) (TI : IniK X.prog X.K (T.cls c) fA qual (fnm f) es pa pb p0 p1 p2 p3 p4 p5 q1 q2 q3 q4) (TE : IniE (fnm f) es p0 p1 p2 p3 p4 p5 q1 q2 q3 q4) (hr : Room k X.A) (hms : X.mg "super" = none) (gC : X.mg x = some (.ref (T.cls c))) (rC : Raises X (.ref (T.cls c))) (hx : T.hasX c = true) (hf : f < 34)
    (ha : PE X a (tE T W ma)) (hg : Gl X x := by rfl) (hdb : (x == ("__debug__" : Str)) = false := by decide) (he : starEach (a :: []) X.env = (false, eval a X.env) :: starEach [] X.env := by rfl) (hpl : (backTo pos (starEach [] X.env)).any (·.1) = false := by rfl) :
    PS X (.Raise (some (.Call (.Name x p) [a] [] pos)) none pos2) (tS T W (sRaiseA c f ma)) :=
  ps_mono (ps_raise hc tk (pmk_ini TI TE hr hms gC rC (pa_cons ha pa_nil he) hg hdb he hpl)) fun D σ H ⟨ρ, st, env, S, E, h⟩ => by
    refine ⟨ρ, st, env, S, E, (OutS.bnd E h).imp fun y H1 ⟨ρ1, s1, v, F1, r1, q1⟩ => ?_⟩
    by_cases hs : smM v = true
    · rw [if_pos hs] at q1
      refine ⟨y, rfl, vsm_of r1 hs, fun d hd => ?_⟩
      have F2 := F1.sim.fresh (o := .xd [(fnm f, y)]) hd
      refine q1 _ _ _ _ _ F2 ((E.later F1.lat).later F2.lat) ⟨rfl, hx, ?_, .inr ⟨d, [y], rfl, by simp, F1.sim.free hd, upd_same, ⟨y, [], rfl, r1.later F2.lat, rfl⟩⟩⟩
      intro p hp
      rw [List.mem_singleton.mp hp]; exact hf
    · rw [if_neg hs] at q1; exact q1.elim
/-- a statement that is never reached -/
def sBad : MS := fun _ _ => .bad
theorem s_bad {st : Stmt} : PS X st (tS T W sBad) := ⟨fun pins s σ H D I ⟨_, _, _, _, _, h⟩ => h.elim⟩
def mBad : Ev → M MV := fun _ _ => .bad
theorem v_bad {e : Expr} : PE X e (tE T W mBad) := ⟨fun pins s σ H Q I ⟨_, _, _, _, _, h⟩ => h.elim⟩
end
/-! ### the handled exception, with fields -/
def mExcI (i : Nat) (b : Bool) : Ev → M MV := fun env s => match env.getD i none with
  | some .exc => .ok (.bl b) s
  | _ => .bad
def mExcF (i f : Nat) (fs : List (Nat × MV)) : Ev → M MV := fun env s => match env.getD i none, lookN f fs with
  | some .exc, some v => .ok v s
  | _, _ => .bad
theorem getD_some {env : Ev} {i : Nat} {m : MV} (e : env.getD i none = some m) : env[i]? = some (some m) := by
  rw [List.getD_eq_getElem?_getD] at e
  cases q : env[i]? with
  | none => rw [q] at e; cases e
  | some o => rw [q] at e; simp at e; rw [e]
section
variable {X : Cx} {T : Tx} {a : Addr} {oe : Obj} {pn : List (Addr × Obj)} {cl : Value} {d : Option Addr} {c : Nat} {fs : List (Nat × MV)} {x : Str} {px p pos : Pos} {ce : Expr}
/-- the exception's object, as the suite holds it -/
theorem exc_inst {pins : List (Addr × Obj)} {s : Shared} {σ : St} {H : Hp} {D : Addr} (I : Inv (X.suite a ((a, oe) :: pn)) pins σ H s) (hz : Zc (.ref D) d oe) (hf : ∃ vs, oe.data = .fields vs) (hd : d = none ∨ ∃ dd gs, d = some dd ∧ H dd = some (.xd gs)) : ∃ od, PySem.W.InstAt s.heap a oe D od := by
  obtain ⟨hget, _⟩ := I.pin (a, oe) (List.mem_append.mpr (.inl List.mem_cons_self))
  obtain ⟨vs, hv⟩ := hf
  have hnc : PySem.W.notCls oe = true := by unfold PySem.W.notCls; rw [hv]
  rcases hd with rfl | ⟨dd, gs, rfl, e⟩
  · refine ⟨none, hget, hz.1, hnc, ?_⟩
    rw [hz.2]; trivial
  · obtain ⟨mA, hns, _⟩ := (show ObjOk X.prog X.w H s.heap dd (.xd gs) from I.hok dd _ e)
    obtain ⟨od, ho, _⟩ := lookIn_ns hns
    exact ⟨some od, hget, hz.1, hnc, by rw [hz.2]; exact ho⟩
theorem clsIn_some {K : PySem.W.Frag} {D : Addr} (h : PySem.W.hasDictIn K D = true) : (PySem.W.clsIn K D).isSome = true := by
  obtain ⟨cd, e, _⟩ := PySem.W.any_some h
  rw [e]; rfl
theorem exc_rx {ρ : List Addr} {st : Sto} {H : Hp} {σ : St} {env : Ev} {i : Nat} (S : Sim (T.on c fs cl d a) ρ st H) (E : REnv (T.on c fs cl d a) ρ H env σ) (h : env[i]? = some (some .exc)) : RX (T.on c fs cl d a) ρ H c fs cl d ∧ σ[i]? = some (some (.ref a)) := by
  refine ⟨S.exc c fs cl d a rfl, ?_⟩
  obtain ⟨v, q1, q2⟩ := E.get h
  rcases q2 with q2 | ⟨_, c', fs', cl', d', a', e, ev⟩
  · exact q2.elim
  · cases e
    rw [q1, ev]
theorem rx_dict {T : Tx} {ρ : List Addr} {H : Hp} (r : RX T ρ H c fs cl d) : d = none ∨ ∃ dd gs, d = some dd ∧ H dd = some (.xd gs) := by
  rcases r.2.2.2 with ⟨_, h⟩ | ⟨dd, vs, e, _, _, h, _⟩
  · exact .inl h
  · exact .inr ⟨dd, _, e, h⟩
theorem v_excI (i : Nat) {w : V} {cv : Value} {b : Bool} (hC : ∀ c, T.hasX c = true → ExcC X.K (T.cls c)) (hb : T.hasX c = true → PySem.W.kitOne X.K (.ref (T.cls c)) cv = some b) (hz : Zc cl d oe) (hf : ∃ vs, oe.data = .fields vs) (hw : ClsV w cv)
    (hx : PE (X.suite a ((a, oe) :: pn)) (.Name x px) (fun σ H Q => ∃ v, σ[i]? = some (some v) ∧ Q v H)) (hc : PE (X.suite a ((a, oe) :: pn)) ce (tC w)) (hm : X.mg "isinstance" = none) (hg : Gl X "isinstance" := by rfl)
    (he : starEach (.Name x px :: [ce]) X.env = (false, eval (.Name x px) X.env) :: starEach [ce] X.env := by rfl) (he2 : starEach (ce :: []) X.env = (false, eval ce X.env) :: starEach [] X.env := by rfl) (hpl : (backTo pos (starEach [ce] X.env)).any (·.1) = false := by rfl) :
    PE (X.suite a ((a, oe) :: pn)) (.Call (.Name "isinstance" p) [.Name x px, ce] [] pos) (tE (T.on c fs cl d a) WF (mExcI i b)) := by
  refine ⟨fun pins s σ H Q I ⟨ρ, st, env, S, E, h⟩ => ?_⟩
  unfold mExcI at h
  cases e : env.getD i none with
  | none => rw [e] at h; exact h.elim
  | some m =>
    rw [e] at h
    cases m with
    | exc =>
      obtain ⟨R, hs⟩ := exc_rx S E (getD_some e)
      obtain ⟨ecl, hx1, _⟩ := id R
      have ecl' : cl = .ref (T.cls c) := ecl
      subst ecl'
      have K := hC c hx1
      have call : CallR (X.suite a ((a, oe) :: pn)) (.builtin "isinstance") (fun xs H' Q' => xs = [.ref a, w] ∧ (d = none ∨ ∃ dd gs, d = some dd ∧ H' dd = some (.xd gs)) ∧ Q' (.bl b) H') := by
        intro pins s σ H' xs us Q' I r ⟨e1, hd, q⟩
        subst e1
        obtain ⟨u1, u2, rfl, r1, r2⟩ := vals2 r
        cases (show u1 = Value.ref a from r1)
        have e3 := hw.eq r2
        subst e3
        obtain ⟨od, J⟩ := exc_inst I hz hf hd
        exact PySem.W.kia_one (PySem.W.kitx_exc (clsIn_some K.hd) K.hg K.hk K.hs K.ha K.hn K.ht K.hm) I.kIn J (hb hx1) (fun z => nomatch z) fun tk => ⟨.bl b, H', I.kept (t' := tk) fun _ _ z => z, rfl, q⟩
      exact (pe_callB (X := X.suite a ((a, oe) :: pn)) call hg hm rfl (pa_cons hx (pa_cons hc pa_nil he2) he) (by decide) (by decide) he hpl).run pins s σ H Q I ⟨_, hs, rfl, rx_dict R, h ρ H _ (Fut.refl S) rfl⟩
    | _ => exact h.elim
theorem v_excIT (i : Nat) {ws : List V} {cvs : List Value} {es : List Expr} {b : Bool} {k : Nat} {p2 : Pos} (hC : ∀ c, T.hasX c = true → ExcC X.K (T.cls c)) (hb : T.hasX c = true → PySem.W.kitAny X.K (.ref (T.cls c)) cvs = some b) (hz : Zc cl d oe) (hf : ∃ vs, oe.data = .fields vs) (hw : Paired ClsV ws cvs)
    (hx : PE (X.suite a ((a, oe) :: pn)) (.Name x px) (fun σ H Q => ∃ v, σ[i]? = some (some v) ∧ Q v H)) (hc : PA (X.suite a ((a, oe) :: pn)) es (fun _ H Q => Q ws H)) (hl : ws.length ≤ 1000) (hm : X.mg "isinstance" = none) (hg : Gl X "isinstance" := by rfl)
    (he : starEach (.Name x px :: [.Tuple es k p2]) X.env = (false, eval (.Name x px) X.env) :: starEach [.Tuple es k p2] X.env := by rfl) (he2 : starEach (.Tuple es k p2 :: []) X.env = (false, eval (.Tuple es k p2) X.env) :: starEach [] X.env := by rfl) (hpl : (backTo pos (starEach [.Tuple es k p2] X.env)).any (·.1) = false := by rfl) :
    PE (X.suite a ((a, oe) :: pn)) (.Call (.Name "isinstance" p) [.Name x px, .Tuple es k p2] [] pos) (tE (T.on c fs cl d a) WF (mExcI i b)) := by
  refine ⟨fun pins s σ H Q I ⟨ρ, st, env, S, E, h⟩ => ?_⟩
  unfold mExcI at h
  cases e : env.getD i none with
  | none => rw [e] at h; exact h.elim
  | some m =>
    rw [e] at h
    cases m with
    | exc =>
      obtain ⟨R, hs⟩ := exc_rx S E (getD_some e)
      obtain ⟨ecl, hx1, _⟩ := id R
      have ecl' : cl = .ref (T.cls c) := ecl
      subst ecl'
      have K := hC c hx1
      have call : CallR (X.suite a ((a, oe) :: pn)) (.builtin "isinstance") (fun xs H' Q' => ∃ tp, xs = [.ref a, .ref tp] ∧ H' tp = some (.tup ws) ∧ (d = none ∨ ∃ dd gs, d = some dd ∧ H' dd = some (.xd gs)) ∧ Q' (.bl b) H') := by
        intro pins s σ H' xs us Q' I r ⟨tp, e1, hT, hd, q⟩
        subst e1
        obtain ⟨u1, u2, rfl, r1, r2⟩ := vals2 r
        cases (show u1 = Value.ref a from r1)
        cases (show u2 = Value.ref tp from r2)
        obtain ⟨od, J⟩ := exc_inst I hz hf hd
        obtain ⟨_, its, rv, o, h1, h2, n, h3⟩ := (show ObjOk X.prog X.w H' s.heap tp (.tup ws) from I.hok tp _ hT)
        have e3 := ClsV.all hw rv
        subst e3
        rcases o with ⟨oc, od, dt, sl⟩
        simp only at h2 h3
        subst h2 h3
        exact PySem.W.kia_tup (PySem.W.kitx_exc (clsIn_some K.hd) K.hg K.hk K.hs K.ha K.hn K.ht K.hm) I.kIn J h1 (hb hx1) (fun z => nomatch z) fun tk => ⟨.bl b, H', I.kept (t' := tk) fun _ _ z => z, rfl, q⟩
      refine (pe_callB (X := X.suite a ((a, oe) :: pn)) call hg hm rfl (pa_cons hx (pa_cons (pe_tup hc) pa_nil he2) he) (by decide) (by decide) he hpl).run pins s σ H Q I ⟨_, hs, Nat.le_trans hl (by decide), fun tp hp => ?_⟩
      have F := S.fresh (o := .tup ws) hp
      exact ⟨tp, rfl, upd_same, rx_dict (R.later F.lat), h ρ _ _ F rfl⟩
    | _ => exact h.elim
theorem v_excF (i f : Nat) {n : Str} (hX : ∀ c, T.hasX c = true → XfC X.K (T.cls c)) (hno : T.hasX c = true → PySem.W.findIn X.K (.ref (T.cls c)) n = some none) (hz : Zc cl d oe) (hf : ∃ vs, oe.data = .fields vs) (h34 : f < 34)
    (hx : PE (X.suite a ((a, oe) :: pn)) (.Name x px) (fun σ H Q => ∃ v, σ[i]? = some (some v) ∧ Q v H)) (hn : n = fnm f := by rfl) (hb : attributeBase (.Name x px) n X.env (eval (.Name x px) X.env) = eval (.Name x px) X.env := by rfl) :
    PE (X.suite a ((a, oe) :: pn)) (.Attribute (.Name x px) n pos) (tE (T.on c fs cl d a) WF (mExcF i f fs)) := by
  refine ⟨fun pins s σ H Q I ⟨ρ, st, env, S, E, h⟩ => ?_⟩
  unfold mExcF at h
  cases e : env.getD i none with
  | none => rw [e] at h; exact h.elim
  | some m =>
    rw [e] at h
    cases m with
    | exc =>
      cases el : lookN f fs with
      | none => rw [el] at h; exact h.elim
      | some v =>
        rw [el] at h
        obtain ⟨R, hs⟩ := exc_rx S E (getD_some e)
        obtain ⟨ecl, hx1, h3, h4⟩ := id R
        have ecl' : cl = .ref (T.cls c) := ecl
        subst ecl'
        rcases h4 with ⟨h4, _⟩ | ⟨dd, vs, rfl, _, _, hH, rv⟩
        · subst h4; cases el
        · subst hn
          rw [lookN_zip] at el
          obtain ⟨u, l1, l2⟩ := zip_lookup h34 (fun j hj => by
            obtain ⟨q, hq, rfl⟩ := List.mem_map.mp hj
            exact h3 q hq) rv el
          rw [List.map_map] at l1
          exact (pe_xf (hX c hx1) (hno hx1) hz hf hx hb).run pins s σ H Q I ⟨_, hs, rfl, rfl, dd, _, u, rfl, hH, l1, h ρ H u (Fut.refl S) l2⟩
    | _ => exact h.elim
end
end Z

namespace Z
open PySem L2
/-! ### methods of lists and texts -/
def mMB (ok : Sto → MV → Bool) (f : MV → List MV → M MV) (mo : Ev → M MV) (as : Ev → M (List MV)) : Ev → M MV := fun env => M.bnd (mo env) fun x s => if ok s x = true then M.bnd (as env) (f x) s else .bad
def rMB (T : Tx) (f : MV → List MV → M MV) : V → List V → Hp → VK → Prop := fun x xs H Q => ∃ (W : WX) (σ : St) (ρ : List Addr) (st : Sto) (a : MV) (ms : List MV), Sim T ρ st H ∧ RV T ρ H a x ∧ RVs T ρ H ms xs ∧ Out T W (RV T) ρ H σ (f a ms st) Q
section
variable {X : Cx} {T : Tx} {W : WX} {ma : Ev → M MV} {as : Ev → M (List MV)} {o e : Expr} {es : List Expr} {name : Str} {apos cpos : Pos} {Ty id : String} {ok : Sto → MV → Bool} {f : MV → List MV → M MV}
theorem mb_red {σ : St} {H : Hp} {Q : VK} (hok : ∀ (ρ : List Addr) (st : Sto) (H : Hp) (a : MV) (x : V), Sim T ρ st H → RV T ρ H a x → ok st a = true → L2.tyV X.K Ty x H) (h : tE T W (mMB ok f ma as) σ H Q) : tBM X.K Ty (rMB T f) (tE T W ma) (tA T W as) σ H Q := by
  obtain ⟨ρ, st, env, S, E, h⟩ := h
  refine ⟨ρ, st, env, S, E, h.bnd.imp fun x H1 ⟨ρ1, s1, a, F1, r1, q1⟩ => ?_⟩
  by_cases hk : ok s1 a = true
  · rw [if_pos hk] at q1
    refine ⟨hok ρ1 s1 H1 a x F1.sim r1 hk, ρ1, s1, env, F1.sim, E.later F1.lat, (Out.bnd q1).imp fun xs H2 ⟨ρ2, s2, ms, F2, r2, q2⟩ => ?_⟩
    exact ⟨W, σ, ρ2, s2, a, ms, F2.sim, r1.later F2.lat, r2, q2⟩
  · rw [if_neg hk] at q1; exact q1.elim
theorem v_mb (pa : PlainAttrs Ty) (slot : Slot Ty name id) (hty : typeOf (.builtin id) = pure (.type "method_descriptor")) (hm : MtR X id (rMB T f)) (hok : ∀ (ρ : List Addr) (st : Sto) (H : Hp) (a : MV) (x : V), Sim T ρ st H → RV T ρ H a x → ok st a = true → L2.tyV X.K Ty x H)
    (ho : PE X o (tE T W ma)) (ha : PA X (e :: es) (tA T W as)) (hbase : attributeBase o name X.env (eval o X.env) = eval o X.env := by rfl)
    (hfew : ((backTo cpos (starEach (e :: es) X.env)).all (fun x => !x.1) && (backToKw cpos (keywordEach [] X.env)).all (fun x => x.1.isSome)
      && decide ((e :: es).length + ([] : List Keyword).length + (if ([] : List Keyword).isEmpty then 0 else 1) < 30)) = true := by rfl)
    (hline : (apos.endLine == cpos.line) = true := by rfl) (hs : starEach (e :: es) X.env = (false, eval e X.env) :: starEach es X.env := by rfl) (hplain : (backTo cpos (starEach es X.env)).any (·.1) = false := by rfl) :
    PE X (.Call (.Attribute o name apos) (e :: es) [] cpos) (tE T W (mMB ok f ma as)) := pe_mono (pe_bm pa slot hty hm ho ha hbase hfew hline hs hplain) fun σ H Q h => mb_red hok h
theorem v_mb0 (pa : PlainAttrs Ty) (slot : Slot Ty name id) (hty : typeOf (.builtin id) = pure (.type "method_descriptor")) (hm : MtR X id (rMB T f)) (hok : ∀ (ρ : List Addr) (st : Sto) (H : Hp) (a : MV) (x : V), Sim T ρ st H → RV T ρ H a x → ok st a = true → L2.tyV X.K Ty x H)
    (ho : PE X o (tE T W ma)) (hbase : attributeBase o name X.env (eval o X.env) = eval o X.env := by rfl) (hline : (apos.endLine == cpos.line) = true := by rfl) :
    PE X (.Call (.Attribute o name apos) [] [] cpos) (tE T W (mMB ok f ma mNil)) := pe_mono (pe_bm0 pa slot hty hm ho hbase hline) fun σ H Q h => by
  obtain ⟨ρ, st, env, S, E, h⟩ := mb_red hok h
  refine ⟨ρ, st, env, S, E, h.imp fun x H1 ⟨ty, ρ1, s1, env1, S1, E1, q1⟩ => ⟨ty, ?_⟩⟩
  exact q1 ρ1 H1 [] (Fut.refl S1) rfl
/-! lists -/
def isLs (s : Sto) (x : MV) : Bool := (listOf s x).isSome
theorem ls_ty (ρ : List Addr) (st : Sto) (H : Hp) (a : MV) (x : V) (S : Sim T ρ st H) (r : RV T ρ H a x) (h : isLs st a = true) : L2.tyV X.K "list" x H := by
  unfold isLs at h
  cases e : listOf st a with
  | none => rw [e] at h; cases h
  | some xs =>
    obtain ⟨p, ys, rfl, z, _⟩ := list_of S r e
    exact .inl ⟨rfl, ys, SqL.of z⟩
/-- the cell at x, changed -/
def onLs (x : MV) (g : List MV → Option (MV × List MV)) : M MV := fun s => match x with
  | .ref n => match s[n]? with
    | some (.lst xs) => match g xs with
      | some (v, ys) => .ok v (s.set n (.lst ys))
      | none => .bad
    | _ => .bad
  | _ => .bad
theorem onLs_out {x : MV} {g : List MV → Option (MV × List MV)} {ρ : List Addr} {st : Sto} {H : Hp} {σ : St} {Q : VK} {y : V} (S : Sim T ρ st H) (r : RV T ρ H x y) (h : Out T W (RV T) ρ H σ (onLs x g st) Q) :
    ∃ a xs zs v ys, y = .ref a ∧ H a = some (.lst zs) ∧ RVs T ρ H xs zs ∧ g xs = some (v, ys) ∧ ∀ u ws, RV T ρ H v u → RVs T ρ H ys ws → Q u (upd H a (.lst ws)) := by
  unfold onLs at h
  cases x with
  | ref n =>
    simp only at h
    cases e : st[n]? with
    | none => rw [e] at h; exact h.elim
    | some c =>
      rw [e] at h
      cases c with
      | lst xs =>
        simp only at h
        cases eg : g xs with
        | none => rw [eg] at h; exact h.elim
        | some p =>
          obtain ⟨v, ys⟩ := p
          rw [eg] at h
          obtain ⟨a, ea, rfl⟩ := r
          obtain ⟨zs, ez, rz⟩ := S.cell n a _ ea e
          refine ⟨a, xs, zs, v, ys, rfl, ez, rz, eg, fun u ws ru rw => ?_⟩
          have F := S.set (c := .lst ys) (o := .lst ws) ea fun ρ' H' L => ⟨ws, rfl, rw.later L⟩
          exact h _ _ u F (ru.later F.lat)
      | _ => exact h.elim
  | _ => exact h.elim
def fAppend (x : MV) (as : List MV) : M MV := match as with
  | [y] => onLs x fun xs => if xs.length < line then some (.non, xs ++ [y]) else none
  | _ => fun _ => .bad
theorem ok_append : MtR X "list.append" (rMB T fAppend) := by
  intro pins s σ H x vs v us Q I rx rv ⟨W, σ', ρ, st, a, ms, S, ra, rm, h⟩
  unfold fAppend at h
  split at h
  · rename_i y
    obtain ⟨p, xs, zs, v0, ys, rfl, hz, rz, eg, q⟩ := onLs_out S ra h
    obtain ⟨w, rfl, ry⟩ := rvs1 rm
    split at eg
    · rename_i hl
      cases eg
      exact mt_append pins s σ H _ _ v us Q I rx rv ⟨p, zs, w, rfl, rfl, hz, by rw [← rz.length]; exact line_lt hl, q .non _ rfl (rz.append (RVs.one ry))⟩
    · cases eg
  · exact h.elim
def fExtend (x : MV) (as : List MV) : M MV := match as with
  | [y] => fun s => match listOf s y with
    | some zs => onLs x (fun xs => if xs.length + zs.length ≤ line then some (.non, xs ++ zs) else none) s
    | none => .bad
  | _ => fun _ => .bad
theorem ok_extend : MtR X "list.extend" (rMB T fExtend) := by
  intro pins s σ H x vs v us Q I rx rv ⟨W, σ', ρ, st, a, ms, S, ra, rm, h⟩
  unfold fExtend at h
  split at h
  · rename_i y
    cases e : listOf st y with
    | none => simp only [e] at h; exact h.elim
    | some zs' =>
      simp only [e] at h
      obtain ⟨p, xs, zs, v0, ys, rfl, hz, rz, eg, q⟩ := onLs_out S ra h
      obtain ⟨w, rfl, ry⟩ := rvs1 rm
      obtain ⟨b, us', rfl, hb, rb⟩ := list_of S ry e
      split at eg
      · rename_i hl
        cases eg
        exact mt_extend pins s σ H _ _ v us Q I rx rv ⟨p, b, zs, us', rfl, rfl, hz, hb, by rw [← rz.length, ← rb.length]; exact line_le hl, q .non _ rfl (rz.append rb)⟩
      · cases eg
  · exact h.elim
def fPop (x : MV) (as : List MV) : M MV := match as with
  | [] => onLs x fun xs => match xs[xs.length - 1]? with
    | some y => some (y, xs.dropLast)
    | none => none
  | _ => fun _ => .bad
theorem RVs.dropLast {ρ : List Addr} {H : Hp} {ms : List MV} {vs : List V} (r : RVs T ρ H ms vs) : RVs T ρ H ms.dropLast vs.dropLast := by
  rw [List.dropLast_eq_take, List.dropLast_eq_take, r.length]
  exact r.take _
theorem ok_pop : MtR X "list.pop" (rMB T fPop) := by
  intro pins s σ H x vs v us Q I rx rv ⟨W, σ', ρ, st, a, ms, S, ra, rm, h⟩
  unfold fPop at h
  split at h
  · obtain ⟨p, xs, zs, v0, ys, rfl, hz, rz, eg, q⟩ := onLs_out S ra h
    cases rm
    split at eg
    · rename_i y hy
      cases eg
      obtain ⟨w, hw, rw⟩ := rz.get hy
      rw [rz.length] at hw
      exact mt_pop pins s σ H _ _ v us Q I rx rv ⟨p, zs, w, rfl, rfl, hz, hw, q w _ rw rz.dropLast⟩
    · cases eg
  · exact h.elim
def fPopAt (x : MV) (as : List MV) : M MV := match as with
  | [.int i] => onLs x fun xs => match ixN xs.length i with
    | some k => match xs[k]? with
      | some y => if small i = true then some (y, xs.eraseIdx k) else none
      | none => none
    | none => none
  | _ => fun _ => .bad
theorem ok_popAt : MtR X "list.pop" (rMB T fPopAt) := by
  intro pins s σ H x vs v us Q I rx rv ⟨W, σ', ρ, st, a, ms, S, ra, rm, h⟩
  unfold fPopAt at h
  split at h
  · rename_i i
    obtain ⟨p, xs, zs, v0, ys, rfl, hz, rz, eg, q⟩ := onLs_out S ra h
    obtain ⟨w, rfl, ry⟩ := rvs1 rm
    cases ry
    cases ek : ixN xs.length i with
    | none => rw [ek] at eg; cases eg
    | some k =>
      rw [ek] at eg
      simp only at eg
      cases ey : xs[k]? with
      | none => rw [ey] at eg; cases eg
      | some y =>
        rw [ey] at eg
        simp only at eg
        by_cases hs : small i = true
        · rw [if_pos hs] at eg; cases eg
          obtain ⟨w, hw, rw⟩ := rz.get ey
          have sm := small_of hs
          have ek' : ixN zs.length i = some k := by rw [← rz.length]; exact ek
          exact mt_popAt pins s σ H _ _ v us Q I rx rv ⟨p, zs, i, k, w, rfl, rfl, hz, by omega, by omega, (ixN_seq ek').1, hw, q w _ rw (rz.erase k)⟩
        · rw [if_neg hs] at eg; cases eg
  · exact h.elim
def fInsert (x : MV) (as : List MV) : M MV := match as with
  | [.int i, y] => onLs x fun xs => if xs.length < line ∧ 0 ≤ i ∧ i < 1000000000 then some (.non, xs.take i.toNat ++ [y] ++ xs.drop i.toNat) else none
  | _ => fun _ => .bad
theorem ok_insert : MtR X "list.insert" (rMB T fInsert) := by
  intro pins s σ H x vs v us Q I rx rv ⟨W, σ', ρ, st, a, ms, S, ra, rm, h⟩
  unfold fInsert at h
  split at h
  · rename_i i y
    obtain ⟨p, xs, zs, v0, ys, rfl, hz, rz, eg, q⟩ := onLs_out S ra h
    obtain ⟨w, w', rfl, ri, ry⟩ := rvs2 rm
    cases ri
    split at eg
    · rename_i hl
      cases eg
      exact mt_insert pins s σ H _ _ v us Q I rx rv ⟨p, zs, i, w', rfl, rfl, hz, by rw [← rz.length]; exact line_lt hl.1, hl.2.1, by omega, q .non _ rfl (((rz.take _).append (RVs.one ry)).append (rz.drop _))⟩
    · cases eg
  · exact h.elim
/-- the first place of an equal item: flat items alone -/
def findM (y : MV) : List MV → Option Nat
  | [] => none
  | x :: xs => if flatEq x y then some 0 else (findM y xs).map (· + 1)
theorem findM_spec {y : MV} : ∀ {xs : List MV} {j : Nat}, findM y xs = some j → (∃ z, xs[j]? = some z ∧ flatEq z y = true) ∧ ∀ m z', m < j → xs[m]? = some z' → flatEq z' y = false
  | [], j, h => by cases h
  | x :: xs, j, h => by
    unfold findM at h
    by_cases e : flatEq x y = true
    · rw [if_pos e] at h; cases h
      exact ⟨⟨x, rfl, e⟩, fun m z' hm => absurd hm (by omega)⟩
    · rw [if_neg e] at h
      cases q : findM y xs with
      | none => rw [q] at h; cases h
      | some k =>
        rw [q] at h; cases h
        obtain ⟨⟨z, h1, h2⟩, h3⟩ := findM_spec q
        refine ⟨⟨z, by simpa using h1, h2⟩, fun m z' hm hz => ?_⟩
        cases m with
        | zero => simp at hz; subst hz; simpa using e
        | succ m =>
          have hm' : m + 1 < k + 1 := hm
          exact h3 m z' (by omega) (by simpa using hz)
def fIndex (x : MV) (as : List MV) : M MV := match as with
  | [y] => fun s => match listOf s x with
    | some xs => if flatM y && xs.all flatM then match findM y xs with
        | some j => .ok (.int (j : Nat)) s
        | none => .bad
      else .bad
    | none => .bad
  | _ => fun _ => .bad
theorem ok_index : MtR X "list.index" (rMB T fIndex) := by
  intro pins s σ H x vs v us Q I rx rv ⟨W, σ', ρ, st, a, ms, S, ra, rm, h⟩
  unfold fIndex at h
  split at h
  · rename_i y
    cases e : listOf st a with
    | none => simp only [e] at h; exact h.elim
    | some xs =>
      simp only [e] at h
      obtain ⟨w, rfl, ry⟩ := rvs1 rm
      obtain ⟨p, zs, rfl, hz, rz⟩ := list_of S ra e
      by_cases hf : (flatM y && xs.all flatM) = true
      · rw [if_pos hf] at h
        obtain ⟨f1, f2⟩ := Bool.and_eq_true_iff.mp hf
        cases ej : findM y xs with
        | none => rw [ej] at h; exact h.elim
        | some j =>
          rw [ej] at h
          obtain ⟨⟨z, h1, h2⟩, h3⟩ := findM_spec ej
          obtain ⟨u, hu, ru⟩ := rz.get h1
          have fz : ∀ {m : Nat} {z : MV}, xs[m]? = some z → flatM z = true := fun e => List.all_eq_true.mp f2 _ (List.mem_of_getElem? e)
          refine mt_index pins s σ H _ _ v us Q I rx rv ⟨p, zs, w, j, u, rfl, rfl, SqL.of hz, flat_of ry f1, flat_all rz f2, hu, ?_, fun m z' hm hz' => ?_, h ρ H _ (Fut.refl S) rfl⟩
          · rw [flat_eq ru ry (fz h1) f1]; exact h2
          · obtain ⟨m', e1, e2⟩ := rz.getV hz'
            rw [flat_eq e2 ry (fz e1) f1]; exact h3 m m' hm e1
      · rw [if_neg hf] at h; exact h.elim
  · exact h.elim
/-! texts -/
def isSt (_ : Sto) (x : MV) : Bool := match x with
  | .str _ => true
  | _ => false
theorem st_ty (ρ : List Addr) (st : Sto) (H : Hp) (a : MV) (x : V) (S : Sim T ρ st H) (r : RV T ρ H a x) (h : isSt st a = true) : L2.tyV X.K "str" x H := by
  cases a with
  | str z => cases r; rfl
  | _ => cases h
def strsOf : List MV → Option (List Str)
  | [] => some []
  | .str z :: xs => (strsOf xs).map (z :: ·)
  | _ :: _ => none
theorem strs_rel {ρ : List Addr} {H : Hp} : ∀ {ms : List MV} {ys : List Str} {vs : List V}, strsOf ms = some ys → RVs T ρ H ms vs → vs = ys.map V.str
  | [], ys, vs, h, r => by cases h; cases r; rfl
  | m :: ms, ys, vs, h, r => by
    cases m with
    | str z =>
      unfold strsOf at h
      cases e : strsOf ms with
      | none => rw [e] at h; cases h
      | some zs =>
        rw [e] at h; cases h
        obtain ⟨v, us, rfl, r1, r2⟩ := r
        cases r1
        rw [strs_rel e r2]; rfl
    | _ => cases h
def fJoin (x : MV) (as : List MV) : M MV := match x, as with
  | .str a, [y] => fun s => match seqOf s y with
    | some xs => match strsOf xs with
      | some ys => if (ys.map (·.length)).sum + ys.length * a.length ≤ 16000000 then .ok (.str (Txt.join a ys)) s else .bad
      | none => .bad
    | none => .bad
  | _, _ => fun _ => .bad
theorem ok_join (hK : T.K = X.K) : MtR X "str.join" (rMB T fJoin) := by
  intro pins s σ H x vs v us Q I rx rv ⟨W, σ', ρ, st, a, ms, S, ra, rm, h⟩
  unfold fJoin at h
  split at h
  · rename_i z y
    cases e : seqOf st y with
    | none => simp only [e] at h; exact h.elim
    | some xs =>
      simp only [e] at h
      cases e2 : strsOf xs with
      | none => rw [e2] at h; exact h.elim
      | some ys =>
        rw [e2] at h
        simp only at h
        split at h
        · rename_i hl
          obtain ⟨w, rfl, ry⟩ := rvs1 rm
          obtain ⟨p, zs, rfl, hq, rz⟩ := seq_of S ry e
          have ez := strs_rel e2 rz
          subst ez
          cases ra
          exact mt_join pins s σ H _ _ v us Q I rx rv ⟨z, p, ys, rfl, rfl, hK ▸ hq, by omega, h ρ H _ (Fut.refl S) rfl⟩
        · exact h.elim
  · exact h.elim
def fWords (fr : Bool) (x : MV) (as : List MV) : M MV := match x, as with
  | .str a, [] => if a.length + 2 ≤ line then mkList fr ((Txt.words a).map .str) else fun _ => .bad
  | _, _ => fun _ => .bad
theorem strs_rvs {ρ : List Addr} {H : Hp} : ∀ ys : List Str, RVs T ρ H (ys.map .str) (ys.map V.str)
  | [] => rfl
  | y :: ys => ⟨_, _, rfl, rfl, strs_rvs ys⟩
theorem ok_words (fr : Bool) : MtR X "str.split" (rMB T (fWords fr)) := by
  intro pins s σ H x vs v us Q I rx rv ⟨W, σ', ρ, st, a, ms, S, ra, rm, h⟩
  unfold fWords at h
  split at h
  · rename_i z
    split at h
    · rename_i hl
      cases ra; cases rm
      exact mt_words pins s σ H _ _ v us Q I rx rv ⟨z, rfl, rfl, Nat.le_trans hl (by decide), mk_out S h (strs_rvs _)⟩
    · exact h.elim
  · exact h.elim
end
end Z

namespace Z
open PySem PySem.Spec PyProof.Rows L2
/-! ### constants of the module -/
def cGint (x : Str) (i : Int) : Fc := fun K => match PySem.W.nsIn K mainGlobals x with
  | some (some (.int j _)) => decide (j = i)
  | _ => false
def cGstr (x : Str) (y : Str) : Fc := fun K => match PySem.W.nsIn K mainGlobals x with
  | some (some (.str z _)) => decide (z = y)
  | _ => false
section
variable {fs : List Fc} {fn : List He.DefD} {K : PySem.W.Frag} {mg : Str → Option Value} {x : Str}
theorem TxtZ.gint (T : TxtZ fs fn K mg) {i : Int} (k : Nat) (h : fs[k]? = some (cGint x i) := by rfl) : ∃ t, mg x = some (.int i t) := by
  have c := T.c.fc k h
  unfold cGint at c
  split at c
  · rename_i j t e
    have := of_decide_eq_true c
    subst this
    exact ⟨t, T.g _ _ e⟩
  · cases c
theorem TxtZ.gstr (T : TxtZ fs fn K mg) {y : Str} (k : Nat) (h : fs[k]? = some (cGstr x y) := by rfl) : ∃ t, mg x = some (.str y t) := by
  have c := T.c.fc k h
  unfold cGstr at c
  split at c
  · rename_i j t e
    have := of_decide_eq_true c
    subst this
    exact ⟨t, T.g _ _ e⟩
  · cases c
end
section
variable {X : Cx} {T : Tx} {W : WX} {x : Str} {pos : Pos}
theorem v_gint {i : Int} (h : ∃ t, X.mg x = some (.int i t)) (hg : Gl X x := by rfl) (hd : (x == ("__debug__" : Str)) = false := by decide) : PE X (.Name x pos) (tE T W (mC (.int i))) := by
  obtain ⟨t, h⟩ := h
  exact v_c (w := .int i) (pe_glob hg h ⟨t, rfl⟩ hd) fun _ _ => rfl
theorem v_gstr {y : Str} (h : ∃ t, X.mg x = some (.str y t)) (hg : Gl X x := by rfl) (hd : (x == ("__debug__" : Str)) = false := by decide) : PE X (.Name x pos) (tE T W (mC (.str y))) := by
  obtain ⟨t, h⟩ := h
  exact v_c (w := .str y) (pe_glob hg h ⟨t, rfl⟩ hd) fun _ _ => rfl
end
/-- a tuple of texts and ints that stands in the module -/
inductive Gc where
  | int (i : Int) | str (x : Str) | non
def Gc.v : Gc → V
  | .int i => .int i
  | .str x => .str x
  | .non => .non
def Gc.m : Gc → MV
  | .int i => .int i
  | .str x => .str x
  | .non => .non
def cGtup (x : Str) (cs : List Gc) : Fc := fun K => match K.lookup (He.ga K x) with
  | some ⟨.type c, _, .seq its _, _⟩ => isV (PySem.W.nsIn K mainGlobals x) (.ref (He.ga K x)) && decide (c = "tuple") && decide (its.size ≤ 1000) && He.relAll (cs.map Gc.v) its.toList
  | _ => false
section
variable {fs : List Fc} {fn : List He.DefD} {K : PySem.W.Frag} {mg : Str → Option Value} {x : Str}
theorem gc_rvs {T : Tx} {ρ : List Addr} {H : Hp} : ∀ cs : List Gc, RVs T ρ H (cs.map Gc.m) (cs.map Gc.v)
  | [] => rfl
  | c :: cs => ⟨_, _, rfl, by cases c <;> rfl, gc_rvs cs⟩
theorem TxtZ.gtup (T : TxtZ fs fn K mg) {cs : List Gc} (k : Nat) (h : fs[k]? = some (cGtup x cs) := by rfl) : mg x = some (.ref (He.ga K x)) ∧ ∀ (T' : Tx) (ρ : List Addr) (H : Hp), T'.K = K → RV T' ρ H (.tup (cs.map Gc.m)) (.ref (He.ga K x)) := by
  have c := T.c.fc k h
  unfold cGtup at c
  split at c
  · rename_i cl dd its n sl e
    obtain ⟨c, h4⟩ := and2 c
    obtain ⟨c, h3⟩ := and2 c
    obtain ⟨h1, h2⟩ := and2 c
    have hc := of_decide_eq_true h2
    subst hc
    refine ⟨T.g _ _ (isV_ok h1), fun T' ρ H hK => ⟨_, _, rfl, .inr ⟨⟨.type "tuple", dd, .seq its n, sl⟩, its, n, ?_, rfl, rfl, Nat.le_trans (of_decide_eq_true h3) (by decide), He.relAll_ok h4⟩, gc_rvs cs⟩⟩
    rw [hK]; exact e
  · cases c
end
section
variable {X : Cx} {T : Tx} {W : WX} {x : Str} {pos : Pos}
theorem v_gtup {cs : List Gc} {a : Addr} (h : X.mg x = some (.ref a) ∧ ∀ (T' : Tx) (ρ : List Addr) (H : Hp), T'.K = X.K → RV T' ρ H (.tup (cs.map Gc.m)) (.ref a)) (hK : T.K = X.K) (hg : Gl X x := by rfl) (hd : (x == ("__debug__" : Str)) = false := by decide) : PE X (.Name x pos) (tE T W (mC (.tup (cs.map Gc.m)))) :=
  v_c (w := .ref a) (pe_glob hg h.1 rfl hd) fun ρ H => h.2 T ρ H hK
end
/-! ### all, any, sum of a list -/
def blsOf : List MV → Option (List Bool)
  | [] => some []
  | .bl b :: xs => (blsOf xs).map (b :: ·)
  | _ :: _ => none
def intsOf : List MV → Option (List Int)
  | [] => some []
  | .int b :: xs => (intsOf xs).map (b :: ·)
  | _ :: _ => none
section
variable {X : Cx} {T : Tx}
theorem bls_rel {ρ : List Addr} {H : Hp} : ∀ {ms : List MV} {ys : List Bool} {vs : List V}, blsOf ms = some ys → RVs T ρ H ms vs → vs = ys.map V.bl
  | [], ys, vs, h, r => by cases h; cases r; rfl
  | m :: ms, ys, vs, h, r => by
    cases m with
    | bl z =>
      unfold blsOf at h
      cases e : blsOf ms with
      | none => rw [e] at h; cases h
      | some zs =>
        rw [e] at h; cases h
        obtain ⟨v, us, rfl, r1, r2⟩ := r
        cases r1
        rw [bls_rel e r2]; rfl
    | _ => cases h
theorem ints_rel {ρ : List Addr} {H : Hp} : ∀ {ms : List MV} {ys : List Int} {vs : List V}, intsOf ms = some ys → RVs T ρ H ms vs → vs = ys.map V.int
  | [], ys, vs, h, r => by cases h; cases r; rfl
  | m :: ms, ys, vs, h, r => by
    cases m with
    | int z =>
      unfold intsOf at h
      cases e : intsOf ms with
      | none => rw [e] at h; cases h
      | some zs =>
        rw [e] at h; cases h
        obtain ⟨v, us, rfl, r1, r2⟩ := r
        cases r1
        rw [ints_rel e r2]; rfl
    | _ => cases h
def fAll (s : Sto) : List MV → Option MV
  | [x] => (listOf s x).bind fun xs => (blsOf xs).map fun bs => .bl (bs.all id)
  | _ => none
def fAny (s : Sto) : List MV → Option MV
  | [x] => (listOf s x).bind fun xs => (blsOf xs).map fun bs => .bl (bs.any id)
  | _ => none
def fSum (s : Sto) : List MV → Option MV
  | [x] => (listOf s x).bind fun xs => (intsOf xs).map fun bs => .int bs.sum
  | _ => none
theorem ok_all (hc : X.calm = true) : CallR X (.builtin "all") (rF T fAll) := by
  intro pins s σ H xs us Q I r ⟨ρ, st, ms, v, S, rm, e, q⟩
  unfold fAll at e
  split at e
  · obtain ⟨w, rfl, r1⟩ := rvs1 rm
    obtain ⟨xs, e1, e⟩ := Option.bind_eq_some_iff.mp e
    obtain ⟨bs, e2, e⟩ := Option.map_eq_some_iff.mp e
    subst e
    obtain ⟨p, zs, rfl, hz, rz⟩ := list_of S r1 e1
    have ez := bls_rel e2 rz
    subst ez
    exact cr_all hc pins s σ H _ us Q I r ⟨p, bs, rfl, SqL.of hz, q H _ (Fut.refl S) rfl⟩
  · cases e
theorem ok_any (hc : X.calm = true) : CallR X (.builtin "any") (rF T fAny) := by
  intro pins s σ H xs us Q I r ⟨ρ, st, ms, v, S, rm, e, q⟩
  unfold fAny at e
  split at e
  · obtain ⟨w, rfl, r1⟩ := rvs1 rm
    obtain ⟨xs, e1, e⟩ := Option.bind_eq_some_iff.mp e
    obtain ⟨bs, e2, e⟩ := Option.map_eq_some_iff.mp e
    subst e
    obtain ⟨p, zs, rfl, hz, rz⟩ := list_of S r1 e1
    have ez := bls_rel e2 rz
    subst ez
    exact cr_any hc pins s σ H _ us Q I r ⟨p, bs, rfl, SqL.of hz, q H _ (Fut.refl S) rfl⟩
  · cases e
theorem ok_sum (hc : X.calm = true) : CallR X (.builtin "sum") (rF T fSum) := by
  intro pins s σ H xs us Q I r ⟨ρ, st, ms, v, S, rm, e, q⟩
  unfold fSum at e
  split at e
  · obtain ⟨w, rfl, r1⟩ := rvs1 rm
    obtain ⟨xs, e1, e⟩ := Option.bind_eq_some_iff.mp e
    obtain ⟨bs, e2, e⟩ := Option.map_eq_some_iff.mp e
    subst e
    obtain ⟨p, zs, rfl, hz, rz⟩ := list_of S r1 e1
    have ez := ints_rel e2 rz
    subst ez
    exact cr_sum hc pins s σ H _ us Q I r ⟨p, bs, rfl, SqL.of hz, q H _ (Fut.refl S) rfl⟩
  · cases e
end
/-! ### a op b op' c op'' d -/
def mChain3 (f g h : Sto → MV → MV → Option Bool) (ma mb mc md : Ev → M MV) : Ev → M Bool := fun env => M.bnd (ma env) fun x => M.bnd (mb env) fun y => M.bnd (fun s => M.opt (f s x y) s) fun k =>
  if k = true then M.bnd (mc env) fun z => M.bnd (fun s => M.opt (g s y z) s) fun k2 => if k2 = true then M.bnd (md env) fun w s => M.opt (h s z w) s else M.ret false
  else M.ret false
section
variable {X : Cx} {T : Tx} {W : WX} {ma mb mc md : Ev → M MV} {a b c d : Expr} {pos : Pos} {f g h : Sto → MV → MV → Option Bool}
/-- what such a chain is asked -/
def tChain3 (r r' r'' : R2) (ta tb tc td : TE) : TE := fun σ H Q => ta σ H fun x H1 => tb σ H1 fun y H2 => r x y H2 fun z H3 => ∃ k, z = .bl k ∧
  (if k = true then tc σ H3 fun w H4 => r' y w H4 fun z2 H5 => ∃ k2, z2 = .bl k2 ∧ (if k2 = true then td σ H5 fun u H6 => r'' w u H6 Q else Q (.bl false) H5) else Q (.bl false) H3)
theorem v_chain3 {op op' op'' : CmpOp} (ho : OpR X (compareOp op) (rP T f)) (ho' : OpR X (compareOp op') (rP T g)) (ho2 : OpR X (compareOp op'') (rP T h)) (ha : PE X a (tE T W ma)) (hb : PE X b (tE T W mb)) (hc : PE X c (tE T W mc)) (hd : PE X d (tE T W md))
    (hm : lastMarks [op, op', op''] [b, c, d] = false := by with_unfolding_all rfl) : PE X (.Compare a [op, op', op''] [b, c, d] pos) (tE T W (mV (mChain3 f g h ma mb mc md))) := by
  refine ⟨fun pins s σ H Q I hh => ?_⟩
  obtain ⟨ρ, st, env, S, E, hh⟩ := hh
  have h0 := (Out.bnd (rel := relB) hh)
  have hA : tE T W ma σ H (fun x H1 => ∃ ρ1 s1 xm, Fut T ρ H ρ1 s1 H1 ∧ RV T ρ1 H1 xm x ∧ Out T W relB ρ1 H1 σ (M.bnd (mb env) (fun y => M.bnd (fun s => M.opt (f s xm y) s) fun k => if k = true then M.bnd (mc env) fun z => M.bnd (fun s => M.opt (g s y z) s) fun k2 => if k2 = true then M.bnd (md env) fun w s => M.opt (h s z w) s else M.ret false else M.ret false) s1) (fun bb H2 => ∃ ρ2 s2 kb, Fut T ρ H ρ2 s2 H2 ∧ relB ρ2 H2 kb bb ∧ Out T W (RV T) ρ2 H2 σ (M.ret (.bl kb) s2) Q)) :=
    ⟨ρ, st, env, S, E, Out.bnd h0⟩
  refine Compare_chain (thn (ha.run pins s σ H _ I hA) fun v s1 ⟨x, H1, I1, r1, ρ1, st1, xm, F1, rx, q1⟩ => chain_link (thn (hb.run pins s1 σ H1 _ I1 ⟨ρ1, st1, env, F1.sim, E.later F1.lat, Out.bnd q1⟩) fun u s2 ⟨y, H2, I2, r2, ρ2, st2, ym, F2, ry, q2⟩ => ?_)) hm
  obtain ⟨k, ek, q3⟩ := opt_out (Out.bnd (rel := relB) q2)
  refine thn (ho pins s2 σ H2 x y v u (fun z H3 => z = .bl k ∧ H3 = H2) I2 r1 r2 ⟨ρ2, st2, xm, ym, k, F2.sim, rx.later F2.lat, ry, ek, rfl, rfl⟩) fun dd s3 ⟨z, H3, I3, r3, e3, e4⟩ => ?_
  subst e3 e4
  cases r3
  refine wpAny_truthy_bool ?_
  obtain ⟨ρ3, st3, k', F3, e5, q4⟩ := q3 ρ2 H3 k (Fut.refl F2.sim) rfl
  subst e5
  have fin : ∀ {kb : Bool} {ρ' : List Addr} {st' : Sto} {H' : Hp}, Sim T ρ' st' H' → Out T W relB ρ' H' σ (.ok kb st') (fun bb H2 => ∃ ρ2 s2 kb, Fut T ρ H ρ2 s2 H2 ∧ relB ρ2 H2 kb bb ∧ Out T W (RV T) ρ2 H2 σ (M.ret (.bl kb) s2) Q) → Q (.bl kb) H' := fun {kb ρ' st' H'} S' o => by
    obtain ⟨ρ9, s9, kb', F9, e9, q9⟩ := o ρ' H' kb (Fut.refl S') rfl
    subst e9
    exact q9 ρ9 H' _ (Fut.refl F9.sim) rfl
  cases k' with
  | false =>
    rw [if_neg (by decide)] at q4
    exact ite_ff ⟨.bl false, H3, I3, rfl, fin F3.sim q4⟩
  | true =>
    rw [if_pos rfl] at q4
    refine ite_tt (chain_link (thn (hc.run pins s3 σ H3 _ I3 ⟨ρ3, st3, env, F3.sim, E.later (F1.trans (F2.trans F3)).lat, Out.bnd q4⟩) fun w s4 ⟨z, H4, I4, r4, ρ4, st4, zm, F4, rz, q5⟩ => ?_))
    obtain ⟨k2, ek2, q6⟩ := opt_out (Out.bnd (rel := relB) q5)
    refine thn (ho' pins s4 σ H4 y z u w (fun z' H5 => z' = .bl k2 ∧ H5 = H4) I4 r2 r4 ⟨ρ4, st4, ym, zm, k2, F4.sim, ry.later (F3.trans F4).lat, rz, ek2, rfl, rfl⟩) fun dd2 s5 ⟨z', H5, I5, r5, e6, e7⟩ => ?_
    subst e6 e7
    cases r5
    refine wpAny_truthy_bool ?_
    obtain ⟨ρ5, st5, k3, F5, e8, q7⟩ := q6 ρ4 H5 k2 (Fut.refl F4.sim) rfl
    subst e8
    cases k3 with
    | false =>
      rw [if_neg (by decide)] at q7
      exact ite_ff ⟨.bl false, H5, I5, rfl, fin F5.sim q7⟩
    | true =>
      rw [if_pos rfl] at q7
      refine ite_tt (chain_last (thn (hd.run pins s5 σ H5 _ I5 ⟨ρ5, st5, env, F5.sim, E.later (F1.trans (F2.trans (F3.trans (F4.trans F5)))).lat, Out.bnd q7⟩) fun w2 s6 ⟨z2, H6, I6, r6, ρ6, st6, wm, F6, rw6, q8⟩ => ?_))
      obtain ⟨k4, ek4, q9⟩ := opt_out q8
      refine ho2 pins s6 σ H6 z z2 w w2 Q I6 r4 r6 ⟨ρ6, st6, zm, wm, k4, F6.sim, rz.later (F5.trans F6).lat, rw6, ek4, ?_⟩
      obtain ⟨ρ7, s7, kb', F7, e10, q10⟩ := q9 ρ6 H6 k4 (Fut.refl F6.sim) rfl
      subst e10
      exact q10 ρ7 H6 _ (Fut.refl F7.sim) rfl
theorem t_chain3 {op op' op'' : CmpOp} (ho : OpR X (compareOp op) (rP T f)) (ho' : OpR X (compareOp op') (rP T g)) (ho2 : OpR X (compareOp op'') (rP T h)) (ha : PE X a (tE T W ma)) (hb : PE X b (tE T W mb)) (hc : PE X c (tE T W mc)) (hd : PE X d (tE T W md))
    (hm : lastMarks [op, op', op''] [b, c, d] = false := by with_unfolding_all rfl) : PT X (.Compare a [op, op', op''] [b, c, d] pos) (tT T W (mChain3 f g h ma mb mc md)) := by
  refine ⟨fun pins s σ H Q I hh => ?_⟩
  obtain ⟨ρ, st, env, S, E, hh⟩ := hh
  have hA : tE T W ma σ H (fun x H1 => ∃ ρ1 s1 xm, Fut T ρ H ρ1 s1 H1 ∧ RV T ρ1 H1 xm x ∧ Out T W relB ρ1 H1 σ (M.bnd (mb env) (fun y => M.bnd (fun s => M.opt (f s xm y) s) fun k => if k = true then M.bnd (mc env) fun z => M.bnd (fun s => M.opt (g s y z) s) fun k2 => if k2 = true then M.bnd (md env) fun w s => M.opt (h s z w) s else M.ret false else M.ret false) s1) Q) :=
    ⟨ρ, st, env, S, E, Out.bnd hh⟩
  refine isTrue_chain (thn (ha.run pins s σ H _ I hA) fun v s1 ⟨x, H1, I1, r1, ρ1, st1, xm, F1, rx, q1⟩ => test_link (thn (hb.run pins s1 σ H1 _ I1 ⟨ρ1, st1, env, F1.sim, E.later F1.lat, Out.bnd q1⟩) fun u s2 ⟨y, H2, I2, r2, ρ2, st2, ym, F2, ry, q2⟩ => ?_)) hm
  obtain ⟨k, ek, q3⟩ := opt_out (Out.bnd (rel := relB) q2)
  refine thn (ho pins s2 σ H2 x y v u (fun z H3 => z = .bl k ∧ H3 = H2) I2 r1 r2 ⟨ρ2, st2, xm, ym, k, F2.sim, rx.later F2.lat, ry, ek, rfl, rfl⟩) fun dd s3 ⟨z, H3, I3, r3, e3, e4⟩ => ?_
  subst e3 e4
  cases r3
  refine wpAny_truthy_bool ?_
  obtain ⟨ρ3, st3, k', F3, e5, q4⟩ := q3 ρ2 H3 k (Fut.refl F2.sim) rfl
  subst e5
  cases k' with
  | false =>
    rw [if_neg (by decide)] at q4
    exact ite_ff ⟨H3, I3, q4 ρ3 H3 false (Fut.refl F3.sim) rfl⟩
  | true =>
    rw [if_pos rfl] at q4
    refine ite_tt (test_link (thn (hc.run pins s3 σ H3 _ I3 ⟨ρ3, st3, env, F3.sim, E.later (F1.trans (F2.trans F3)).lat, Out.bnd q4⟩) fun w s4 ⟨z, H4, I4, r4, ρ4, st4, zm, F4, rz, q5⟩ => ?_))
    obtain ⟨k2, ek2, q6⟩ := opt_out (Out.bnd (rel := relB) q5)
    refine thn (ho' pins s4 σ H4 y z u w (fun z' H5 => z' = .bl k2 ∧ H5 = H4) I4 r2 r4 ⟨ρ4, st4, ym, zm, k2, F4.sim, ry.later (F3.trans F4).lat, rz, ek2, rfl, rfl⟩) fun dd2 s5 ⟨z', H5, I5, r5, e6, e7⟩ => ?_
    subst e6 e7
    cases r5
    refine wpAny_truthy_bool ?_
    obtain ⟨ρ5, st5, k3, F5, e8, q7⟩ := q6 ρ4 H5 k2 (Fut.refl F4.sim) rfl
    subst e8
    cases k3 with
    | false =>
      rw [if_neg (by decide)] at q7
      exact ite_ff ⟨H5, I5, q7 ρ5 H5 false (Fut.refl F5.sim) rfl⟩
    | true =>
      rw [if_pos rfl] at q7
      refine ite_tt (test_last (thn (hd.run pins s5 σ H5 _ I5 ⟨ρ5, st5, env, F5.sim, E.later (F1.trans (F2.trans (F3.trans (F4.trans F5)))).lat, Out.bnd q7⟩) fun w2 s6 ⟨z2, H6, I6, r6, ρ6, st6, wm, F6, rw6, q8⟩ => ?_))
      obtain ⟨k4, ek4, q9⟩ := opt_out q8
      refine thn (ho2 pins s6 σ H6 z z2 w w2 (fun z' H7 => z' = .bl k4 ∧ H7 = H6) I6 r4 r6 ⟨ρ6, st6, zm, wm, k4, F6.sim, rz.later (F5.trans F6).lat, rw6, ek4, rfl, rfl⟩) fun dd3 s7 ⟨z3, H7, I7, r7, e10, e11⟩ => ?_
      subst e10 e11
      cases r7
      exact wpAny_truthy_bool ⟨H7, I7, q9 ρ6 H7 k4 (Fut.refl F6.sim) rfl⟩
end
/-! ### the signs of a text, walked -/
def signs (x : Str) : List MV := x.cps.toList.map fun c => .str ⟨#[c]⟩
def miStr (ma : Ev → M MV) : MI := fun env => M.bnd (ma env) fun x => match x with
  | .str z => M.ret ⟨signs z, fun _ => True⟩
  | _ => fun _ => .bad
section
variable {X : Cx} {T : Tx} {W : WX} {ma : Ev → M MV} {e tg : Expr}
theorem wk_str {z : Str} {ok : Sto → Prop} {ρ0 : List Addr} {H0 : Hp} : WalkM T (Its z) (signs z) ok ρ0 H0 where
  goes := fun i ρ st H hi F ho => by
    unfold signs at hi; rw [List.length_map] at hi
    show i < z.cps.size
    simpa using hi
  stops := fun ρ st H F ho => by
    show z.cps.size ≤ (signs z).length
    unfold signs; simp
  yields := fun i ρ st H m x H' hm F ho y => by
    obtain ⟨rfl, c, e1, rfl⟩ := y
    unfold signs at hm
    rw [List.getElem?_map] at hm
    have e2 : z.cps.toList[i]? = some c := by simpa using e1
    rw [e2] at hm
    cases hm
    exact ⟨Fut.refl F.sim, rfl⟩
theorem i_str (he : PE X e (tE T W ma)) : PI X tg e (tI T W (miStr ma)) := pi_mono (pi_str he) fun σ H R ⟨ρ, st, env, S, E, h⟩ => by
  refine ⟨ρ, st, env, S, E, (OutI.bnd h).imp fun v H1 ⟨ρ1, s1, m, F1, r1, q1⟩ => ?_⟩
  cases m with
  | str z => cases r1; exact ⟨z, rfl, q1 ρ1 H1 _ (Fut.refl F1.sim) wk_str⟩
  | _ => exact False.elim q1
end
end Z

namespace Z
open PySem L2
/-! ### the head, with the __init__ of own exceptions -/
structure IniD where
  cls : Str
  fld : Str
  st : Stmt
abbrev IniW : Type := Option (Str × Str × Arguments × FuncBody × Scope × Addr × List Str × Addr)
def iniW (K : PySem.W.Frag) (x : Str) : IniW := match K.lookup (He.fAd K (x, some "__init__")) with
  | some ⟨_, _, .func fd, _⟩ => some (fd.name, fd.qualname, fd.params, fd.body, fd.scope, fd.globals, fd.closure.map (·.1), fd.builtins)
  | _ => none
def IniD.qual (d : IniD) : Str := d.cls ++ ".__init__"
def IniD.val (d : IniD) : IniW := some ("__init__", d.qual, defArgs d.st, .stmts (defBody d.st), defScope d.st, mainGlobals, ["__class__"], builtinsNs)
def SaysI (ini : List IniD) (K : PySem.W.Frag) : Prop := ini.map (fun d => iniW K d.cls) = ini.map IniD.val
def asI (g : Addr → Option Obj) (n : Nat) : List Addr := He.asD g n ++ [PySem.cStatics]
def obsIK (fs : List Fc) (fn : List He.DefD) (ini : List IniD) (K : PySem.W.Frag) : He.AlD × List IniW := (obsZ fs fn K, ini.map (fun d => iniW K d.cls))
def hookI (n : Nat) (fs : List Fc) (fn : List He.DefD) (ini : List IniD) : PySem.W.Hook where
  α := He.AlD × List IniW
  obs s := obsIK fs fn ini (He.frG s.heap.get? (asI s.heap.get? n))
  val _ := ((true, fn.map He.DefD.val), ini.map IniD.val)
  says _ h := ∃ K : PySem.W.Frag, K.In h ∧ SaysZ fs fn K ∧ SaysI ini K
  of _ s e := ⟨He.frG s.heap.get? (asI s.heap.get? n), He.frG_in, congrArg Prod.fst e, by unfold SaysI; exact congrArg Prod.snd e⟩
  keeps _ _ _ q k := q.elim fun K z => ⟨K, PySem.W.Frag.In.keeps z.1 k, z.2⟩
def obsIG (n : Nat) (fs : List Fc) (fn : List He.DefD) (ini : List IniD) (g : Addr → Option Obj) : He.AlD × List IniW := obsIK fs fn ini (He.frG g (asI g n))
theorem obsIG_eq {n : Nat} {fs : List Fc} {fn : List He.DefD} {ini : List IniD} {g : Addr → Option Obj} {s : Shared} (h : ∀ a, g a = s.heap.get? a) : (obsIG n fs fn ini g : (hookI n fs fn ini).α) = (hookI n fs fn ini).obs s := by
  rw [show g = s.heap.get? from funext h]
  rfl
structure TxtI (fs : List Fc) (fn : List He.DefD) (ini : List IniD) (K : PySem.W.Frag) (mg : Str → Option Value) : Prop extends TxtZ fs fn K mg where
  i : SaysI ini K
theorem txtI_of {fs : List Fc} {fn : List He.DefD} {ini : List IniD} {K : PySem.W.Frag} {mg : Str → Option Value} {h : Heap} (X : K.In h) (G : h.Ns mainGlobals mg) (c : SaysZ fs fn K) (d : SaysI ini K) : TxtI fs fn ini K mg := ⟨txt_of X G c, d⟩
/-- all else that is asked of such a class -/
def cIni (file x fld : Str) : Fc := fun K => (match K.lookup (He.fAd K (x, some "__init__")) with
    | some ⟨_, _, .func fd, _⟩ => (match fd.defaults, fd.kwdefaults, fd.code, fd.closure with
      | .none, .none, .ref cda, [(_, cc)] => PySem.W.codeIn K (.ref cda) (x ++ ".__init__") && (match K.lookup cda with
          | some ⟨_, _, .fields vs, _⟩ => (match (vs[2]? : Option Value) with
            | some (Value.str f _) => decide (f = file)
            | _ => false)
          | _ => false) && (match K.lookup cc with
          | some ⟨_, _, .cell (some (.ref D)), _⟩ => decide (D = He.ga K x)
          | _ => false)
      | _, _, _, _ => false)
    | _ => false) &&
  isA (PySem.W.nsIn K PySem.cStatics "thirdparty.any") && PySem.W.excInitIn K (He.ga K x) [.type "ValueError", .type "Exception", .type "BaseException", .type "object"] "ValueError.__new__" &&
  (match PySem.W.clsIn K (He.ga K x) with
    | some cd => PySem.HandSPX.refsVE cd.mro && cd.hasDict && isV (PySem.W.alongIn K "__init__" ((cd.mro.dropWhile (· != .ref (He.ga K x))).drop 1)) (.builtin "ValueError.__init__")
    | none => false) &&
  decide (PySem.W.mroIn K (He.ga K x) (.ref (He.ga K x)) = some true) && decide (PySem.W.subIn K (.ref (He.ga K x)) (.type "ValueError") = some true) && isV (PySem.W.findIn K (.ref (He.ga K x)) "__setattr__") (.builtin "object.__setattr__") && isA (PySem.W.findIn K (.ref (He.ga K x)) fld) &&
  isV (PySem.W.findIn K (.ref (He.ga K x)) "__init__") (.ref (He.fAd K (x, some "__init__"))) && decide (PySem.W.typeIn K (.ref (He.fAd K (x, some "__init__"))) = some (.type "function")) && PySem.W.keepIn K (.ref (He.ga K x))
/-- a class that can be raised so -/
def IniA (P : Program) (K : PySem.W.Frag) (C f : Addr) (qual fld : Str) : Prop := ∃ es pa pb p0 p1 p2 p3 p4 p5 q1 q2 q3 q4, IniK P K C f qual fld es pa pb p0 p1 p2 p3 p4 p5 q1 q2 q3 q4 ∧ IniE fld es p0 p1 p2 p3 p4 p5 q1 q2 q3 q4
section
variable {fs : List Fc} {fn : List He.DefD} {ini : List IniD} {K : PySem.W.Frag} {mg : Str → Option Value} {P : Program}
theorem TxtI.iniA (T : TxtI fs fn ini K mg) (k j : Nat) {d : IniD} {file : Str} (hk : ini[k]? = some d) (hj : fs[j]? = some (cIni file d.cls d.fld)) (hfile : P.main.file = file) (htop : (P.main.scope.names.lookup ("super" : Str)).isSome = false) {es : List Expr} {pa pb p0 p1 p2 p3 p4 p5 q1 q2 q3 q4 : Pos}
    (hA : defArgs d.st = iniArgs d.fld pa pb) (hB : defBody d.st = [.Expr (.Call (.Attribute (.Call (.Name "super" p0) [] [] p1) "__init__" p2) [.JoinedStr es p5] [] p3) p4, .Assign [.Attribute (.Name "self" q1) d.fld q2] (.Name d.fld q3) q4]) (hS : defScope d.st = iniScope d.fld)
    (hg : ∃ e1 e2 r, es = e1 :: e2 :: r ∧ GPs d.fld es ∧ es.length ≤ 5) (h1 : ¬ d.fld = Str.ofString "self" ∧ ¬ d.fld = Str.ofString "super" ∧ (d.fld == ("__debug__" : Str)) = false ∧ ¬ d.fld = Str.ofString "__class__")
    (hbd : ∀ (body : List Stmt) (doc pm ct cdv : Value) (an : Option Addr) (cc : Addr) (a b : Value), bindArgs (PySem.W.ksFn "__init__" d.qual (iniArgs d.fld pa pb) body (iniScope d.fld) .none .none doc pm an cdv ct cc) ⟨[a, b], []⟩ = pure [(Str.ofString "self", a), (d.fld, b)])
    (hE : IniE d.fld es p0 p1 p2 p3 p4 p5 q1 q2 q3 q4) : IniA P K (He.ga K d.cls) (He.fAd K (d.cls, some "__init__")) d.qual d.fld := by
  have c := T.c.fc j hj
  unfold cIni at c
  obtain ⟨c, k11⟩ := and2 c
  obtain ⟨c, k10⟩ := and2 c
  obtain ⟨c, k9⟩ := and2 c
  obtain ⟨c, k8⟩ := and2 c
  obtain ⟨c, k7⟩ := and2 c
  obtain ⟨c, k6⟩ := and2 c
  obtain ⟨c, k5⟩ := and2 c
  obtain ⟨c, k4⟩ := and2 c
  obtain ⟨c, k3⟩ := and2 c
  obtain ⟨k1, k2⟩ := and2 c
  have e2 : (ini.map (fun d => iniW K d.cls))[k]? = (ini.map IniD.val)[k]? := by rw [show ini.map (fun d => iniW K d.cls) = ini.map IniD.val from T.i]
  rw [List.getElem?_map, List.getElem?_map, hk] at e2
  have e3 : iniW K d.cls = d.val := Option.some.inj e2
  unfold iniW at e3
  refine ⟨es, pa, pb, p0, p1, p2, p3, p4, p5, q1, q2, q3, q4, ⟨?_, hg, htop, isA_ok k2, k3, ?_, of_decide_eq_true k5, of_decide_eq_true k6, isV_ok k7, isA_ok k8, h1, isV_ok k9, of_decide_eq_true k10, k11, hbd⟩, hE⟩
  · cases q : K.lookup (He.fAd K (d.cls, some "__init__")) with
    | none => rw [q] at e3; cases e3
    | some o =>
      obtain ⟨oc, od, dt, osl⟩ := o
      rw [q] at e3 k1
      cases dt with
      | func fd =>
        obtain ⟨n1, n2, n3, n4, n5, n6, n7, n8, n9, n10, n11, n12, n13, n14, n15⟩ := fd
        have e4 : (some (n1, n2, n3, n4, n5, n6, n7.map (·.1), n15) : IniW) = (some (("__init__" : Str), d.qual, defArgs d.st, FuncBody.stmts (defBody d.st), defScope d.st, mainGlobals, [("__class__" : Str)], builtinsNs) : IniW) := e3
        simp only [Option.some.injEq, Prod.mk.injEq] at e4
        obtain ⟨g1, g2, g3, g4, g5, g6, g7, g8⟩ := e4
        simp only at k1
        split at k1
        · rename_i cda nm cc
          obtain ⟨k1, m3⟩ := and2 k1
          obtain ⟨m1, m2⟩ := and2 k1
          split at m2
          · rename_i ccl cdd vs ccs hcd
            split at m2
            · rename_i ff tf hvs
              split at m3
              · rename_i cl cld D csl hcc
                have hD := of_decide_eq_true m3
                subst hD
                have hf := of_decide_eq_true m2
                subst g1 g2 g3 g4 g5 g6 g8
                simp only [List.map_cons, List.map_nil, List.cons.injEq, and_true] at g7
                subst g7
                refine ⟨oc, ccl, cl, n10, n11, n14, od, cdd, cld, n12, osl, ccs, csl, cc, cda, vs, ff, tf, ?_, m1, hcd, hvs, ?_, hcc⟩
                · rw [hA, hB, hS]
                · rw [hfile, hf]; simp
              · cases m3
            · cases m2
          · cases m2
        · cases k1
      | _ => cases e3
  · split at k4
    · rename_i cd e
      obtain ⟨k4, m3⟩ := and2 k4
      obtain ⟨m1, m2⟩ := and2 k4
      exact ⟨cd, e, m1, m2, isV_ok m3⟩
    · cases k4
end
section
variable {X : Cx} {T : Tx} {W : WX} {ma : Ev → M MV} {c f : Nat} {fA : Addr} {qual x : Str} {p pos pos2 : Pos} {a : Expr} {k : Nat}
theorem s_raiseB (hc : X.calm = true) (tk : Takes X W) (hI : IniA X.prog X.K (T.cls c) fA qual (fnm f)) (hr : Room k X.A) (hms : X.mg "super" = none) (gC : X.mg x = some (.ref (T.cls c))) (rC : Raises X (.ref (T.cls c))) (hx : T.hasX c = true) (hf : f < 34)
    (ha : PE X a (tE T W ma)) (hg : Gl X x := by rfl) (hdb : (x == ("__debug__" : Str)) = false := by decide) (he : starEach (a :: []) X.env = (false, eval a X.env) :: starEach [] X.env := by rfl) (hpl : (backTo pos (starEach [] X.env)).any (·.1) = false := by rfl) :
    PS X (.Raise (some (.Call (.Name x p) [a] [] pos)) none pos2) (tS T W (sRaiseA c f ma)) := by
  obtain ⟨es, pa, pb, p0, p1, p2, p3, p4, p5, q1, q2, q3, q4, TI, TE⟩ := hI
  exact s_raiseA hc tk TI TE hr hms gC rC hx hf ha hg hdb he hpl
end
end Z

namespace Z
open PySem L2 PyProof.Rows
/-! ### several except clauses, each with a name -/
def dEnd (D : Ends) (i : Nat) : Ends := { nx := fun σ' H' => D.nx (σ'.set i none) H', rt := D.rt, bk := fun σ' H' => D.bk (σ'.set i none) H', ct := fun σ' H' => D.ct (σ'.set i none) H' }
def wManyA (K : PySem.W.Frag) (Wout : WX) (D : Ends) : List (Value × Nat × (Addr → Value → Option Addr → TS)) → WX
  | [] => Wout
  | (c, i, ts) :: r => fun cls d σ H => ∃ b, PySem.W.exmOne K cls c = some b ∧ (b = true → ∀ a, H a = none → ts a cls d (dEnd D i) (σ.set i (some (.ref a))) H) ∧ (b = false → wManyA K Wout D r cls d σ H)
inductive HdsA (X : Cx) : List ExceptHandler → List (Value × Nat × (Addr → Value → Option Addr → TS)) → Prop
  | nil : HdsA X [] []
  | cons {x n : Str} {c : Value} {i : Nat} {ts : Addr → Value → Option Addr → TS} {b₀ : Stmt} {suite : List Stmt} {np pos' : Pos} {hds : List ExceptHandler} {l : List (Value × Nat × (Addr → Value → Option Addr → TS))} (hc : Names X x c) (hi : X.N[i]? = some n) (hln : X.env.kindOf n = some .local)
      (hsu : ∀ (a : Addr) (oe : Obj) (cls : Value) (d : Option Addr) (pn : List (Addr × Obj)), Zc cls d oe → (∃ vs, oe.data = .fields vs) → PSs (X.suite a ((a, oe) :: pn)) (b₀ :: suite) (ts a cls d)) (r : HdsA X hds l) :
      HdsA X (.ExceptHandler (some (.Name x np)) (some n) (b₀ :: suite) pos' :: hds) ((c, i, ts) :: l)
section
variable {X : Cx} {body : List Stmt} {h₀ : ExceptHandler} {hds : List ExceptHandler} {l : List (Value × Nat × (Addr → Value → Option Addr → TS))} {pos : Pos} {tb : WX → TS} {Wout : WX}
theorem ps_try_manyA (hs : X.stack = X.env :: X.outer) (hf : X.env.frame = some X.env.locals) (hN : X.N.Nodup) (tk : Takes X Wout)
    (hb : ∀ (W : WX) (pn : List (Addr × Obj)) (xe : Value → Shared → Prop), Takes (X.tr pn xe) W → PassesOwn (model X.prog X.w) X.A X.env xe → PSs (X.tr pn xe) body (tb W))
    (hh : HdsA X (h₀ :: hds) l) : PS X (.Try body (h₀ :: hds) [] [] pos) (fun D σ H => tb (wManyA X.K Wout D l) D σ H) := by
  refine ⟨fun pins s σ H D I h => ?_⟩
  have ok := I.ok
  have hfr : X.A.frames = some (X.env :: X.outer) := by rw [ok.frames, hs]
  refine wpAny_Try_except ?_
  refine wpAny_mono ((hb (wManyA X.K Wout D l) (X.pn ++ pins) (fun e s₁ => wpAny (model X.prog X.w) X.A (noteFrame e X.env) (fun _ s₂ => wpAny (model X.prog X.w) X.A (setFlight e none) (fun _ s₃ =>
    wpAny (model X.prog X.w) X.A (handleBy e X.env (h₀ :: hds)) (SP X pins D) X.xe s₃) X.xe s₂) X.xe s₁) (fun u s' xx => ?_) PassesOwn.looking).run [] s σ H D (I.toTry _) h) (fun f s1 hsp => ?_) (fun e s1 he => he)
  · obtain ⟨a, B, sI, pins', σ', H', cls, d, rfl, J', nb, up, sky, na, os, ag, w⟩ := xx
    have J : Inv X pins σ' H' sI := J'.ofTry ok
    have sky' : Sky B (X.env :: X.outer) a (Zc cls d) X.env.locals s'.heap := by rw [← hs]; exact sky
    show wpAny (model X.prog X.w) X.A (noteFrame (.ref a) X.env) _ _ _
    refine Sky.land Zc.steady hfr hf sky' fun h3 fl3 up3 => ?_
    have J3 : Inv X pins σ' H' { s' with heap := h3 } := J.landed nb fl3.1 (up.trans up3) os ag
    obtain ⟨oe3, vs3, he3, hz3, hd3⟩ := fl3.there
    have notFr : ∀ {h : Heap} {o : Obj} {vs : Array Value}, h.FunFrames B (X.env :: X.outer) → h.get? a = some o → o.data = .fields vs → a ∉ frs (X.env :: X.outer) := fun {h o vs} ff e dd hm => by
      obtain ⟨_, o', e', hnf⟩ := ff.mem hm
      rw [e] at e'; cases e'
      exact hnf _ dd
    have nfr := notFr fl3.2.2.1 he3 hd3
    have nL : a ≠ X.env.locals := fun z => nfr (List.mem_filterMap.mpr ⟨X.env, List.mem_cons_self, by rw [hf, z]⟩)
    have nF : a ∉ X.fs := fun hm => by
      obtain ⟨e, he, q⟩ := List.mem_filterMap.mp hm
      exact nfr (List.mem_filterMap.mpr ⟨e, List.mem_cons_of_mem _ he, q⟩)
    have S3 := J3.suite he3 hd3 na nL nF
    have go : ∀ {hds' : List ExceptHandler} {l' : List (Value × Nat × (Addr → Value → Option Addr → TS))}, HdsA X hds' l' → wManyA X.K Wout D l' cls d σ' H' →
        wpAny (model X.prog X.w) X.A (handleBy (.ref a) X.env hds') (SP X pins D) X.xe { s' with heap := h3 } := by
      intro hds' l' hk
      induction hk with
      | nil =>
        intro w
        refine wpAny_handleBy_nil ?_
        obtain ⟨k1, k2, k3, oe, vs, T, oT, ts', he, hz, hd, h1, hr⟩ := id fl3
        unfold PySem.passOn
        refine wpAny_bind (wpAny_field he hd h1 ?_)
        rw [if_neg (show ¬ ((Value.ref T == Value.none) = true) from by simp)]
        have fin : wpAny (model X.prog X.w) X.A (setFlight (.ref a) X.env.frame) (fun _ s4 => wpAny (model X.prog X.w) X.A (throw (.ref a) : Sem Flow) (SP X pins D) X.xe s4) X.xe { s' with heap := h3 } := by
          rw [hf]
          refine HandSPX.setFlight_upZ fl3 fun h4 hh4 up4 => wpAny_throw (tk _ _ ?_)
          exact ⟨a, B, sI, pins, σ', H', cls, d, rfl, J, nb, (up.trans up3).trans up4, .inr (.inr (by rw [hs]; exact hh4)), na, os, ag, w⟩
        first
          | exact wpAny_bind (wpAny_pure (wpAny_bind fin))
          | exact wpAny_bind fin
      | @cons x n c i ts b₀ suite np pos' hds2 l2 hc hi hln hsu r ih =>
        intro w
        obtain ⟨b, hb1, hyes, hno⟩ := w
        refine wpAny_handleBy_cons (codeAny_handlers_test ?_) (by intro q; cases q)
        have LT : PySem.W.Looks (model X.prog X.w) h3 (typeOf (.ref a)) cls := fun A Q E s k q => wpAny_typeOf_ref (k _ _ he3) (by rw [hz3.1]; exact q)
        have LM := PySem.W.exm_one (M := model X.prog X.w) (J3.kIn) LT hb1
        have test : ∀ {Q : Value → Shared → Prop} {E : Value → Shared → Prop}, Q c { s' with heap := h3 } → wpAny (model X.prog X.w) (X.A.mark (some (.ref a))) (eval (.Name x np) X.env) Q E { s' with heap := h3 } := fun {Q E} q => by
          obtain ⟨hg, hdbg, hm | ⟨hm, hv, hnn⟩⟩ := hc
          · exact ld_glob (X := X.suite a ((a, oe3) :: (X.pn ++ pins))) S3 hg hm q hdbg
          · exact ld_blt (X := X.suite a ((a, oe3) :: (X.pn ++ pins))) S3 hg hm hv q hnn hdbg
        refine test (LM.here ?_)
        cases b with
        | true =>
          refine codeAny_handlers_suite_as ?_
          refine HandSPX.lands_againZ fl3 fun h4 fl4 up4 => ?_
          have J4 : Inv X pins σ' H' { s' with heap := h4 } := J.landed nb fl4.1 ((up.trans up3).trans up4) os ag
          obtain ⟨oe4, vs4, he4, hz4, hd4⟩ := fl4.there
          have S4 := J4.suite he4 hd4 na nL nF
          refine store_ok (X := X.suite a ((a, oe4) :: (X.pn ++ pins))) (v := .ref a) S4 hN hi (.inl hln) rfl (fun s5 S5 => ?_) (.inr hln)
          refine wpAny_mono ((hsu a oe4 cls d (X.pn ++ pins) hz4 ⟨_, hd4⟩).run [] s5 _ H' _ S5 (hyes rfl a na)) (fun f s6 hsp => ?_) (fun _ _ z => False.elim z)
          have end_ : ∀ {σ6 : L2.St} {H6 : Hp} {Q : Shared → Prop}, Inv (X.suite a ((a, oe4) :: (X.pn ++ pins))) [] σ6 H6 s6 → (∀ s7, Inv X pins (σ6.set i none) H6 s7 → Q s7) →
              wpAny (model X.prog X.w) X.A (do bindName X.env n .none; unbindBehindTheSuite X.env n pos') (fun _ s7 => Q s7) X.xe s6 := fun {σ6 H6 Q} S6 hq => gone_ok (S6.unsuite ok) hN hi hln hq
          cases f with
          | next =>
            obtain ⟨σ6, H6, S6, q6⟩ := hsp
            exact end_ S6 fun s7 J7 => ⟨_, _, J7, q6⟩
          | brk =>
            obtain ⟨σ6, H6, S6, q6⟩ := hsp
            exact end_ S6 fun s7 J7 => ⟨_, _, J7, q6⟩
          | cont =>
            obtain ⟨σ6, H6, S6, q6⟩ := hsp
            exact end_ S6 fun s7 J7 => ⟨_, _, J7, q6⟩
          | ret u =>
            obtain ⟨v6, σ6, H6, S6, r6, q6⟩ := hsp
            exact end_ S6 fun s7 J7 => ⟨_, _, _, J7, r6, q6⟩
        | false =>
          show wpAny _ X.A (handleBy (.ref a) X.env hds2) _ _ _
          exact ih (hno rfl)
    exact go hh w
  · cases f with
    | next =>
      obtain ⟨σ', H', J', q⟩ := hsp
      exact wpAny_execs_nil ⟨σ', H', J'.ofTry ok, q⟩
    | brk =>
      obtain ⟨σ', H', J', q⟩ := hsp
      exact ⟨σ', H', J'.ofTry ok, q⟩
    | cont =>
      obtain ⟨σ', H', J', q⟩ := hsp
      exact ⟨σ', H', J'.ofTry ok, q⟩
    | ret u =>
      obtain ⟨v, σ', H', J', r, q⟩ := hsp
      exact ⟨v, σ', H', J'.ofTry ok, r, q⟩
end
abbrev Hnd : Type := Nat × Nat × (Nat → List (Nat × MV) → MS)
def handN : List Hnd → Ev → Nat → List (Nat × MV) → Sto → Fl
  | [], e, c, fs, s => .ex e c fs s
  | (i, k, ms) :: r, e, c, fs, s => if subX c k = true then unsetN i (ms c fs (e.set i (some .exc)) s) else handN r e c fs s
def sTryN (mb : MS) (hs : List Hnd) : MS := fun env st => match mb env st with
  | .ex e c fs s => handN hs e c fs s
  | r => r
/-- the clauses, read -/
inductive HdsZ (X : Cx) (T : Tx) : List ExceptHandler → List Hnd → Prop
  | nil : HdsZ X T [] []
  | cons {x n : Str} {k i : Nat} {ms : Nat → List (Nat × MV) → MS} {b₀ : Stmt} {suite : List Stmt} {np pos' : Pos} {hds : List ExceptHandler} {l : List Hnd} (hc : Names X x (.ref (T.cls k)))
      (hex : ∀ c, T.hasX c = true → PySem.W.exmOne X.K (.ref (T.cls c)) (.ref (T.cls k)) = some (subX c k))
      (hsu : ∀ (a : Addr) (oe : Obj) (cl : Value) (d : Option Addr) (pn : List (Addr × Obj)) (c : Nat) (fs : List (Nat × MV)), Zc cl d oe → (∃ vs, oe.data = .fields vs) → PSs (X.suite a ((a, oe) :: pn)) (b₀ :: suite) (tS (T.on c fs cl d a) WF (ms c fs)))
      (r : HdsZ X T hds l) (hi : X.N[i]? = some n := by rfl) (hln : X.env.kindOf n = some .local := by rfl) : HdsZ X T (.ExceptHandler (some (.Name x np)) (some n) (b₀ :: suite) pos' :: hds) ((i, k, ms) :: l)
section
variable {X : Cx} {T : Tx} {W : WX} {body : List Stmt} {h₀ : ExceptHandler} {hds : List ExceptHandler} {l : List Hnd} {pos : Pos} {mb : MS}
def hdT (T : Tx) : List Hnd → List (Value × Nat × (Addr → Value → Option Addr → TS)) := List.map fun h => (.ref (T.cls h.2.1), h.1, fun a cl d D σ H => ∃ c fs, tS (T.on c fs cl d a) WF (h.2.2 c fs) D σ H)
theorem HdsZ.a : ∀ {hds : List ExceptHandler} {l : List Hnd}, HdsZ X T hds l → HdsA X hds (hdT T l)
  | _, _, .nil => .nil
  | _, _, .cons hc hex hsu r hi hln => .cons hc hi hln (fun a oe cl d pn hz hv => ⟨fun pins s σ H D I ⟨c, fs, h⟩ => (hsu a oe cl d pn c fs hz hv).run pins s σ H D I h⟩) r.a
theorem hand_red (hT : T.exc = none) {D : Ends} {ρ : List Addr} {st : Sto} {H : Hp} {σ : L2.St} {e : Ev} {c : Nat} {fs : List (Nat × MV)} {cl : Value} {d : Option Addr} (S : Sim T ρ st H) (E : REnv T ρ H e σ) (r : RX T ρ H c fs cl d) : ∀ {hds : List ExceptHandler} {l : List Hnd}, HdsZ X T hds l → OutS T W ρ H D (handN l e c fs st) → wManyA X.K W D (hdT T l) cl d σ H
  | _, _, .nil, h => h ρ H σ cl d (Fut.refl S) E r
  | _, _, .cons (k := k) (i := i) (ms := ms) hc hex hsu rr hi hln, h => by
    obtain ⟨e1, e2, _, _⟩ := id r
    refine ⟨subX c k, by rw [e1]; exact hex c e2, fun hs a ha => ?_, fun hs => ?_⟩
    · unfold handN at h
      rw [if_pos hs] at h
      refine ⟨c, fs, ρ, st, e.set i (some .exc), S.on r, (E.on hT).mark i, ?_⟩
      show OutS (T.on c fs cl d a) WF ρ H (dEnd D i) (ms c fs (e.set i (some .exc)) st)
      cases q : ms c fs (e.set i (some .exc)) st with
      | nx e3 s3 =>
        simp only [q, unsetN] at h
        intro ρ' H' σ' F' E'
        cases q2 : leaveE i e3 with
        | none => rw [q2] at h; exact h.elim
        | some e4 => rw [q2] at h; exact h ρ' H' (σ'.set i none) (F'.off S) (leave_off q2 E')
      | rt v s3 => simp only [q, unsetN] at h; exact fun ρ' H' u F' r' => h ρ' H' u (F'.off S) r'
      | bk e3 s3 =>
        simp only [q, unsetN] at h
        intro ρ' H' σ' F' E'
        cases q2 : leaveE i e3 with
        | none => rw [q2] at h; exact h.elim
        | some e4 => rw [q2] at h; exact h ρ' H' (σ'.set i none) (F'.off S) (leave_off q2 E')
      | ct e3 s3 =>
        simp only [q, unsetN] at h
        intro ρ' H' σ' F' E'
        cases q2 : leaveE i e3 with
        | none => rw [q2] at h; exact h.elim
        | some e4 => rw [q2] at h; exact h ρ' H' (σ'.set i none) (F'.off S) (leave_off q2 E')
      | ex e3 c3 fs3 s3 => simp only [q, unsetN] at h; exact h.elim
      | bad => simp only [q, unsetN] at h; exact h.elim
    · unfold handN at h
      rw [if_neg (by rw [hs]; decide)] at h
      exact hand_red hT S E r rr h
theorem s_tryN (hT : T.exc = none) (hs : X.stack = X.env :: X.outer) (hf : X.env.frame = some X.env.locals) (hN : X.N.Nodup) (tk : Takes X W)
    (hb : ∀ (W : WX) (pn : List (Addr × Obj)) (xe : Value → Shared → Prop), Takes (X.tr pn xe) W → PassesOwn (model X.prog X.w) X.A X.env xe → PSs (X.tr pn xe) body (tS T W mb))
    (hh : HdsZ X T (h₀ :: hds) l) : PS X (.Try body (h₀ :: hds) [] [] pos) (tS T W (sTryN mb l)) :=
  ps_mono (ps_try_manyA (tb := fun W => tS T W mb) (Wout := W) hs hf hN tk hb hh.a) fun D σ H h => by
    obtain ⟨ρ, st, env, S, E, h⟩ := h
    refine ⟨ρ, st, env, S, E, ?_⟩
    unfold sTryN at h
    cases em : mb env st with
    | nx e s => simp only [em] at h; exact h
    | rt v s => simp only [em] at h; exact h
    | bk e s => simp only [em] at h; exact h
    | ct e s => simp only [em] at h; exact h
    | bad => simp only [em] at h; exact h
    | ex e c fs s =>
      simp only [em] at h
      intro ρ1 H1 σ1 cl d F1 E1 r1
      exact hand_red hT F1.sim E1 r1 hh (OutS.fut F1 h)
end
end Z

namespace Z
open PySem L2 PyProof.Rows L2H
/-! ### a def that is called in an except suite with the handled exception alone -/
abbrev noE : XK := fun _ _ _ => False
structure FnX (P : Program) (w : World) (K : PySem.W.Frag) (mg : Str → Option Value) (base : Heap) (T : Tx) (k : Nat) (f : Addr) (fd : FuncData) (ps : List Str) (mf : Nat → List (Nat × MV) → M MV) : Prop where
  one : ps.length = 1
  run : ∀ (A : Around) (outer : List Env) (s : Shared) (H : Hp) (args : Args) (Q : VK) (a : Addr) (oe : Obj) (cl : Value) (d : Option Addr) (c : Nat) (fs : List (Nat × MV)) (ρ : List Addr) (st : Sto), RoomH k A → A.handled = some (.ref a) → PinOk outer H s (a, oe) → Zc cl d oe → (∃ vs, oe.data = .fields vs) →
    Env0 P w K mg base A outer s H → BindsTo s fd args (ps.zip [.ref a]) → Sim (T.on c fs cl d a) ρ st H → OutF (T.on c fs cl d a) ρ H (mf c fs st) Q noE → codeAny (model P w) A (.call (.ref f) args) (CR (L2.CX P w) outer P w H s Q noE) s
section
variable {P : Program} {w : World} {K : PySem.W.Frag} {mg : Str → Option Value} {base : Heap} {T : Tx}
def mFunX (n : Nat) (mb : Nat → List (Nat × MV) → MS) (c : Nat) (fs : List (Nat × MV)) : M MV := fun st => flowR (mb c fs (some .exc :: List.replicate (n - 1) none) st)
theorem fn_okX {qual : Str} {st : Stmt} {f : Addr} {fd : FuncData} {N ps : List Str} {k : Nat} {mb : Nat → List (Nat × MV) → MS} (F : Df K qual st f fd) (S : FnScope N ps (defScope st)) (h1 : ps.length = 1)
    (hb : ∀ (cdv : Value) (A : Around) (outer : List Env) (s : Shared) (H : Hp) (a : Addr) (oe : Obj) (cl : Value) (d : Option Addr) (c : Nat) (fs : List (Nat × MV)), Zc cl d oe → (∃ vs, oe.data = .fields vs) → RoomH k (A.deeper (PyProof.Rows.envOfC qual (defScope st) s.heap.objs.size f cdv)) →
      PSs ((cxOf (L2.CX P w) P w K mg base N qual (defScope st) f cdv A outer s H noE).suite a ((a, oe) :: [])) (defBody st) (tS (T.on c fs cl d a) WF (mb c fs))) : FnX P w K mg base T (k + 1) f fd ps (mFunX N.length mb) := by
  obtain ⟨x, oc, od, dV, kV, doc, pm, an, cdv, ct, osl, rfl, lk, hcd⟩ := F.ex
  refine ⟨h1, fun A outer s H args Q a oe cl d c fs ρ sto hr hot hpin hz hf e0 hb1 hS hq => ?_⟩
  have KX : K.In s.heap := e0.mod.kin.keeps fun b o e => (e0.bs b o e).1
  have lim : s.heap.NoLimit := e0.mod.nolimit.keeps fun b o e => (e0.bs b o e).1
  have hkind : ∀ y ∈ ps.zip [Value.ref a], (defScope st).names.lookup y.1 = some .local ∨ ((defScope st).names.lookup y.1 = some .cell ∧ ((cellsFrom (s.heap.objs.size + 1) (defScope st).names []).lookup y.1).isSome = true) := fun ⟨n, v⟩ hy => by
    rcases S.par n (List.of_mem_zip hy).1 with q | q
    · exact .inl q
    · exact .inr ⟨q, PySem.W.cellsFrom_some _ _ _ (.inl q)⟩
  refine codeAny_call_function hr.depth (KX _ _ lk) rfl S.co S.gen rfl (PySem.W.codeRec_of KX hcd) (hb1 _ _ _ _ ?_)
  refine wpAny_newFunctionEnv_cells S.kind hkind fun env he s1 x => ?_
  subst he
  refine ⟨lim.keeps x.toInCall.keep, codeAny_func ?_⟩
  have ht := hb cdv A outer s H a oe cl d c fs hz hf (hr.deeper _)
  have I0 : Inv (cxH (L2.CX P w) P w K mg base N qual (defScope st) f cdv A outer s H noE (a, oe)) [] (L2.start N [V.ref a]) H s1 := inv_startH S hpin e0 (by rw [h1]; rfl) (.cons rfl .nil) x
  have I : Inv ((cxOf (L2.CX P w) P w K mg base N qual (defScope st) f cdv A outer s H noE).suite a ((a, oe) :: [])) [] (L2.start N [V.ref a]) H s1 :=
    ⟨⟨I0.ok.mod, I0.ok.kind, I0.ok.glob, I0.ok.blt, I0.ok.above, I0.ok.inj, I0.ok.has, I0.ok.cab, (fun z => Bool.noConfusion (show false = true from z)), I0.ok.frames, I0.ok.stk, I0.ok.exf, I0.ok.bs, I0.ok.bsz, I0.ok.noex, I0.ok.exfs, I0.ok.funs, I0.ok.frf⟩, I0.os, I0.bare, I0.base, I0.loc, I0.cell, I0.free, I0.freeC, I0.pin, I0.hok, I0.len⟩
  have hm : ∀ e : Env, (A.deeper e).mark (some (.ref a)) = A.deeper e := fun e => by
    obtain ⟨hd, dp, fr, gu, un⟩ := A
    cases hot
    rfl
  have hN : N.length = 1 + (N.length - 1) := by
    have := congrArg List.length S.pre
    rw [List.length_take] at this
    omega
  have red : tS (T.on c fs cl d a) WF (mb c fs) { nx := fun _ H' => Q .non H', rt := Q } (L2.start N [V.ref a]) H := by
    refine ⟨ρ, sto, some .exc :: List.replicate (N.length - 1) none, hS, ?_, ?_⟩
    · unfold L2.start
      refine ⟨.ref a, List.replicate (N.length - 1) none, rfl, .inr ⟨rfl, c, fs, cl, d, a, rfl, rfl⟩, ?_⟩
      exact REnv.start (ms := []) (vs := []) rfl _
    · unfold mFunX at hq
      revert hq
      generalize mb c fs (some .exc :: List.replicate (N.length - 1) none) sto = r
      intro h'
      cases r with
      | nx e s => exact fun ρ' H' σ' F _ => h' ρ' H' .non F rfl
      | rt v s => exact h'
      | bk e s => exact False.elim h'
      | ct e s => exact False.elim h'
      | ex e c fs s => exact fun ρ' H' σ' cl d F _ r => h' ρ' H' cl d F r
      | bad => exact False.elim h'
  have W : wpAny (model P w) ((A.deeper (envOfC qual (defScope st) s.heap.objs.size f cdv)).mark (some (.ref a))) (execs (defBody st) (envOfC qual (defScope st) s.heap.objs.size f cdv)) (SP ((cxOf (L2.CX P w) P w K mg base N qual (defScope st) f cdv A outer s H noE).suite a ((a, oe) :: [])) [] { nx := fun _ H' => Q .non H', rt := Q }) (fun _ _ => False) s1 := ht.run [] s1 (L2.start N [V.ref a]) H _ I red
  rw [hm] at W
  refine wpAny_mono W (fun fl s' hs => ?_) fun e s' hs => False.elim hs
  have fin : ∀ {σ' : L2.St} {H' : Hp} {v : V} {u : Value}, Inv ((cxOf (L2.CX P w) P w K mg base N qual (defScope st) f cdv A outer s H noE).suite a ((a, oe) :: [])) [] σ' H' s' → RelV v u → Q v H' → CE outer P w H s Q u s' :=
    fun {σ' H' v u} J rv q => ⟨v, H', J.os, J.bare, J.base, J.hok, rv, q⟩
  cases fl with
  | ret u =>
    obtain ⟨v, σ', H', J, rv, q⟩ := hs
    exact fin J rv q
  | next =>
    obtain ⟨σ', H', J, q⟩ := hs
    exact fin (v := V.non) (u := Value.none) J rfl q
  | brk =>
    obtain ⟨_, _, _, q⟩ := hs
    exact False.elim q
  | cont =>
    obtain ⟨_, _, _, q⟩ := hs
    exact False.elim q
end
/-- the call -/
def mCallX (i : Nat) (r : M MV) : Ev → M MV := fun env s => match env.getD i none with
  | some .exc => r s
  | _ => .bad
section
variable {X : Cx} {T : Tx} {a : Addr} {oe : Obj} {pn : List (Addr × Obj)} {cl : Value} {d : Option Addr} {c : Nat} {fs : List (Nat × MV)} {x y : Str} {px q pos : Pos} {k : Nat} {f : Addr} {fd : FuncData} {ps : List Str} {mf : Nat → List (Nat × MV) → M MV}
theorem outF_noE {W : WX} {ρ : List Addr} {H : Hp} {σ : L2.St} {r : R MV} {Q : VK} (h : Out T WF (RV T) ρ H σ r Q) : OutF T ρ H r Q noE := by
  cases r with
  | ok v s => exact h
  | ex c fs s => exact fun ρ' H' cl d F r => h ρ' H' cl d F r
  | bad => exact h
theorem v_callX (i : Nat) (F : FnX X.prog X.w X.K X.mg X.base T k f fd ps mf) (hr : RoomH k X.A) (hm : X.mg x = some (.ref f)) (hk : PySem.W.keepIn X.K (.ref f) = true) (hb : Binds X.K fd ps []) (hz : Zc cl d oe) (hf : ∃ vs, oe.data = .fields vs)
    (hx : PE (X.suite a ((a, oe) :: pn)) (.Name y px) (fun σ H Q => ∃ v, σ[i]? = some (some v) ∧ Q v H)) (hg : Gl X x := by rfl) (hdb : (x == ("__debug__" : Str)) = false := by decide)
    (he : starEach (.Name y px :: []) X.env = (false, eval (.Name y px) X.env) :: starEach [] X.env := by rfl) (hpl : (backTo pos (starEach [] X.env)).any (·.1) = false := by rfl) :
    PE (X.suite a ((a, oe) :: pn)) (.Call (.Name x q) [.Name y px] [] pos) (tE (T.on c fs cl d a) WF (mCallX i (mf c fs))) := by
  refine ⟨fun pins s σ H Q I ⟨ρ, st, env, S, E, h⟩ => ?_⟩
  unfold mCallX at h
  cases e : env.getD i none with
  | none => rw [e] at h; exact h.elim
  | some m =>
    rw [e] at h
    cases m with
    | exc =>
      obtain ⟨R, hs⟩ := exc_rx S E (getD_some e)
      have ha : PA (X.suite a ((a, oe) :: pn)) [.Name y px] _ := pa_cons hx pa_nil he
      refine wpAny_Call_Name_kw (ld_glob (X := X.suite a ((a, oe) :: pn)) I hg hm ?_ hdb)
      refine PySem.W.callWith_K (h₀ := X.base) I.ok.mod.kin hk (thn (ha.run pos pins s σ H (fun vs H1 => vs = [V.ref a] ∧ H1 = H) I ⟨_, hs, rfl, rfl⟩) fun us s1 ⟨vs, H1, I1, r, e1, e2⟩ => ⟨I1.kIn, ?_⟩) he hpl
      subst e1 e2
      obtain ⟨u, rfl, ru⟩ : ∃ u, us = [u] ∧ RelV (V.ref a) u := by
        cases r with
        | cons r1 r2 => cases r2; exact ⟨_, rfl, r1⟩
      cases (show u = Value.ref a from ru)
      have b := hb s1 [.ref a] I1.kIn (by rw [List.append_nil, F.one]; rfl)
      rw [List.append_nil] at b
      have P1 := I1.pin (a, oe) (List.mem_append_left _ List.mem_cons_self)
      have hpin : PinOk X.stack H1 s1 (a, oe) := ⟨P1.1, P1.2.1, fun hm => (List.mem_cons.mp (I1.stkSub a hm)).elim P1.2.2.1 P1.2.2.2.1, P1.2.2.2.2⟩
      refine wpAny_call (codeAny_mono (F.run (X.A.mark (some (.ref a))) X.stack s1 H1 ⟨[.ref a], []⟩ Q a oe cl d c fs ρ st ⟨hr.dp, hr.un⟩ rfl hpin hz hf I1.env0 b S (outF_noE (W := WF) h)) fun r s' hq => ?_)
      cases r with
      | error e =>
        obtain ⟨_, _, _, _, _, _, _, _, _, _, _, _, z⟩ := hq
        exact z.elim
      | ok fl =>
        cases fl with
        | ret u => exact I1.after hq
        | next => exact False.elim hq
        | brk => exact False.elim hq
        | cont => exact False.elim hq
    | _ => exact h.elim
end
end Z

namespace Z
open PySem L2
def cRai (x : Str) : Fc := fun K => decide (PySem.W.subIn K (.ref (He.ga K x)) (.type "BaseException") = some true) && decide (PySem.W.typeIn K (.ref (He.ga K x)) = some (.type "type"))
theorem TxtZ.rai {fs : List Fc} {fn : List He.DefD} {mg : Str → Option Value} {x : Str} {X : Cx} (T : TxtZ fs fn X.K mg) (i : Nat) (h : fs[i]? = some (cRai x) := by rfl) : Raises X (.ref (He.ga X.K x)) := by
  obtain ⟨h1, h2⟩ := and2 (T.c.fc i h)
  exact raises_own (of_decide_eq_true h1) (of_decide_eq_true h2)
theorem all_nil {α β : Type} {P : α → β → Prop} : ∀ q ∈ ([] : List (α × β)), P q.1 q.2 := fun q hq => nomatch hq
theorem all_cons {α β : Type} {P : α → β → Prop} {c : α} {m : β} {l : List (α × β)} (h : P c m) (r : ∀ q ∈ l, P q.1 q.2) : ∀ q ∈ (c, m) :: l, P q.1 q.2 := fun q hq => by
  rcases List.mem_cons.mp hq with e | e
  · rw [e]; exact h
  · exact r q e
theorem _root_.L2.ExcC.xf {K : PySem.W.Frag} {D : Addr} (h : ExcC K D) : XfC K D := ⟨h.hg, h.hk, h.hs, h.hd⟩
end Z

namespace Z
open PySem L2 PyProof.Rows
/-- the end, with the script's bits -/
theorem walk_ofB {l : PySem.W.OpenLaw} {n k : Nat} {q : Program} {loose : List Str} {XP : (Str → Option Value) → Heap → Prop} {YP : World → Heap → Prop} {d : PySem.DefRec} {CX : World → CXT} {x : Str} (hn : l.most = some n) (hn2 : n ≤ sizeLine) (hdf : d.params.defaults = []) (hr : Room k PySem.callerA)
    (F : ∀ (w : World) (mg : Str → Option Value) (fa : Addr) (h : Heap), YP w h → h.Ns mainGlobals mg → mg d.name = some (.ref fa) → ∃ (K : PySem.W.Frag) (fd : FuncData) (sp : Sp), K.In h ∧ (∀ (s : Shared) (u : Value), BindsTo s fd ⟨[u], []⟩ [(x, u)]) ∧
      (∀ (H : Hp) (a : Addr) (ns : List Int), ns.length ≤ n → (∀ k ∈ ns, nb k ≤ 1048576) → Only H → SqL K H a (ns.map V.int) → sp [.ref a] H (fun v _ => v = .bl true) fun _ _ _ => False) ∧ ∀ base : Heap, K.In base → base.Ns mainGlobals mg → FnOk l.prog w K mg base (CX w) k fa fd [x] sp)
    (hCX : ∀ (w : World) (H : Hp) (s : Shared) (e : Value) (s' : Shared), CX w [] H s (fun _ _ _ => False) e s' → False) : PySem.W.WalkO q loose XP YP l.row.toRowW d [] (fun f vs => PySem.call f vs) := by
  refine Att.attach_callB hn hdf fun w s0 s1 mg mb fa o pm cd doc a vs ns G Y ho hd hcd hmg hobj hints hlen hbits hg => ?_
  have ⟨K, fd, sp, KX, hb, hsp, hF⟩ := F w mg fa _ Y G.T.g hmg
  refine law_call (CX := CX w) KX G.T.g G.T.b G.T.builtins G.T.nolimit hg hobj hints (Nat.le_trans hlen hn2) hr hF hb ?_ ?_
  · exact fun H hO hS => hsp H a ns hlen hbits hO hS
  · exact fun H e s' => hCX w H s1 e s'
end Z

namespace Z
open PySem L2
section
variable {env : Ev} {s : Sto}
@[simp ↓] theorem mMB_run (ok : Sto → MV → Bool) (f : MV → List MV → M MV) (mo : Ev → M MV) (as : Ev → M (List MV)) : mMB ok f mo as env s = (match mo env s with | .ok x t => (if ok t x = true then (match as env t with | .ok xs u => f x xs u | .ex c fs t => .ex c fs t | .bad => .bad) else .bad) | .ex c fs t => .ex c fs t | .bad => .bad) := by
  unfold mMB M.bnd
  cases mo env s with
  | ex c fs z => rfl
  | bad => rfl
  | ok x0 t0 =>
    simp only []
    by_cases h : ok t0 x0 = true
    · rw [if_pos h, if_pos h]
      cases as env t0 <;> rfl
    · rw [if_neg h, if_neg h]
theorem fAppend_r {n : Nat} {xs : List MV} (y : MV) (h : s[n]? = some (.lst xs)) (hl : xs.length < line) : fAppend (.ref n) [y] s = .ok .non (s.set n (.lst (xs ++ [y]))) := by
  simp only [fAppend, onLs, h, if_pos hl]
theorem isLs_r {n : Nat} {xs : List MV} (h : s[n]? = some (.lst xs)) : isLs s (.ref n) = true := by
  simp [isLs, listOf, h]
@[simp ↓] theorem sRaiseA_run (c f : Nat) (ma : Ev → M MV) : sRaiseA c f ma env s = (match ma env s with | .ok v t => (if smM v = true then .ex env c [(f, v)] t else .bad) | .ex c fs t => .ex env c fs t | .bad => .bad) := by
  unfold sRaiseA bndS
  cases ma env s <;> rfl
@[simp] theorem fMax_i (i j : Int) : fMax s [.int i, .int j] = some (.int (if j > i then j else i)) := rfl
@[simp] theorem fMin_i (i j : Int) : fMin s [.int i, .int j] = some (.int (if j < i then j else i)) := rfl
@[simp ↓] theorem mChain3_run (f g h : Sto → MV → MV → Option Bool) (ma mb mc md : Ev → M MV) : mChain3 f g h ma mb mc md env s = (match ma env s with
    | .ok x t => (match mb env t with
      | .ok y u => (match f u x y with
        | some k => (if k = true then (match mc env u with
          | .ok z v => (match g v y z with
            | some k2 => (if k2 = true then (match md env v with
              | .ok w o => M.opt (h o z w) o
              | .ex c fs t => .ex c fs t
              | .bad => .bad) else .ok false v)
            | none => .bad)
          | .ex c fs t => .ex c fs t
          | .bad => .bad) else .ok false u)
        | none => .bad)
      | .ex c fs t => .ex c fs t
      | .bad => .bad)
    | .ex c fs t => .ex c fs t
    | .bad => .bad) := by
  unfold mChain3 M.bnd
  cases ma env s with
  | ex c fs z => rfl
  | bad => rfl
  | ok x t =>
    simp only []
    cases mb env t with
    | ex c fs z => rfl
    | bad => rfl
    | ok y u =>
      simp only []
      cases f u x y with
      | none => rfl
      | some k =>
        cases k with
        | false => rfl
        | true =>
          simp only [opt_some, if_true]
          cases mc env u with
          | ex c fs z => rfl
          | bad => rfl
          | ok z v =>
            simp only []
            cases g v y z with
            | none => rfl
            | some k2 =>
              cases k2 with
              | false => rfl
              | true =>
                simp only [opt_some, if_true]
                cases md env v <;> rfl
@[simp ↓] theorem mExcI_run (i : Nat) (b : Bool) : mExcI i b env s = (match env.getD i none with | some .exc => .ok (.bl b) s | _ => .bad) := rfl
@[simp ↓] theorem mCallX_run (i : Nat) (r : M MV) : mCallX i r env s = (match env.getD i none with | some .exc => r s | _ => .bad) := rfl
@[simp ↓] theorem mExcF_run (i f : Nat) (fs : List (Nat × MV)) : mExcF i f fs env s = (match env.getD i none, lookN f fs with | some .exc, some v => .ok v s | _, _ => .bad) := rfl
@[simp ↓] theorem sTryN_run (mb : MS) (hs : List Hnd) : sTryN mb hs env s = (match mb env s with | .ex e c fs t => handN hs e c fs t | .nx e t => .nx e t | .rt v t => .rt v t | .bk e t => .bk e t | .ct e t => .ct e t | .bad => .bad) := by
  unfold sTryN
  cases mb env s <;> rfl
end
end Z

namespace Z
open PySem L2
/-! ### comprehensions that leave the store as it is -/
/-- a value without cells, of no great depth -/
def Flat : MV → Prop := fun v => ∀ (t : Sto) (n : Nat), frzM t n 40 v = some v
theorem mapM_flat {t : Sto} {n : Nat} : ∀ {xs : List MV}, (∀ x ∈ xs, Flat x) → xs.mapM (frzM t n 40) = some xs
  | [], _ => rfl
  | x :: xs, h => by
    rw [List.mapM_cons, h x List.mem_cons_self t n, mapM_flat fun y hy => h y (List.mem_cons_of_mem _ hy)]
    rfl
theorem lcL_pure {g : MG} {mt : Ev → M Bool} {me : Ev → M MV} {ok : Sto → Prop} {env : Ev} {s : Sto} {b : MV → Bool} {v : MV → MV} : ∀ (xs acc : List MV),
    (∀ x ∈ xs, ∀ a, ∃ e, g x env (s ++ [.lst a]) = .ok e (s ++ [.lst a]) ∧ mt e (s ++ [.lst a]) = .ok (b x) (s ++ [.lst a]) ∧ (b x = true → me e (s ++ [.lst a]) = .ok (v x) (s ++ [.lst a]))) → (∀ a, ok (s ++ [.lst a])) → acc.length + xs.length ≤ line →
    lcL g mt me ok s.length env xs (s ++ [.lst acc]) = some (s ++ [.lst (acc ++ (xs.filter b).map v)])
  | [], acc, _, ho, _ => by simp [lcL, ho acc]
  | x :: xs, acc, h, ho, hl => by
    obtain ⟨e, h1, h2, h3⟩ := h x List.mem_cons_self acc
    simp only [List.length_cons] at hl
    have ih := fun acc' => lcL_pure (g := g) (mt := mt) (me := me) (ok := ok) (env := env) (s := s) (b := b) (v := v) xs acc' (fun y hy => h y (List.mem_cons_of_mem _ hy)) ho
    unfold lcL
    rw [if_pos (ho acc), h1]
    simp only [h2]
    cases hb : b x with
    | false =>
      simp only []
      rw [ih acc (by omega), List.filter_cons_of_neg (by rw [hb]; decide)]
    | true =>
      simp only [h3 hb]
      have hg : (s ++ [Cell.lst acc])[s.length]? = some (.lst acc) := by simp
      have hs : (s ++ [Cell.lst acc]).set s.length (.lst (acc ++ [v x])) = s ++ [.lst (acc ++ [v x])] := by simp
      rw [hg]
      simp only []
      rw [if_pos (by omega), hs, ih _ (by simp; omega), List.filter_cons_of_pos hb]
      simp
theorem mLc_pure {mi : MI} {it : _} {g : MG} {mt : Ev → M Bool} {me : Ev → M MV} {vs : List Nat} {env : Ev} {s : Sto} (b : MV → Bool) (v : MV → MV) (hi : mi env s = .ok it s)
    (h : ∀ x ∈ it.xs, ∀ a, ∃ e, g x (wipeM env vs) (s ++ [.lst a]) = .ok e (s ++ [.lst a]) ∧ mt e (s ++ [.lst a]) = .ok (b x) (s ++ [.lst a]) ∧ (b x = true → me e (s ++ [.lst a]) = .ok (v x) (s ++ [.lst a]))) (ho : ∀ a, it.ok (s ++ [.lst a])) (hl : it.xs.length ≤ line) (hf : ∀ x ∈ it.xs, Flat (v x)) :
    mLc true mi g mt me vs env s = .ok (.lst ((it.xs.filter b).map v)) s := by
  unfold mLc M.bnd
  rw [hi]
  simp only []
  rw [lcL_pure (b := b) (v := v) it.xs [] h ho (by simpa using hl)]
  have hm : ((it.xs.filter b).map v).mapM (frzM (s ++ [Cell.lst ([] ++ (it.xs.filter b).map v)]) s.length 40) = some ((it.xs.filter b).map v) := mapM_flat fun x hx => by
    obtain ⟨y, hy, rfl⟩ := List.mem_map.mp hx
    exact hf y (List.mem_filter.mp hy).1
  have h1 : (s ++ [Cell.lst ([] ++ (it.xs.filter b).map v)])[s.length]? = some (.lst ([] ++ (it.xs.filter b).map v)) := by simp
  have h2 : (s ++ [Cell.lst ([] ++ (it.xs.filter b).map v)]).take s.length = s := by simp
  simp only [if_true, h1, h2]
  rw [if_pos ⟨by simp, fun i c h hi => .inl (by rw [List.getElem?_append_left hi] at h; exact h)⟩]
  rw [List.nil_append] at hm ⊢
  rw [hm]
end Z

namespace Z
open PySem L2
/-! ### == of plain data, by an encoding -/
structure Enc {α : Type} (f : α → MV) (g : α → PyData) (ok : α → Prop) (n : Nat) : Prop where
  py : ∀ (s : Sto) (k : Nat) (a : α), n ≤ k → toPy s k (f a) = some (g a)
  lay : ∀ a, ok a → (g a).canLay0 = true
  dep : ∀ a, (g a).depth ≤ n
  eq : ∀ a b, PyData.eqv (g a) (g b) = true ↔ a = b
theorem enc_int : Enc (fun i : Int => .int i) (fun i => .int i) (fun _ => True) 1 where
  py s k a h := by cases k with | zero => omega | succ k => rfl
  lay a _ := rfl
  dep a := by simp [PyData.depth]
  eq a b := by simp [PyData.eqv]
theorem enc_str : Enc (fun i : Str => .str i) (fun i => .str i) (fun x => PyData.canLay0 (.str x) = true) 1 where
  py s k a h := by cases k with | zero => omega | succ k => rfl
  lay a h := h
  dep a := by simp [PyData.depth]
  eq a b := by simp [PyData.eqv]
section
variable {α : Type} {f : α → MV} {g : α → PyData} {ok : α → Prop} {n : Nat}
theorem Enc.mapM (E : Enc f g ok n) (s : Sto) (k : Nat) (h : n ≤ k) : ∀ xs : List α, (xs.map f).mapM (toPy s k) = some (xs.map g)
  | [] => rfl
  | x :: xs => by
    rw [List.map_cons, List.mapM_cons, E.py s k x h, E.mapM s k h xs]
    rfl
theorem Enc.layAll (E : Enc f g ok n) : ∀ xs : List α, (∀ x ∈ xs, ok x) → PyData.canLayAll0 (xs.map g) = true
  | [], _ => rfl
  | x :: xs, h => by
    show (PyData.canLay0 (g x) && PyData.canLayAll0 (xs.map g)) = true
    rw [E.lay x (h x List.mem_cons_self), E.layAll xs fun y hy => h y (List.mem_cons_of_mem _ hy)]
    rfl
theorem Enc.eqAll (E : Enc f g ok n) : ∀ xs ys : List α, PyData.eqvAll (xs.map g) (ys.map g) = true ↔ xs = ys
  | [], [] => by simp [PyData.eqvAll]
  | [], y :: ys => by simp [PyData.eqvAll]
  | x :: xs, [] => by simp [PyData.eqvAll]
  | x :: xs, y :: ys => by
    show (PyData.eqv (g x) (g y) && PyData.eqvAll (xs.map g) (ys.map g)) = true ↔ _
    rw [Bool.and_eq_true, E.eq x y, E.eqAll xs ys]
    simp
theorem Enc.depAll (E : Enc f g ok n) : ∀ xs : List α, PyData.depthAll (xs.map g) ≤ n
  | [] => Nat.zero_le _
  | x :: xs => by
    show max (PyData.depth (g x)) (PyData.depthAll (xs.map g)) ≤ n
    exact Nat.max_le.mpr ⟨E.dep x, E.depAll xs⟩
theorem Enc.lst (E : Enc f g ok n) : Enc (fun xs : List α => .lst (xs.map f)) (fun xs => .list (xs.map g)) (fun xs => ∀ x ∈ xs, ok x) (n + 1) where
  py s k a h := by
    obtain ⟨k, rfl⟩ : ∃ j, k = j + 1 := ⟨k - 1, by omega⟩
    show ((a.map f).mapM (toPy s k)).map PyData.list = _
    rw [E.mapM s k (by omega) a]; rfl
  lay a h := by simpa [PyData.canLay0] using E.layAll a h
  dep a := by
    have := E.depAll a
    simp only [PyData.depth]; omega
  eq a b := by simpa [PyData.eqv] using E.eqAll a b
theorem Enc.tup (E : Enc f g ok n) : Enc (fun xs : List α => .tup (xs.map f)) (fun xs => .tuple (xs.map g)) (fun xs => ∀ x ∈ xs, ok x) (n + 1) where
  py s k a h := by
    obtain ⟨k, rfl⟩ : ∃ j, k = j + 1 := ⟨k - 1, by omega⟩
    show ((a.map f).mapM (toPy s k)).map PyData.tuple = _
    rw [E.mapM s k (by omega) a]; rfl
  lay a h := by simpa [PyData.canLay0] using E.layAll a h
  dep a := by
    have := E.depAll a
    simp only [PyData.depth]; omega
  eq a b := by simpa [PyData.eqv] using E.eqAll a b
open Classical in
theorem Enc.deep (E : Enc f g ok n) (hn : n ≤ 30) {s : Sto} {x y : MV} {a b : α} (hx : toPy s 30 x = some (g a)) (hy : toPy s 30 y = some (g b)) (ha : ok a) (hb : ok b) : deepEq s x y = some (decide (a = b)) := by
  unfold deepEq
  rw [hx, hy]
  have sh : ∀ c, ok c → SeqAt.shaped (g c) = true := fun c hc => by
    have := E.dep c
    unfold SeqAt.shaped
    rw [E.lay c hc, Bool.true_and]
    exact decide_eq_true (by omega)
  simp only []
  rw [if_pos ⟨sh a ha, sh b hb⟩]
  by_cases h : a = b
  · rw [decide_eq_true h, (E.eq a b).mpr h]
  · rw [decide_eq_false h]
    cases e : PyData.eqv (g a) (g b) with
    | false => rfl
    | true => exact absurd ((E.eq a b).mp e) h
/-- a cell that holds such a list -/
theorem Enc.ref (E : Enc f g ok n) {s : Sto} {q k : Nat} {xs : List α} (h : s[q]? = some (.lst (xs.map f))) (hk : n + 1 ≤ k) : toPy s k (.ref q) = some (.list (xs.map g)) := by
  obtain ⟨k, rfl⟩ : ∃ j, k = j + 1 := ⟨k - 1, by omega⟩
  simp only [toPy, h]
  rw [E.mapM s k (by omega) xs]; rfl
end
end Z

namespace Z
open PySem L2
open PyProof.Rows hiding St
/-! ### C(k = v, ..) that may raise -/
theorem FunD.kbindsN {K : PySem.W.Frag} {x qual : Str} {params : Arguments} {body : List Stmt} {scope : Scope} {f : Addr} {fd : FuncData} {ps : List Str} (F : FunD K x qual params body scope [] [] f fd) (n : Nat) (ks : List Str) (g : {α : Type} → List α → List α → List α)
    (hrel : ∀ {vs zs : List V} {us ws : List Value}, Vals vs us → Vals zs ws → Vals (g vs zs) (g us ws))
    (h : ∀ (kV doc pm : Value) (an : Option Addr) (cdv ct : Value) (us ws : List Value), us.length = n → ws.length = ks.length → bindArgs (PySem.W.fnOf x qual params body scope .none kV doc pm an cdv ct) ⟨us, ks.zip ws⟩ = pure (ps.zip (g us ws))) :
    KBn K fd ps n ks (fun us ws => g us ws) (fun vs zs => g vs zs) := by
  obtain ⟨oc, od, dV, kV, doc, pm, an, cdv, ct, osl, rfl, lk, hcd, hD, hK⟩ := F.ex
  rcases hD with ⟨_, rfl⟩ | ⟨e, _⟩
  · exact ⟨fun s us ws X l1 l2 => .of_eq (h kV doc pm an cdv ct us ws l1 l2), fun r1 r2 => hrel r1 r2⟩
  · exact absurd rfl e
section
variable {X : Cx} {T : Tx} {W : WX} {bs : Ev → M (List MV)} {k n q c : Nat} {f C : Addr} {fd : FuncData} {ps ks : List Str} {init : MF} {x : Str} {pp pos : Pos} {kws : List Keyword} {g : List Value → List Value → List Value} {gV gA : List V → List V → List V} {gM : List MV → List MV → List MV} {sp : Sp} {E : XK}
theorem run_makeKS {pins : List (Addr × Obj)} {σ : St} {H : Hp} {s : Shared} {Q : VK} {us ws : List Value} {vs zs : List V} (M : Mk X.K C f) (F : FnOk X.prog X.w X.K X.mg X.base (L2.CX X.prog X.w) k f fd ps sp) (hr : Room (k + 1) X.A) (hb : KBn X.K fd ps (n + 1) ks g gV) (hx : PassesAt (L2.CX X.prog X.w) X σ E)
    (I : Inv X pins σ H s) (r : Vals vs us) (rz : Vals zs ws) (l1 : vs.length = n) (l2 : zs.length = ks.length)
    (h : ∀ x dx, H x = none → H dx = none → dx ≠ x → sp (gV (.ref x :: vs) zs) (upd (upd H dx (.own x)) x (.ins C dx [])) (fun v H2 => v = .non ∧ Q (.ref x) H2) E) :
    wpAny (model X.prog X.w) X.A (call (.ref C) us (ks.zip ws)) (EP X pins σ Q) X.xe s := by
  have hq := h (s.heap.objs.size + 1) s.heap.objs.size (I.hok.fresh (Nat.le_succ _)) (I.hok.fresh (Nat.le_refl _)) (Nat.ne_of_lt (Nat.lt_succ_self _))
  have I2 := Inv.made (C := C) I
  have r1 : Vals (V.ref (s.heap.objs.size + 1) :: vs) (Value.ref (s.heap.objs.size + 1) :: us) := .cons rfl r
  have r2 := hb.rel r1 rz
  have n1 : (Value.ref (s.heap.objs.size + 1) :: us).length = n + 1 := by rw [List.length_cons, ← r.length, l1]
  have n2 : ws.length = ks.length := by rw [← rz.length]; exact l2
  refine wpAny_call (make_map (f := f) I.kIn M.makes M.init (beq_iff_eq.mp M.fn) (codeAny_mono (F.run _ X.stack _ _ ⟨Value.ref (s.heap.objs.size + 1) :: us, ks.zip ws⟩ (g (Value.ref (s.heap.objs.size + 1) :: us) ws) _ _ E (hr.make C us (ks.zip ws)) (I2.env0.make C us (ks.zip ws)) (hb.to _ (Value.ref (s.heap.objs.size + 1) :: us) ws I2.kIn n1 n2) r2 hq) fun r s' hq' => ?_))
  cases r with
  | error e => exact hx pins _ _ e s' I2 hq'
  | ok fl => cases fl with
    | ret u =>
      obtain ⟨v, H', I3, rv, ev, q3⟩ := I2.after hq'
      subst ev
      exact ⟨rv, ⟨V.ref (s.heap.objs.size + 1), H', I3, rfl, q3⟩⟩
    | _ => exact False.elim hq'
theorem v_makeKX0 {mf : MF} (hmf : ∀ (ρ : List Addr) (st : Sto) (H : Hp) (ms : List MV) (Q : VK) (E : XK), Sim T ρ st H → OutF T ρ H (mf ms st) Q E → OutF T ρ H (newC c init ms st) Q E) (tk : Takes X W) (hc : T.has c = true) (M : Mk X.K (T.cls c) f) {p : Nat} (F : FnOk X.prog X.w X.K X.mg X.base (L2.CX X.prog X.w) k f fd ps (spM T p init)) (hr : Room (k + 1) X.A) (hm : X.mg x = some (.ref (T.cls c))) (hb : KBn X.K fd ps 1 ks g gV)
    (hgV : ∀ (x : V) zs, zs.length = ks.length → gV [x] zs = x :: gA [] zs) (hgr : ∀ {ρ : List Addr} {H : Hp} {ns : List MV} {zs : List V}, ns.length = ks.length → RVs T ρ H ns zs → RVs T ρ H (gM [] ns) (gA [] zs))
    (hgl : ∀ ns : List MV, ns.length = ks.length → (gM [] ns).length + 1 = p)
    (hkw : PK X kws (tA T W bs)) (hB : Len bs ks.length := by repeat first | exact len_nil | apply len_cons) (hg : Gl X x := by rfl) (hall : (backToKw pos (keywordEach kws X.env)).all (·.1.isSome) = true := by rfl) (hks : (backToKw pos (keywordEach kws X.env)).filterMap (·.1) = ks := by rfl)
    (hdb : (x == ("__debug__" : Str)) = false := by decide)
    (hpl : ((backTo pos (starEach [] X.env)).any (·.1) || (backToKw pos (keywordEach kws X.env)).any (·.1.isNone)) = false := by rfl) :
    PE X (.Call (.Name x pp) [] kws pos) (tE T W (mCall (fun ms => mf (gM [] ms)) bs)) := by
  refine ⟨fun pins s σ H Q I ⟨ρ, st, env, S, E, hh⟩ => ?_⟩
  refine wpAny_Call_Name_kw (ld_glob I hg hm ?_ hdb)
  refine PySem.W.callWith_KW0 (h₀ := X.base) I.ok.mod.kin M.kp hall ?_ hpl
  have t2 : tA T W bs σ H fun us H1 => ∃ ρ1 s1 ms, Fut T ρ H ρ1 s1 H1 ∧ RVs T ρ1 H1 ms us ∧ ms.length = ks.length ∧ OutF T ρ1 H1 (mf (gM [] ms) s1) Q (WE W σ) := ⟨ρ, st, env, S, E, args_red (mf := fun ms => mf (gM [] ms)) hB hh⟩
  refine thn (hkw.run pos pins s σ H _ I t2) fun ws s2 ⟨zs, H2, I2, rz, ρ1, st1, ms, F1, rm, hl, q⟩ => ⟨I2.kIn, ?_⟩
  rw [hks]
  have hz : zs.length = ks.length := by rw [← hl]; exact rm.length.symm
  refine run_makeKS (us := []) (vs := []) (n := 0) M F hr hb (passAt tk σ) I2 .nil rz rfl hz fun y dx h1 h2 h3 => ?_
  rw [hgV _ _ hz]
  exact new_red hc F1.sim (hgr hl rm) (hmf ρ1 st1 H2 _ _ _ F1.sim q) (hgl ms hl) y dx h1 h2 h3
end
end Z

namespace Z
open PySem L2 PySem.Calls
open PyProof.Rows hiding St
/-! ### t[::-1] of a tuple -/
section
variable {prog : Program} {w : World} {A : Around} {E : Value → Shared → Prop} {s : Shared}
theorem adjust_rev (n : Nat) : Builtin.Slice.sliceAdjust none none (-1) (n : Int) = ((n : Int) - 1, -1) := rfl
theorem places_rev (n : Nat) : Builtin.Slice.slicePlaces ((n : Int) - 1) (-1) (-1) = n := by
  unfold Builtin.Slice.slicePlaces
  have h1 : ¬ ((-1 : Int) > 0) := by omega
  simp only [h1, if_false]
  split
  · have : ((n : Int) - 1 - -1 - 1) / (- -1) + 1 = n := by
      rw [show (- -1 : Int) = 1 by decide, Int.ediv_one]; omega
    rw [this]; omega
  · omega
theorem pick_rev (xs : Array Value) : ((List.range xs.size).filterMap fun (m : Nat) => xs[(((xs.size : Int) - 1) + (m : Int) * -1).toNat]?).toArray = xs.toList.reverse.toArray := by
  have e : (List.range xs.size).filterMap (fun (m : Nat) => xs[(((xs.size : Int) - 1) + (m : Int) * -1).toNat]?) = (List.range xs.size).filterMap fun m => xs[xs.size - 1 - m]? := by
    have key : ∀ l : List Nat, (∀ m ∈ l, m < xs.size) → l.filterMap (fun (m : Nat) => xs[(((xs.size : Int) - 1) + (m : Int) * -1).toNat]?) = l.filterMap fun m => xs[xs.size - 1 - m]? := by
      intro l
      induction l with
      | nil => intro _; rfl
      | cons m l ih =>
        intro h
        have hm := h m List.mem_cons_self
        have e2 : (((xs.size : Int) - 1) + (m : Int) * -1).toNat = xs.size - 1 - m := by omega
        rw [List.filterMap_cons, List.filterMap_cons, e2, ih fun k hk => h k (List.mem_cons_of_mem _ hk)]
    exact key _ fun m hm => List.mem_range.mp hm
  rw [e]
  have e3 : (fun m => xs[xs.size - 1 - m]?) = (fun x => xs[x]?) ∘ fun k => xs.size - 1 - k := rfl
  rw [e3, ← List.filterMap_map, PySem.W.krv_range, List.filterMap_reverse, PySem.W.krv_all]
theorem sliceApplied_rev {sl : Addr} {vk : Value} {n : Nat} {Q : Int × Int × Nat → Shared → Prop} (hs : ∃ o, s.heap.get? sl = some o ∧ o.cls = .type "slice" ∧ o.data = .fields #[.none, .none, vk]) (pk : IsPart vk (some (-1)))
    (h : Q ((n : Int) - 1, -1, n) s) : wpAny (model prog w) A (Builtin.Slice.sliceApplied (.ref sl) (pure (n : Int))) Q E s := by
  obtain ⟨os, hos, hcs, hds⟩ := hs
  unfold Builtin.Slice.sliceApplied Builtin.Slice.sliceFields
  refine wpAny_bind (wpAny_bind (wpAny_field hos hds (x := .none) rfl (wpAny_bind (wpAny_field hos hds (x := .none) rfl (wpAny_bind (wpAny_field hos hds (x := vk) rfl (wpAny_pure ?_)))))))
  refine wpAny_bind (HT.slicePart_ pk ?_)
  show wpAny _ _ (if ((-1 : Int) == 0) = true then _ else _) _ _ s
  rw [if_neg (by decide)]
  refine wpAny_bind (slicePart_none (wpAny_bind (slicePart_none (wpAny_bind (wpAny_pure ?_)))))
  show wpAny _ _ (match Builtin.Slice.sliceAdjust none none (-1) (n : Int) with | (lo, hi) => pure (lo, (-1 : Int), Builtin.Slice.slicePlaces lo hi (-1))) _ _ s
  rw [adjust_rev n]
  show wpAny _ _ (pure ((n : Int) - 1, (-1 : Int), Builtin.Slice.slicePlaces ((n : Int) - 1) (-1) (-1))) _ _ s
  rw [places_rev]
  exact wpAny_pure h
theorem getItem_tuple_rev {t sl : Addr} {items : Array Value} {vk : Value} {Q : Value → Shared → Prop} (ht : IsTup s.heap t items) (hs : ∃ o, s.heap.get? sl = some o ∧ o.cls = .type "slice" ∧ o.data = .fields #[.none, .none, vk]) (pk : IsPart vk (some (-1)))
    (h : Q (.ref s.heap.objs.size) { s with heap := s.heap.push { cls := .type "tuple", data := .seq items.toList.reverse.toArray } })
    (hsz : items.size ≤ sizeLine) : wpAny (model prog w) A (getItem (.ref t) (.ref sl)) Q E s := by
  have htake : sizeOk (.seq items.toList.reverse.toArray) := by
    show items.toList.reverse.toArray.size ≤ sizeLine
    rw [List.size_toArray, List.length_reverse, Array.length_toList]
    exact hsz
  obtain ⟨os, hos, hcs, hds⟩ := id hs
  have hTs : s.TypeIs (.ref sl) "slice" := ⟨os, hos, hcs⟩
  unfold getItem
  try with_reducible refine wpAny_holding ?_
  first | refine wpAny_bind (wpAny_pure ?_) | skip
  refine wpAny_bind (wpAny_sequenceKey ht.typeIs (by decide) ?_)
  refine wpAny_bind (wpAny_callSpecial?_slot (name := Str.ofString "__getitem__") ht.typeIs PyProof.Rows.slot_tuple_getitem
    (wpAny_call_entry PyProof.Rows.slot_tuple_getitem ht.typeIs entry_tuple_getitem ?_ (args_tuple_getitem _ _)))
  show wpAny _ _ (Builtin.Tuple.tupleItemsOf (.ref t) >>= _) _ _ s
  refine wpAny_bind (tupleItemsOf_ ht ?_)
  refine wpAny_bind (wpAny_typeOf hTs ?_)
  rw [if_pos (by decide)]
  refine wpAny_bind (sliceApplied_rev hs pk ?_)
  show wpAny _ _ (if (((items.size : Int) - 1) == 0 && (-1 : Int) == 1 && items.size == items.size) = true then _ else _) _ _ s
  rw [if_neg (by simp), pick_rev]
  first
    | exact wpAny_bind (m := Builtin.Tuple.tupleExact _) (wpAny_newObj_type (wpAny_pure ⟨_, rfl, wpAny_pure h⟩) htake)
    | exact wpAny_bind (m := Builtin.Tuple.tupleExact _) (wpAny_newObj_type (wpAny_bind (wpAny_pure (wpAny_pure ⟨_, rfl, wpAny_pure h⟩))) htake)
    | exact wpAny_bind (wpAny_bind (m := Builtin.Tuple.tupleExact _) (wpAny_newObj_type (wpAny_pure (wpAny_pure ⟨_, rfl, wpAny_pure h⟩)) htake))
    | exact wpAny_bind (wpAny_bind (m := Builtin.Tuple.tupleExact _) (wpAny_newObj_type (wpAny_pure ⟨_, rfl, wpAny_pure h⟩) htake))
end
def revF (x k : MV) : M MV := fun s => match x, k with
  | .tup xs, .int i => if i = -1 then .ok (.tup xs.reverse) s else .bad
  | _, _ => .bad
def mRev (ma mk : Ev → M MV) : Ev → M MV := fun env => M.bnd (ma env) fun x => M.bnd (mk env) fun k => revF x k
theorem rvs_revT {T : Tx} {ρ : List Addr} {H : Hp} {ms : List MV} {vs : List V} (h : RVs T ρ H ms vs) : RVs T ρ H ms.reverse vs.reverse := rvs_rev h
theorem vals_revT {vs : List V} {us : List Value} (h : Vals vs us) : Vals vs.reverse us.reverse := vals_rev h
section
variable {X : Cx} {T : Tx} {W : WX} {ma mk : Ev → M MV} {e ek : Expr} {p2 pos : Pos}
theorem v_rev (hK : T.K = X.K) (ha : PE X e (tE T W ma)) (hk : PE X ek (tE T W mk)) (hek : evalPart (some ek) X.env = eval ek X.env := by rfl) (hsub : ∀ p q : Addr, subscripted (.Slice none none (some ek) p2) false (.ref p) (.ref q) = operate [.ref p, .ref q] (getItem (.ref p) (.ref q)) := by intro _ _; with_unfolding_all rfl) : PE X (.Subscript e (.Slice none none (some ek) p2) pos) (tE T W (mRev ma mk)) := by
  refine ⟨fun pins s σ H Q I ⟨ρ, st, env, S, EE, h⟩ => ?_⟩
  have t1 : tE T W ma σ H fun x H1 => ∃ ρ1 s1 a, Fut T ρ H ρ1 s1 H1 ∧ RV T ρ1 H1 a x ∧ Out T W (RV T) ρ1 H1 σ (M.bnd (mk env) (fun k => revF a k) s1) Q := ⟨ρ, st, env, S, EE, h.bnd⟩
  refine Subscript_ (thn (ha.run pins s σ H _ I t1) fun v s1 ⟨x, H1, I1, r1, ρ1, st1, a, F1, ra, q1⟩ => ?_)
  have t2 : tE T W mk σ H1 fun k H2 => ∃ ρ2 s2 b, Fut T ρ1 H1 ρ2 s2 H2 ∧ RV T ρ2 H2 b k ∧ Out T W (RV T) ρ2 H2 σ (revF a b s2) Q := ⟨ρ1, st1, env, F1.sim, EE.later F1.lat, Out.bnd q1⟩
  refine wpAny_Slice ?_
  rw [evalPart_none]
  refine wpAny_pure ?_
  refine wpAny_pure ?_
  rw [hek]
  refine thn (hk.run pins s1 σ H1 _ I1 t2) fun kv s2 ⟨k, H2, I2, rk, ρ2, st2, b, F2, rb, q2⟩ => ?_
  have ra2 := ra.later F2.lat
  unfold revF at q2
  cases a with
  | tup xs =>
    cases b with
    | int i =>
      simp only at q2
      by_cases hi : i = -1
      · subst hi
        rw [if_pos rfl] at q2
        cases rb
        have hpk : IsPart kv (some (-1)) := by
          obtain ⟨tk, rfl⟩ := rk
          exact IsPart.int _ _
        obtain ⟨p, ys, rfl, z, r⟩ := ra2
        cases r1
        have I4 : Inv X pins σ H2 { s2 with heap := s2.heap.push { cls := .type "slice", data := .fields #[.none, .none, kv] } } := I2.kept (t' := s2.toks) fun b ob q => Heap.get?_push_of_some _ q
        show wpAny (model X.prog X.w) X.A (subscriptTail e (.Slice none none (some ek) p2) (.ref p) (.ref s2.heap.objs.size)) (EP X pins σ Q) X.xe { s2 with heap := s2.heap.push { cls := .type "slice", data := .fields #[.none, .none, kv] } }
        obtain ⟨its, ri, ht, hz⟩ := I4.tuple (hK ▸ z.sq)
        have hlen : its.toArray.size = ys.length := by rw [List.size_toArray]; exact ri.length.symm
        refine tail_any (ops := [.ref p, .ref s2.heap.objs.size]) ht.typeIs PyProof.Rows.slot_tuple_getitem.lookup ?_ (hsub _ _)
        refine getItem_tuple_rev ht (Heap.IsSliceOf.new _ _ _ _) hpk ?_ (by rw [hlen]; exact hz)
        refine ⟨.ref _, _, I4.laid (t' := s2.toks) (o := .tup ys.reverse) (fun b ob q => Heap.get?_push_of_some _ q) (Nat.le_refl _) ?_, rfl, tup_out (W := W) (σ := σ) F2.sim q2 (rvs_revT r) _ (I4.hok.fresh (Nat.le_refl _))⟩
        exact ⟨by rw [List.length_reverse]; exact hz, _, vals_revT ri, IsTup.new _ _⟩
      · rw [if_neg hi] at q2; exact q2.elim
    | _ => exact q2.elim
  | _ => exact q2.elim
end
end Z

namespace Z
open PySem L2
/-! x.split(sep) -/
def fSplit (fr : Bool) (x : MV) (as : List MV) : M MV := match x, as with
  | .str a, [.str b] => if (b.length == 0) = false ∧ a.length + 2 ≤ line then mkList fr ((Txt.split a b).map .str) else fun _ => .bad
  | _, _ => fun _ => .bad
section
variable {X : Cx} {T : Tx}
theorem ok_split (fr : Bool) : MtR X "str.split" (rMB T (fSplit fr)) := by
  intro pins s σ H x vs v us Q I rx rv ⟨W, σ', ρ, st, a, ms, S, ra, rm, h⟩
  unfold fSplit at h
  split at h
  · rename_i z y
    split at h
    · rename_i hl
      cases ra
      obtain ⟨w, rfl, ry⟩ := rvs1 rm
      cases ry
      exact mt_split pins s σ H _ _ v us Q I rx rv ⟨z, y, rfl, rfl, hl.1, Nat.le_trans hl.2 (by decide), mk_out S h (strs_rvs _)⟩
    · exact h.elim
  · exact h.elim
/-! x + y of lists, a list that is changed later -/
def catC (x y : MV) : M MV := fun s => match listOf s x, listOf s y with
  | some xs, some ys => if xs.length + ys.length ≤ line then .ok (.ref s.length) (s ++ [.lst (xs ++ ys)]) else .bad
  | _, _ => .bad
theorem om_catC {W : WX} : OpM X T W (binaryOp .Add) catC := fun pins s σ H x y v u Q ρ st a b I rx ry S ra rb q => by
  unfold catC at q
  split at q
  · rename_i xs ys h1 h2
    split at q
    · rename_i hl
      obtain ⟨p1, vs, rfl, e1, r1⟩ := list_of S ra h1
      obtain ⟨p2, us, rfl, e2, r2⟩ := list_of S rb h2
      refine op_cat pins s σ H _ _ v u Q I rx ry ⟨p1, p2, vs, us, rfl, rfl, e1, e2, by rw [← r1.length, ← r2.length]; exact line_le hl, fun p hp => ?_⟩
      have F := S.push (c := .lst (xs ++ ys)) (o := .lst (vs ++ us)) hp fun ρ' H' L => ⟨vs ++ us, rfl, (r1.append r2).later L⟩
      refine q _ _ _ F ⟨p, ?_, rfl⟩
      rw [← S.len]; simp
    · exact q.elim
  · exact q.elim
/-! int(text) -/
def fIntT (_ : Sto) : List MV → Option MV
  | [.str a] => if a.length ≤ 640 then (PySem.intText? a).map .int else none
  | _ => none
theorem ok_intT : CallR X (.type "int") (rF T fIntT) := by
  intro pins s σ H xs us Q I r ⟨ρ, st, ms, v, S, rm, e, q⟩
  unfold fIntT at e
  split at e
  · rename_i a
    split at e
    · rename_i hl
      obtain ⟨n, h1, rfl⟩ := Option.map_eq_some_iff.mp e
      obtain ⟨w, rfl, r1⟩ := rvs1 rm
      cases r1
      exact call_int_str pins s σ H _ us Q I r ⟨_, n, rfl, h1, hl, q H _ (Fut.refl S) rfl⟩
    · cases e
  · cases e
end
/-! index of a tuple of texts that stands in the module -/
def cGtupN (x : Str) (ys : List Str) : Fc := fun K => match K.lookup (He.ga K x) with
  | some ⟨.type c, none, .seq its _, _⟩ => isV (PySem.W.nsIn K mainGlobals x) (.ref (He.ga K x)) && decide (c = "tuple") && decide (its.size ≤ 1000) && He.relAll (ys.map V.str) its.toList
  | _ => false
structure GIdx (X : Cx) (x : Str) (ys : List Str) : Prop where
  ex : ∃ a o, X.mg x = some (.ref a) ∧ X.K.lookup a = some o ∧ o.cls = .type "tuple" ∧ o.dict = none ∧ ∀ H : Hp, SqT X.K H a (ys.map V.str)
section
variable {fs : List Fc} {fn : List He.DefD} {K : PySem.W.Frag} {mg : Str → Option Value} {x : Str}
theorem TxtZ.gidx (T : TxtZ fs fn K mg) {ys : List Str} (k : Nat) (h : fs[k]? = some (cGtupN x ys) := by rfl) : ∀ X : Cx, X.K = K → X.mg = mg → GIdx X x ys := by
  have c := T.c.fc k h
  unfold cGtupN at c
  split at c
  · rename_i cl its n sl e
    obtain ⟨c, h4⟩ := and2 c
    obtain ⟨c, h3⟩ := and2 c
    obtain ⟨h1, h2⟩ := and2 c
    have hc := of_decide_eq_true h2
    subst hc
    rintro X rfl rfl
    exact ⟨_, _, T.g _ _ (isV_ok h1), e, rfl, rfl, fun H => .inr ⟨⟨.type "tuple", none, .seq its n, sl⟩, its, n, e, rfl, rfl, Nat.le_trans (of_decide_eq_true h3) (by decide), He.relAll_ok h4⟩⟩
  · cases c
end
def gIdx (ys : List Str) (v : MV) : M MV := fun s => match v with
  | .str z => match ys.findIdx? (· == z) with
    | some j => .ok (.int (j : Nat)) s
    | none => .bad
  | _ => .bad
def mGidx (ys : List Str) (as : Ev → M (List MV)) : Ev → M MV := fun env => M.bnd (as env) fun vs => match vs with
  | [v] => gIdx ys v
  | _ => fun _ => .bad
section
variable {X : Cx} {T : Tx} {W : WX} {as : Ev → M (List MV)} {x : Str} {ys : List Str} {e : Expr} {p1 apos cpos : Pos}
theorem v_gidx (h : GIdx X x ys) (ha : PA X [e] (tA T W as)) (hg : Gl X x := by rfl) (hd : (x == ("__debug__" : Str)) = false := by decide)
    (hbase : attributeBase (.Name x p1) "index" X.env (eval (.Name x p1) X.env) = eval (.Name x p1) X.env := by rfl)
    (hfew : ((backTo cpos (starEach [e] X.env)).all (fun x => !x.1) && (backToKw cpos (keywordEach [] X.env)).all (fun x => x.1.isSome)
      && decide (([e] : List Expr).length + ([] : List Keyword).length + (if ([] : List Keyword).isEmpty then 0 else 1) < 30)) = true := by rfl)
    (hline : (apos.endLine == cpos.line) = true := by rfl) (hs : starEach [e] X.env = (false, eval e X.env) :: starEach [] X.env := by rfl) (hplain : (backTo cpos (starEach [] X.env)).any (·.1) = false := by rfl) :
    PE X (.Call (.Attribute (.Name x p1) "index" apos) [e] [] cpos) (tE T W (mGidx ys as)) := by
  obtain ⟨a, o, h1, h2, h3, h4, h5⟩ := h
  refine pe_mono (pe_bm PySem.F.plainAttrs_tuple PySem.F.slot_tuple_index PySem.F.type_tuple_index mt_tup_index (pe_glob (v := .ref a) hg h1 rfl hd) ha hbase hfew hline hs hplain) fun σ H Q h => ?_
  obtain ⟨ρ, st, env, S, E, h⟩ := h
  refine ⟨.inr (.inl ⟨rfl, o, h2, h3, h4⟩), ρ, st, env, S, E, (Out.bnd h).imp fun vs H1 ⟨ρ1, s1, m, F1, r1, q1⟩ => ?_⟩
  match m, r1, q1 with
  | [v], r1, q1 =>
    obtain ⟨w, rfl, ry⟩ := rvs1 r1
    cases v with
    | str z =>
      cases ry
      cases ej : ys.findIdx? (· == z) with
      | none => simp only [gIdx, ej] at q1; exact q1.elim
      | some j =>
        simp only [gIdx, ej] at q1
        obtain ⟨hj, hz, hlt⟩ := List.findIdx?_eq_some_iff_getElem.mp ej
        refine ⟨a, ys, z, j, rfl, rfl, h5 H1, ?_, fun k hk e => ?_, q1 ρ1 H1 _ (Fut.refl F1.sim) rfl⟩
        · rw [List.getElem?_eq_getElem hj]
          congr 1
          simpa using hz
        · have := hlt k hk
          obtain ⟨hk2, e2⟩ := List.getElem?_eq_some_iff.mp e
          rw [e2] at this
          simp at this
    | _ => exact q1.elim
  | [], _, q1 => exact q1.elim
  | _ :: _ :: _, _, q1 => exact q1.elim
end
end Z

namespace Z
open PySem L2
/-! ### what is wanted of an answer -/
abbrev RQ (α : Type) (_ : α → Sto → Prop) (_ : Nat → List (Nat × MV) → Sto → Prop) : Type := R α
def Wp {α : Type} (Q : α → Sto → Prop) (X : Nat → List (Nat × MV) → Sto → Prop) (r : RQ α Q X) : Prop := match r with
  | .ok a s => Q a s
  | .ex c fs s => X c fs s
  | .bad => False
structure Po where
  n : Ev → Sto → Prop
  r : MV → Sto → Prop
  b : Ev → Sto → Prop
  c : Ev → Sto → Prop
  x : Ev → Nat → List (Nat × MV) → Sto → Prop
/-- what is wanted behind the first of two -/
def Po.thn (P : Po) (k : Ev → Sto → Prop) : Po := ⟨k, P.r, P.b, P.c, P.x⟩
def Po.hnd (P : Po) (k : Ev → Nat → List (Nat × MV) → Sto → Prop) : Po := ⟨P.n, P.r, P.b, P.c, k⟩
/-- .. behind a turn -/
def Po.turn (P : Po) (k : Ev → Sto → Prop) : Po := ⟨k, P.r, P.n, k, P.x⟩
/-- .. behind a body -/
def Po.fn (Q : MV → Sto → Prop) (X : Nat → List (Nat × MV) → Sto → Prop) : Po := ⟨fun _ t => Q .non t, Q, fun _ _ => False, fun _ _ => False, fun _ c fs t => X c fs t⟩
section
variable {P : Po} {k : Ev → Sto → Prop} {kx : Ev → Nat → List (Nat × MV) → Sto → Prop} {Q : MV → Sto → Prop} {X : Nat → List (Nat × MV) → Sto → Prop} {e : Ev} {s : Sto} {v : MV} {c : Nat} {fs : List (Nat × MV)}
@[simp ↓] theorem thn_n : (P.thn k).n e s = k e s := rfl
@[simp ↓] theorem thn_r : (P.thn k).r v s = P.r v s := rfl
@[simp ↓] theorem thn_b : (P.thn k).b e s = P.b e s := rfl
@[simp ↓] theorem thn_c : (P.thn k).c e s = P.c e s := rfl
@[simp ↓] theorem thn_x : (P.thn k).x e c fs s = P.x e c fs s := rfl
@[simp ↓] theorem turn_n : (P.turn k).n e s = k e s := rfl
@[simp ↓] theorem turn_r : (P.turn k).r v s = P.r v s := rfl
@[simp ↓] theorem turn_b : (P.turn k).b e s = P.n e s := rfl
@[simp ↓] theorem turn_c : (P.turn k).c e s = k e s := rfl
@[simp ↓] theorem turn_x : (P.turn k).x e c fs s = P.x e c fs s := rfl
@[simp ↓] theorem hnd_n : (P.hnd kx).n e s = P.n e s := rfl
@[simp ↓] theorem hnd_r : (P.hnd kx).r v s = P.r v s := rfl
@[simp ↓] theorem hnd_b : (P.hnd kx).b e s = P.b e s := rfl
@[simp ↓] theorem hnd_c : (P.hnd kx).c e s = P.c e s := rfl
@[simp ↓] theorem hnd_x : (P.hnd kx).x e c fs s = kx e c fs s := rfl
@[simp ↓] theorem fn_n : (Po.fn Q X).n e s = Q .non s := rfl
@[simp ↓] theorem fn_r : (Po.fn Q X).r v s = Q v s := rfl
@[simp ↓] theorem fn_b : (Po.fn Q X).b e s = False := rfl
@[simp ↓] theorem fn_c : (Po.fn Q X).c e s = False := rfl
@[simp ↓] theorem fn_x : (Po.fn Q X).x e c fs s = X c fs s := rfl
end
abbrev FlP (_ : Po) : Type := Fl
def WpS (P : Po) (f : FlP P) : Prop := match f with
  | .nx e s => P.n e s
  | .rt v s => P.r v s
  | .bk e s => P.b e s
  | .ct e s => P.c e s
  | .ex e c fs s => P.x e c fs s
  | .bad => False
abbrev OQ (α : Type) (_ : α → Prop) : Type := Option α
def WpO {α : Type} (Q : α → Prop) (o : OQ α Q) : Prop := match o with
  | some a => Q a
  | none => False
abbrev EvK (_ : Ev → Prop) : Type := Ev
abbrev UnD (_ : Prop) : Type := Unit
/-- what is not to be looked into -/
def Seal (p : Prop) (_ : UnD p) : Prop := p
theorem sl {p : Prop} {u : Unit} (h : p) : Seal p u := h
def twoOf : List MV → Option (MV × MV)
  | [v, w] => some (v, w)
  | _ => none
@[simp] theorem twoOf_2 (v w : MV) : twoOf [v, w] = some (v, w) := rfl
/-- a name's value -/
def evG : Ev → Nat → Option MV
  | [], _ => none
  | x :: _, 0 => x
  | _ :: e, n + 1 => evG e n
@[simp] theorem evG_0 (x : Option MV) (e : Ev) : evG (x :: e) 0 = x := rfl
@[simp] theorem evG_s (x : Option MV) (e : Ev) (n : Nat) : evG (x :: e) (n + 1) = evG e n := rfl
theorem evG_eq : ∀ (e : Ev) (n : Nat), e.getD n none = evG e n
  | [], _ => rfl
  | x :: _, 0 => rfl
  | _ :: e, n + 1 => evG_eq e n
/-- the names are reckoned first -/
def Nf (k : Ev → Prop) (e : EvK k) : Prop := k e
@[simp] theorem Nf_eq (k : Ev → Prop) (e : Ev) : Nf k e = k e := rfl
abbrev noX : Nat → List (Nat × MV) → Sto → Prop := fun _ _ _ => False
section
variable {α β : Type} {env : Ev} {s : Sto} {Q : α → Sto → Prop} {X : Nat → List (Nat × MV) → Sto → Prop} {P : Po}
@[simp] theorem wp_ok (a : α) : Wp Q X (.ok a s) = Q a s := rfl
@[simp] theorem wp_bad : Wp Q X (.bad : R α) = False := rfl
@[simp] theorem wp_ex (c : Nat) (fs : List (Nat × MV)) : Wp Q X (.ex c fs s : R α) = X c fs s := rfl
@[simp] theorem wpO_some {Q : α → Prop} (a : α) : WpO Q (some a) = Q a := rfl
@[simp] theorem wpO_none {Q : α → Prop} : WpO Q (none : Option α) = False := rfl
@[simp] theorem wps_nx (e : Ev) : WpS P (.nx e s) = P.n e s := rfl
@[simp] theorem wps_rt (v : MV) : WpS P (.rt v s) = P.r v s := rfl
@[simp] theorem wps_bk (e : Ev) : WpS P (.bk e s) = P.b e s := rfl
@[simp] theorem wps_ct (e : Ev) : WpS P (.ct e s) = P.c e s := rfl
@[simp] theorem wps_bad : WpS P .bad = False := rfl
@[simp] theorem wps_ex (e : Ev) (c : Nat) (fs : List (Nat × MV)) : WpS P (.ex e c fs s) = P.x e c fs s := rfl
theorem wp_bnd {m : M β} {f : β → M α} : Wp Q X (M.bnd m f s) = Wp (fun a t => Wp Q X (f a t)) X (m s) := by
  unfold M.bnd
  cases m s <;> rfl
theorem wp_opt {o : Option α} : Wp Q X (M.opt o s) = WpO (fun a => Q a s) o := by
  cases o <;> rfl
@[simp ↓] theorem wp_mopt {o : Option α} : Wp Q X (M.opt o s) = WpO (fun a => Q a s) o := wp_opt
@[simp ↓] theorem wp_ret {a : α} : Wp Q X (M.ret a s) = Q a s := rfl
theorem wpS_bnd {m : M α} {f : α → Sto → Fl} : WpS P (bndS m env f s) = Wp (fun a t => WpS P (f a t)) (fun c fs t => P.x env c fs t) (m s) := by
  unfold bndS
  cases m s <;> rfl
theorem wp_if {c : Prop} [Decidable c] {a b : R α} : Wp Q X (if c then a else b) = ((c → Wp Q X a) ∧ (¬c → Wp Q X b)) := by
  by_cases h : c <;> simp [h]
theorem wpS_if {c : Prop} [Decidable c] {a b : Fl} : WpS P (if c then a else b) = ((c → WpS P a) ∧ (¬c → WpS P b)) := by
  by_cases h : c <;> simp [h]
theorem wp_iff {k : Bool} {a b : R α} : Wp Q X (if k = true then a else b) = ((k = true → Wp Q X a) ∧ (k = false → Wp Q X b)) := by
  cases k <;> simp
theorem wpS_iff {k : Bool} {a b : Fl} : WpS P (if k = true then a else b) = ((k = true → WpS P a) ∧ (k = false → WpS P b)) := by
  cases k <;> simp
end
section
variable {env : Ev} {s : Sto} {Q : MV → Sto → Prop} {QB : Bool → Sto → Prop} {QL : List MV → Sto → Prop} {QO : Option Int → Sto → Prop} {QI : IT → Sto → Prop} {QE : Ev → Sto → Prop} {X : Nat → List (Nat × MV) → Sto → Prop} {P : Po}
@[simp ↓] theorem wp_mVar (i : Nat) : Wp Q X (mVar i env s) = WpO (fun v => v ≠ .exc ∧ Q v s) (evG env i) := by
  rw [← evG_eq]
  unfold mVar
  cases env.getD i none with
  | none => rfl
  | some v => cases v <;> simp [Wp]
@[simp ↓] theorem wp_mC (v : MV) : Wp Q X (mC v env s) = Q v s := rfl
@[simp ↓] theorem wp_mBin (f : Sto → MV → MV → Option MV) (ma mb : Ev → M MV) : Wp Q X (mBin f ma mb env s) = Wp (fun x t => Wp (fun y u => WpO (fun v => Q v u) (f u x y)) X (mb env t)) X (ma env s) := by
  unfold mBin; rw [wp_bnd]; congr 1; funext x t; rw [wp_bnd]; congr 1; funext y u; exact wp_opt
@[simp ↓] theorem wp_mUn (f : Sto → MV → Option MV) (ma : Ev → M MV) : Wp Q X (mUn f ma env s) = Wp (fun x t => WpO (fun v => Q v t) (f t x)) X (ma env s) := by
  unfold mUn; rw [wp_bnd]; congr 1; funext x t; exact wp_opt
@[simp ↓] theorem wp_mCmp (f : Sto → MV → MV → Option Bool) (ma mb : Ev → M MV) : Wp QB X (mCmp f ma mb env s) = Wp (fun x t => Wp (fun y u => WpO (fun v => QB v u) (f u x y)) X (mb env t)) X (ma env s) := by
  unfold mCmp; rw [wp_bnd]; congr 1; funext x t; rw [wp_bnd]; congr 1; funext y u; exact wp_opt
@[simp ↓] theorem wp_mV (m : Ev → M Bool) : Wp Q X (mV m env s) = Wp (fun b t => Q (.bl b) t) X (m env s) := by
  unfold mV; rw [wp_bnd]; rfl
@[simp ↓] theorem wp_mAnd (m m' : Ev → M Bool) : Wp QB X (mAnd m m' env s) = Wp (fun k t => (k = true → Wp QB X (m' env t)) ∧ (k = false → QB false t)) X (m env s) := by
  show Wp QB X (M.bnd _ _ _) = _
  rw [wp_bnd]
  congr 1; funext k t
  cases k <;> simp
@[simp ↓] theorem wp_mOr (m m' : Ev → M Bool) : Wp QB X (mOr m m' env s) = Wp (fun k t => (k = true → QB true t) ∧ (k = false → Wp QB X (m' env t))) X (m env s) := by
  show Wp QB X (M.bnd _ _ _) = _
  rw [wp_bnd]
  congr 1; funext k t
  cases k <;> simp
@[simp ↓] theorem wp_mNot (m : Ev → M Bool) : Wp QB X (mNot m env s) = Wp (fun k t => QB (!k) t) X (m env s) := by
  unfold mNot; rw [wp_bnd]; rfl
@[simp ↓] theorem wp_mTru (ma : Ev → M MV) : Wp QB X (mTru ma env s) = Wp (fun x t => WpO (fun k => QB k t) (truOf t x)) X (ma env s) := by
  unfold mTru; rw [wp_bnd]; congr 1; funext x t; exact wp_opt
@[simp ↓] theorem wp_mAndV (ma mb : Ev → M MV) : Wp Q X (mAndV ma mb env s) = Wp (fun x t => ∃ k, x = .bl k ∧ (k = true → Wp Q X (mb env t)) ∧ (k = false → Q (.bl false) t)) X (ma env s) := by
  show Wp Q X (M.bnd _ _ _) = _
  rw [wp_bnd]
  congr 1; funext x t
  cases x with
  | bl b => cases b <;> simp
  | _ => simp
@[simp ↓] theorem wp_mOrV (ma mb : Ev → M MV) : Wp Q X (mOrV ma mb env s) = Wp (fun x t => ∃ k, x = .bl k ∧ (k = true → Q (.bl true) t) ∧ (k = false → Wp Q X (mb env t))) X (ma env s) := by
  show Wp Q X (M.bnd _ _ _) = _
  rw [wp_bnd]
  congr 1; funext x t
  cases x with
  | bl b => cases b <;> simp
  | _ => simp
@[simp ↓] theorem wp_mNotV (ma : Ev → M MV) : Wp Q X (mNotV ma env s) = Wp (fun x t => ∃ k, x = .bl k ∧ Q (.bl !k) t) X (ma env s) := by
  show Wp Q X (M.bnd _ _ _) = _
  rw [wp_bnd]
  congr 1; funext x t
  cases x with
  | bl b => cases b <;> simp
  | _ => simp
@[simp ↓] theorem wp_mIte (m : Ev → M Bool) (ma mb : Ev → M MV) : Wp Q X (mIte m ma mb env s) = Wp (fun k t => (k = true → Wp Q X (ma env t)) ∧ (k = false → Wp Q X (mb env t))) X (m env s) := by
  show Wp Q X (M.bnd _ _ _) = _
  rw [wp_bnd]
  congr 1; funext k t
  cases k <;> simp
@[simp ↓] theorem wp_mNil : Wp QL X (mNil env s) = QL [] s := rfl
@[simp ↓] theorem wp_mCons (m : Ev → M MV) (r : Ev → M (List MV)) : Wp QL X (mCons m r env s) = Wp (fun x t => Wp (fun xs u => QL (x :: xs) u) X (r env t)) X (m env s) := by
  unfold mCons; rw [wp_bnd]; congr 1; funext x t; rw [wp_bnd]; rfl
@[simp ↓] theorem wp_mTup (as : Ev → M (List MV)) : Wp Q X (mTup as env s) = Wp (fun xs t => xs.length ≤ line ∧ Q (.tup xs) t) X (as env s) := by
  show Wp Q X (M.bnd _ _ _) = _
  rw [wp_bnd]
  congr 1; funext xs t
  by_cases h : xs.length ≤ line <;> simp [h]
@[simp ↓] theorem wp_mkList_t (xs : List MV) : Wp Q X (mkList true xs s) = Q (.lst xs) s := rfl
@[simp ↓] theorem wp_mkList_f (xs : List MV) : Wp Q X (mkList false xs s) = Q (.ref s.length) (s ++ [.lst xs]) := rfl
@[simp ↓] theorem wp_mLst (fr : Bool) (as : Ev → M (List MV)) : Wp Q X (mLst fr as env s) = Wp (fun xs t => xs.length ≤ line ∧ Wp Q X (mkList fr xs t)) X (as env s) := by
  show Wp Q X (M.bnd _ _ _) = _
  rw [wp_bnd]
  congr 1; funext xs t
  by_cases h : xs.length ≤ line <;> simp [h]
@[simp ↓] theorem wp_mIx (ma mb : Ev → M MV) : Wp Q X (mIx ma mb env s) = Wp Q X (mBin ixF ma mb env s) := rfl
@[simp ↓] theorem wp_mCallF (f : Sto → List MV → Option MV) (as : Ev → M (List MV)) : Wp Q X (mCallF f as env s) = Wp (fun xs t => WpO (fun v => Q v t) (f t xs)) X (as env s) := by
  unfold mCallF; rw [wp_bnd]; congr 1; funext x t; exact wp_opt
@[simp ↓] theorem wp_mCallL (fr : Bool) (f : Sto → List MV → Option (List MV)) (as : Ev → M (List MV)) : Wp Q X (mCallL fr f as env s) = Wp (fun xs t => WpO (fun ys => Wp Q X (mkList fr ys t)) (f t xs)) X (as env s) := by
  unfold mCallL; rw [wp_bnd]
  congr 1; funext xs t
  cases f t xs <;> rfl
@[simp ↓] theorem wp_mCall (mf : MF) (as : Ev → M (List MV)) : Wp Q X (mCall mf as env s) = Wp (fun xs t => Wp Q X (mf xs t)) X (as env s) := by
  unfold mCall; rw [wp_bnd]
@[simp ↓] theorem wp_mFld (f : Nat) (ma : Ev → M MV) : Wp Q X (mFld f ma env s) = Wp (fun x t => WpO (fun v => Q v t) (fldOf t f x)) X (ma env s) := by
  unfold mFld; rw [wp_mUn]
@[simp ↓] theorem wp_mMeth (cs : List (Nat × MF)) (ma : Ev → M MV) (as : Ev → M (List MV)) : Wp Q X (mMeth cs ma as env s) = Wp (fun x t => WpO (fun c => WpO (fun mf => Wp (fun xs u => Wp Q X (mf (x :: xs) u)) X (as env t)) (cs.lookup c)) (clsOf t x)) X (ma env s) := by
  rw [mMeth_run]
  cases ma env s with
  | ex c fs z => rfl
  | bad => rfl
  | ok x t =>
    simp only [wp_ok]
    cases clsOf t x with
    | none => rfl
    | some c =>
      simp only [wpO_some]
      cases cs.lookup c with
      | none => rfl
      | some mf =>
        simp only [wpO_some]
        cases as env t <;> rfl
@[simp ↓] theorem wp_mBinM (g : MV → MV → M MV) (ma mb : Ev → M MV) : Wp Q X (mBinM g ma mb env s) = Wp (fun x t => Wp (fun y u => Wp Q X (g x y u)) X (mb env t)) X (ma env s) := by
  unfold mBinM; rw [wp_bnd]; congr 1; funext x t; rw [wp_bnd]
@[simp ↓] theorem wp_mCmpM (g : MV → MV → M MV) (ma mb : Ev → M MV) : Wp QB X (mCmpM g ma mb env s) = Wp (fun x t => Wp (fun y u => Wp (fun v z => ∃ k, v = .bl k ∧ QB k z) X (g x y u)) X (mb env t)) X (ma env s) := by
  unfold mCmpM; rw [wp_bnd, wp_mBinM]
  congr 1; funext x t; congr 1; funext y u; congr 1; funext v z
  cases v <;> simp
@[simp ↓] theorem wp_mIsi (f : TyM → Option Bool) (ma : Ev → M MV) : Wp Q X (mIsi f ma env s) = Wp (fun x t => WpO (fun k => WpO (fun b => Q (.bl b) t) (f k)) (tyM t x)) X (ma env s) := by
  rw [mIsi_run]
  cases ma env s with
  | ok x t =>
    simp only [wp_ok]
    cases tyM t x with
    | none => rfl
    | some k =>
      simp only [wpO_some]
      cases f k <;> rfl
  | _ => rfl
@[simp ↓] theorem wp_mBits (ma : Ev → M MV) : Wp Q X (mBits ma env s) = Wp (fun x t => ∃ i, x = .int i ∧ Q (.int (Builtin.Int.intBits i : Nat)) t) X (ma env s) := by
  rw [mBits_run]
  cases ma env s with
  | ok x t => cases x <;> simp
  | _ => rfl
@[simp ↓] theorem wp_mFmt (ma : Ev → M MV) : Wp Q X (mFmt ma env s) = Wp (fun x t => (∃ y, x = .str y ∧ y.length ≤ line ∧ Q (.str y) t) ∨ ∃ i, x = .int i ∧ i.natAbs.log2 < 1920 ∧ Q (.str (toString i)) t) X (ma env s) := by
  rw [mFmt_run]
  cases ma env s with
  | ok x t => cases x with
    | str y => by_cases h : y.length ≤ line <;> simp [h]
    | int y => by_cases h : y.natAbs.log2 < 1920 <;> simp [h]
    | _ => simp
  | _ => rfl
@[simp ↓] theorem wp_mJs_nil (acc : Str) : Wp Q X (mJs [] acc env s) = Q (.str acc) s := rfl
@[simp ↓] theorem wp_mJs_cons (m : Ev → M MV) (ms : List (Ev → M MV)) (acc : Str) : Wp Q X (mJs (m :: ms) acc env s) = Wp (fun x t => ∃ y, x = .str y ∧ (acc ++ y).length ≤ line ∧ Wp Q X (mJs ms (acc ++ y) env t)) X (m env s) := by
  rw [mJs_cons]
  cases m env s with
  | ok x t => cases x with
    | str y => by_cases h : (acc ++ y).length ≤ line <;> simp only [h, if_true, if_false, wp_ok, wp_bad] <;> simp [h]
    | _ => simp
  | _ => rfl
theorem wp_noEx {r : R MV} : Wp Q X (noEx r) = Wp Q noX r := by cases r <;> rfl
@[simp ↓] theorem wp_mKw (g : List MV → List MV → List MV) (mf : MF) (as bs : Ev → M (List MV)) : Wp Q X (mKw g mf as bs env s) = Wp (fun xs t => Wp (fun ys u => Wp Q noX (mf (g xs ys) u)) X (bs env t)) X (as env s) := by
  rw [mKw_run]
  cases as env s with
  | ok xs t =>
    simp only [wp_ok]
    cases bs env t with
    | ok ys u => simp only [wp_ok, wp_noEx]
    | _ => rfl
  | _ => rfl
@[simp ↓] theorem wp_mMB (ok : Sto → MV → Bool) (f : MV → List MV → M MV) (mo : Ev → M MV) (as : Ev → M (List MV)) : Wp Q X (mMB ok f mo as env s) = Wp (fun x t => ok t x = true ∧ Wp (fun xs u => Wp Q X (f x xs u)) X (as env t)) X (mo env s) := by
  rw [mMB_run]
  cases mo env s with
  | ok x t =>
    simp only [wp_ok]
    by_cases h : ok t x = true
    · simp only [h, if_true, true_and]
      cases as env t <;> rfl
    · simp [h]
  | _ => rfl
@[simp ↓] theorem wp_mChain (f g : Sto → MV → MV → Option Bool) (ma mb mc : Ev → M MV) : Wp QB X (mChain f g ma mb mc env s) = Wp (fun x t => Wp (fun y u => WpO (fun k => (k = true → Wp (fun z v => WpO (fun k2 => QB k2 v) (g v y z)) X (mc env u)) ∧ (k = false → QB false u)) (f u x y)) X (mb env t)) X (ma env s) := by
  unfold mChain
  rw [wp_bnd]; congr 1; funext x t
  rw [wp_bnd]; congr 1; funext y u
  rw [wp_bnd]
  cases f u x y with
  | none => rfl
  | some k => cases k with
    | true =>
      simp only [opt_some, wp_ok, wpO_some, if_true, true_implies, reduceCtorEq, false_implies, and_true]
      rw [wp_bnd]; congr 1; funext z v; exact wp_opt
    | false => simp
@[simp ↓] theorem wp_mChain3 (f g h : Sto → MV → MV → Option Bool) (ma mb mc md : Ev → M MV) : Wp QB X (mChain3 f g h ma mb mc md env s) = Wp (fun x t => Wp (fun y u => WpO (fun k => (k = true → Wp (fun z v => WpO (fun k2 => (k2 = true → Wp (fun w o => WpO (fun k3 => QB k3 o) (h o z w)) X (md env v)) ∧ (k2 = false → QB false v)) (g v y z)) X (mc env u)) ∧ (k = false → QB false u)) (f u x y)) X (mb env t)) X (ma env s) := by
  rw [mChain3_run]
  cases ma env s with
  | ok x t =>
    simp only [wp_ok]
    cases mb env t with
    | ok y u =>
      simp only [wp_ok]
      cases f u x y with
      | none => rfl
      | some k => cases k with
        | false => simp
        | true =>
          simp only [if_true, wpO_some, true_implies]
          cases mc env u with
          | ok z v =>
            simp only [wp_ok]
            cases g v y z with
            | none => simp
            | some k2 => cases k2 with
              | false => simp
              | true =>
                simp only [if_true, wpO_some, true_implies]
                cases md env v with
                | ok w o => simp
                | _ => simp
          | _ => simp
    | _ => rfl
  | _ => rfl
@[simp ↓] theorem wp_mExcI (i : Nat) (b : Bool) : Wp Q X (mExcI i b env s) = WpO (fun v => v = .exc ∧ Q (.bl b) s) (evG env i) := by
  rw [← evG_eq]
  rw [mExcI_run]
  cases env.getD i none with
  | none => rfl
  | some v => cases v <;> simp
@[simp ↓] theorem wp_mCallX (i : Nat) (r : M MV) : Wp Q X (mCallX i r env s) = WpO (fun v => v = .exc ∧ Wp Q X (r s)) (evG env i) := by
  rw [← evG_eq]
  rw [mCallX_run]
  cases env.getD i none with
  | none => rfl
  | some v => cases v <;> simp
@[simp ↓] theorem wp_mExcF (i f : Nat) (fs : List (Nat × MV)) : Wp Q X (mExcF i f fs env s) = WpO (fun v => v = .exc ∧ WpO (fun w => Q w s) (lookN f fs)) (evG env i) := by
  rw [← evG_eq]
  rw [mExcF_run]
  cases env.getD i none with
  | none => rfl
  | some v => cases v <;> cases lookN f fs <;> simp
@[simp ↓] theorem wp_mNoPart : Wp QO X (mNoPart env s) = QO none s := rfl
@[simp ↓] theorem wp_mPart (m : Ev → M MV) : Wp QO X (mPart m env s) = Wp (fun x t => ∃ i, x = .int i ∧ QO (some i) t) X (m env s) := by
  unfold mPart; rw [wp_bnd]
  congr 1; funext x t
  cases x <;> simp
@[simp ↓] theorem wp_mSl (fr : Bool) (ma : Ev → M MV) (ml mh : Ev → M (Option Int)) : Wp Q X (mSl fr ma ml mh env s) = Wp (fun x t => Wp (fun lo u => Wp (fun hi v => Wp Q X (slF fr x lo hi v)) X (mh env u)) X (ml env t)) X (ma env s) := by
  unfold mSl; rw [wp_bnd]; congr 1; funext x t; rw [wp_bnd]; congr 1; funext lo u; rw [wp_bnd]
@[simp ↓] theorem wp_mYes : Wp QB X (mYes env s) = QB true s := rfl
@[simp ↓] theorem wp_optM (f : Sto → MV → MV → Option MV) (x y : MV) : Wp Q X (optM f x y s) = WpO (fun v => Q v s) (f s x y) := by
  unfold optM; rw [wp_opt]
@[simp ↓] theorem wp_cmpB (f : Sto → MV → MV → Option Bool) (x y : MV) : Wp Q X (cmpB f x y s) = WpO (fun b => Q (.bl b) s) (f s x y) := by
  unfold cmpB
  cases f s x y <;> rfl
/-! statements -/
@[simp ↓] theorem wps_seq (a b : MS) : WpS P (sSeq a b env s) = WpS (P.thn fun e t => WpS P (b e t)) (a env s) := by
  unfold sSeq
  cases a env s <;> rfl
@[simp ↓] theorem wps_nil : WpS P (sNil env s) = P.n env s := rfl
@[simp ↓] theorem wps_break : WpS P (sBreak env s) = P.b env s := rfl
@[simp ↓] theorem wps_cont : WpS P (sCont env s) = P.c env s := rfl
@[simp ↓] theorem wps_asg (i : Nat) (m : Ev → M MV) : WpS P (sAsg i m env s) = Wp (fun v t => Nf (fun e => P.n e t) (env.set i (some v))) (fun c fs t => P.x env c fs t) (m env s) := by
  unfold sAsg; rw [wpS_bnd]; rfl
@[simp ↓] theorem wps_expr (m : Ev → M MV) : WpS P (sExpr m env s) = Wp (fun v t => P.n env t) (fun c fs t => P.x env c fs t) (m env s) := by
  unfold sExpr; rw [wpS_bnd]; rfl
@[simp ↓] theorem wps_ret (m : Ev → M MV) : WpS P (sRet m env s) = Wp (fun v t => P.r v t) (fun c fs t => P.x env c fs t) (m env s) := by
  unfold sRet; rw [wpS_bnd]; rfl
@[simp ↓] theorem wps_retN : WpS P (sRetN env s) = P.r .non s := rfl
theorem wps_sif (m : Ev → M Bool) (a b : MS) : WpS P (sIf m a b env s) = Wp (fun k t => (k = true → WpS P (a env t)) ∧ (k = false → WpS P (b env t))) (fun c fs t => P.x env c fs t) (m env s) := by
  unfold sIf; rw [wpS_bnd]
  congr 1; funext k t
  cases k <;> simp
@[simp ↓] theorem wps_par (i j : Nat) (as : Ev → M (List MV)) : WpS P (sPar i j as env s) = Wp (fun xs t => WpO (fun p => Nf (fun e => P.n e t) ((env.set i (some p.1)).set j (some p.2))) (twoOf xs)) (fun c fs t => P.x env c fs t) (as env s) := by
  rw [sPar_run]
  cases as env s with
  | ok xs t => match xs with
    | [] => rfl
    | [_] => rfl
    | [v, w] => rfl
    | _ :: _ :: _ :: _ => rfl
  | _ => rfl
@[simp ↓] theorem wps_sub (mo mi mv : Ev → M MV) : WpS P (sSub mo mi mv env s) = Wp (fun v t => Wp (fun o u => Wp (fun i w => WpO (fun z => P.n env z) (setL o i v w)) (fun c fs t => P.x env c fs t) (mi env u)) (fun c fs t => P.x env c fs t) (mo env t)) (fun c fs t => P.x env c fs t) (mv env s) := by
  rw [sSub_run]
  cases mv env s with
  | ok v t =>
    simp only [wp_ok]
    cases mo env t with
    | ok o u =>
      simp only [wp_ok]
      cases mi env u with
      | ok i w =>
        simp only [wp_ok]
        cases setL o i v w <;> rfl
      | _ => rfl
    | _ => rfl
  | _ => rfl
@[simp ↓] theorem wps_fld (f : Nat) (mo mv : Ev → M MV) : WpS P (sFldM f mo mv env s) = Wp (fun v t => Wp (fun o u => WpO (fun z => P.n env z) (setFld f o v u)) (fun c fs t => P.x env c fs t) (mo env t)) (fun c fs t => P.x env c fs t) (mv env s) := by
  rw [sFldM_run]
  cases mv env s with
  | ok v t =>
    simp only [wp_ok]
    cases mo env t with
    | ok o u =>
      simp only [wp_ok]
      cases setFld f o v u <;> rfl
    | _ => rfl
  | _ => rfl
@[simp ↓] theorem wps_tg (g : MG) (m : Ev → M MV) : WpS P (sTg g m env s) = Wp (fun v t => Wp (fun e u => P.n e u) noX (g v env t)) (fun c fs t => P.x env c fs t) (m env s) := by
  rw [sTg_run]
  cases m env s with
  | ok v t =>
    simp only [wp_ok]
    cases g v env t <;> rfl
  | _ => rfl
@[simp ↓] theorem wps_raise (c : Nat) : WpS P (sRaise c env s) = P.x env c [] s := rfl
@[simp ↓] theorem wps_raiseA (c f : Nat) (ma : Ev → M MV) : WpS P (sRaiseA c f ma env s) = Wp (fun v t => smM v = true ∧ P.x env c [(f, v)] t) (fun c fs t => P.x env c fs t) (ma env s) := by
  rw [sRaiseA_run]
  cases ma env s with
  | ok v t => by_cases h : smM v = true <;> simp [h]
  | _ => rfl
@[simp ↓] theorem wps_for (mi : MI) (g : MG) (b : MS) : WpS P (sFor mi g b env s) = Wp (fun it t => WpS P (forL g b it.ok it.xs env t)) (fun c fs t => P.x env c fs t) (mi env s) := by
  rw [sFor_run]
  cases mi env s <;> rfl
/-- behind a handler -/
def Po.leave (P : Po) (i : Nat) : Po where
  n e s := WpO (fun e' => P.n e' s) (leaveE i e)
  r := P.r
  b e s := WpO (fun e' => P.b e' s) (leaveE i e)
  c e s := WpO (fun e' => P.c e' s) (leaveE i e)
  x _ _ _ _ := False
@[simp ↓] theorem leave_n {i : Nat} : (P.leave i).n env s = WpO (fun e' => P.n e' s) (leaveE i env) := rfl
@[simp ↓] theorem leave_r {i : Nat} {v : MV} : (P.leave i).r v s = P.r v s := rfl
@[simp ↓] theorem leave_b {i : Nat} : (P.leave i).b env s = WpO (fun e' => P.b e' s) (leaveE i env) := rfl
@[simp ↓] theorem leave_c {i : Nat} : (P.leave i).c env s = WpO (fun e' => P.c e' s) (leaveE i env) := rfl
@[simp ↓] theorem leave_x {i c : Nat} {fs : List (Nat × MV)} : (P.leave i).x env c fs s = False := rfl
theorem wps_unset (i : Nat) (f : Fl) : WpS P (unsetN i f) = WpS (P.leave i) f := by
  cases f with
  | nx e s => simp only [unsetN, wps_nx, Po.leave]; cases leaveE i e <;> rfl
  | bk e s => simp only [unsetN, wps_bk, Po.leave]; cases leaveE i e <;> rfl
  | ct e s => simp only [unsetN, wps_ct, Po.leave]; cases leaveE i e <;> rfl
  | _ => rfl
@[simp ↓] theorem wps_try (i k : Nat) (mb : MS) (ms : Nat → List (Nat × MV) → MS) : WpS P (sTry i k mb ms env s) = WpS (P.hnd fun e c fs t => (subX c k = true → Nf (fun e => WpS (P.leave i) (ms c fs e t)) (e.set i (some .exc))) ∧ (subX c k = false → P.x e c fs t)) (mb env s) := by
  unfold sTry
  cases mb env s with
  | ex e c fs t =>
    cases h : subX c k <;> simp [h, wps_unset]
  | _ => rfl
def WpH (P : Po) : List Hnd → Ev → Nat → List (Nat × MV) → Sto → Prop
  | [], e, c, fs, t => P.x e c fs t
  | (i, k, ms) :: r, e, c, fs, t => (subX c k = true → Nf (fun e => WpS (P.leave i) (ms c fs e t)) (e.set i (some .exc))) ∧ (subX c k = false → WpH P r e c fs t)
theorem wps_hand : ∀ (hs : List Hnd) (e : Ev) (c : Nat) (fs : List (Nat × MV)) (t : Sto), WpS P (handN hs e c fs t) = WpH P hs e c fs t
  | [], e, c, fs, t => rfl
  | (i, k, ms) :: r, e, c, fs, t => by
    unfold handN WpH
    rw [← wps_hand r]
    cases h : subX c k <;> simp [wps_unset]
@[simp ↓] theorem wps_tryN (mb : MS) (hs : List Hnd) : WpS P (sTryN mb hs env s) = WpS (P.hnd (WpH P hs)) (mb env s) := by
  rw [sTryN_run]
  cases mb env s with
  | ex e c fs t => simp only [wps_hand]; rfl
  | _ => rfl
/-! iterators, targets -/
@[simp ↓] theorem wp_miSeq (ma : Ev → M MV) : Wp QI X (miSeq ma env s) = Wp (fun x t => WpO (fun it => QI it t) (itOf t x)) X (ma env s) := by
  unfold miSeq; rw [wp_bnd]; congr 1; funext x t; exact wp_opt
@[simp ↓] theorem wp_miRange (ma : Ev → M MV) : Wp QI X (miRange ma env s) = Wp (fun x t => ∃ j, x = .int j ∧ small j = true ∧ QI ⟨intsM 0 j.toNat, fun _ => True⟩ t) X (ma env s) := by
  rw [miRange_run]
  cases ma env s with
  | ok x t => cases x with
    | int j => by_cases h : small j = true <;> simp [h]
    | _ => simp
  | _ => rfl
@[simp ↓] theorem wp_tgName (i : Nat) (v : MV) : Wp QE X (tgName i v env s) = Nf (fun e => QE e s) (env.set i (some v)) := rfl
@[simp ↓] theorem wp_mFun (n : Nat) (mb : MS) (args : List MV) : Wp Q X (mFun n mb args s) = Nf (fun e => WpS (.fn Q X) (mb e s)) (args.map some ++ List.replicate (n - args.length) none) := by
  unfold mFun
  rw [Nf_eq]
  cases mb (args.map some ++ List.replicate (n - args.length) none) s <;> rfl
end
end Z

namespace Z
open PySem L2
section
variable {env : Ev} {s : Sto} {Q : MV → Sto → Prop} {QI : IT → Sto → Prop} {QE : Ev → Sto → Prop} {X : Nat → List (Nat × MV) → Sto → Prop} {P : Po}
theorem Wp.mono {α : Type} {r : R α} {Q Q' : α → Sto → Prop} {X X' : Nat → List (Nat × MV) → Sto → Prop} (h : Wp Q X r) (hq : ∀ a t, Q a t → Q' a t) (hx : ∀ c fs t, X c fs t → X' c fs t) : Wp Q' X' r := by
  cases r with
  | ok a t => exact hq a t h
  | ex c fs t => exact hx c fs t h
  | bad => exact h
theorem Wp.imp {α : Type} {r : R α} {Q Q' : α → Sto → Prop} {X : Nat → List (Nat × MV) → Sto → Prop} (h : Wp Q noX r) (hq : ∀ a t, Q a t → Q' a t) : Wp Q' X r := h.mono hq fun _ _ _ z => z.elim
theorem Wp.out {α : Type} {r : R α} {Q : α → Sto → Prop} (h : Wp Q noX r) : ∃ a t, r = .ok a t ∧ Q a t := by
  cases r with
  | ok a t => exact ⟨a, t, rfl, h⟩
  | ex c fs t => exact h.elim
  | bad => exact h.elim
theorem Wp.of {α : Type} {r : R α} {Q : α → Sto → Prop} {X : Nat → List (Nat × MV) → Sto → Prop} {a : α} {t : Sto} (e : r = .ok a t) (h : Q a t) : Wp Q X r := by rw [e]; exact h
theorem WpS.mono {f : Fl} {P P' : Po} (h : WpS P f) (hn : ∀ e t, P.n e t → P'.n e t) (hr : ∀ v t, P.r v t → P'.r v t) (hb : ∀ e t, P.b e t → P'.b e t) (hc : ∀ e t, P.c e t → P'.c e t) (hx : ∀ e c fs t, P.x e c fs t → P'.x e c fs t) : WpS P' f := by
  cases f with
  | nx e t => exact hn e t h
  | rt v t => exact hr v t h
  | bk e t => exact hb e t h
  | ct e t => exact hc e t h
  | ex e c fs t => exact hx e c fs t h
  | bad => exact h
/-! ### for -/
theorem wp_forL {g : MG} {b : MS} {ok : Sto → Prop} {ls : List MV} (I : List MV → Ev → Sto → Prop) (ho : ∀ d e t, I d e t → ok t)
    (hs : ∀ d x r e t, ls = d ++ x :: r → I d e t → Wp (fun e t => WpS (P.turn (I (d ++ [x]))) (b e t)) noX (g x e t))
    (h1 : ∀ e t, I ls e t → P.n e t) : ∀ (r d : List MV) (e : Ev) (t : Sto), ls = d ++ r → I d e t → WpS P (forL g b ok r e t)
  | [], d, e, t, hl, h => by
    rw [List.append_nil] at hl
    rw [for_nil (ho d e t h)]
    exact h1 e t (hl ▸ h)
  | x :: r, d, e, t, hl, h => by
    unfold forL
    rw [if_pos (ho d e t h)]
    have q := hs d x r e t hl h
    have hl2 : ls = (d ++ [x]) ++ r := by rw [hl]; simp
    cases eg : g x e t with
    | ex c fs u => rw [eg] at q; exact q.elim
    | bad => rw [eg] at q; exact q.elim
    | ok e2 t2 =>
      rw [eg] at q
      have q : WpS _ (b e2 t2) := q
      show WpS P (match b e2 t2 with | .nx e s => forL g b ok r e s | .ct e s => forL g b ok r e s | .bk e s => .nx e s | .rt v s => .rt v s | .ex e c fs s => .ex e c fs s | .bad => .bad)
      cases eb : b e2 t2 with
      | nx e3 t3 => rw [eb] at q; exact wp_forL I ho hs h1 r (d ++ [x]) e3 t3 hl2 q
      | ct e3 t3 => rw [eb] at q; exact wp_forL I ho hs h1 r (d ++ [x]) e3 t3 hl2 q
      | bk e3 t3 => rw [eb] at q; exact q
      | rt v t3 => rw [eb] at q; exact q
      | ex e3 c fs t3 => rw [eb] at q; exact q
      | bad => rw [eb] at q; exact q
/-- over the items, as they come -/
theorem wp_for {g : MG} {b : MS} {ok : Sto → Prop} {ls : List MV} {e : Ev} {t : Sto} (I : List MV → Ev → Sto → Prop) (h0 : I [] e t) (ho : ∀ d e t, I d e t → ok t)
    (hs : ∀ d x r e t, ls = d ++ x :: r → I d e t → Wp (fun e t => WpS (P.turn (I (d ++ [x]))) (b e t)) noX (g x e t))
    (h1 : ∀ e t, I ls e t → P.n e t) : WpS P (forL g b ok ls e t) := wp_forL I ho hs h1 ls [] e t rfl h0
/-- .. of one kind -/
theorem wp_forM {α : Type} {f : α → MV} {ys : List α} {g : MG} {b : MS} {ok : Sto → Prop} {e : Ev} {t : Sto} (I : List α → Ev → Sto → Prop) (h0 : I [] e t) (ho : ∀ d e t, I d e t → ok t)
    (hs : ∀ d x r e t, ys = d ++ x :: r → I d e t → Wp (fun e t => WpS (P.turn (I (d ++ [x]))) (b e t)) noX (g (f x) e t))
    (h1 : ∀ e t, I ys e t → P.n e t) : WpS P (forL g b ok (ys.map f) e t) := by
  refine wp_for (fun d e t => ∃ d', d = d'.map f ∧ I d' e t ∧ ∃ r', ys = d' ++ r') ⟨[], rfl, h0, ys, rfl⟩ (fun d e t ⟨d', _, h, _⟩ => ho d' e t h) ?_ ?_
  · rintro d x r e t hl ⟨d', rfl, h, r', rfl⟩
    rw [List.map_append, List.append_cancel_left_eq] at hl
    cases r' with
    | nil => simp at hl
    | cons y r' =>
      rw [List.map_cons, List.cons.injEq] at hl
      obtain ⟨rfl, rfl⟩ := hl
      refine (hs d' y r' e t rfl h).imp fun e2 t2 q => q.mono ?_ (fun _ _ z => z) (fun _ _ z => z) ?_ (fun _ _ _ _ z => z)
      · exact fun e3 t3 q => ⟨d' ++ [y], by simp, q, r', by simp⟩
      · exact fun e3 t3 q => ⟨d' ++ [y], by simp, q, r', by simp⟩
  · rintro e t ⟨d', hd, h, r', rfl⟩
    have : r' = [] := by
      have := congrArg List.length hd
      simp at this
      exact this
    subst this
    rw [List.append_nil] at h1
    exact h1 e t h
/-- range -/
theorem wp_forR {lo : Int} {n : Nat} {g : MG} {b : MS} {e : Ev} {t : Sto} {ok : Sto → Prop} (I : Nat → Ev → Sto → Prop) (h0 : I 0 e t) (ho : ∀ d e t, I d e t → ok t)
    (hs : ∀ i e t, i < n → I i e t → Wp (fun e t => WpS (P.turn (I (i + 1))) (b e t)) noX (g (.int (lo + (i : Int))) e t))
    (h1 : ∀ e t, I n e t → P.n e t) : WpS P (forL g b ok (intsM lo n) e t) := by
  unfold intsM
  refine wp_forM (fun d e t => d.length ≤ n ∧ I d.length e t) ⟨Nat.zero_le _, h0⟩ (fun d e t h => ho _ e t h.2) ?_ ?_
  · rintro d x r e t hl ⟨_, h⟩
    have hx : x = d.length := by
      have h1 : (List.range n)[d.length]? = some x := by rw [hl]; simp
      obtain ⟨hn, e1⟩ := List.getElem?_eq_some_iff.mp h1
      rw [List.getElem_range] at e1
      exact e1.symm
    have hn : d.length < n := by
      have := congrArg List.length hl
      simp at this; omega
    subst hx
    refine (hs d.length e t hn h).imp fun e2 t2 q => q.mono ?_ (fun _ _ z => z) (fun _ _ z => z) ?_ (fun _ _ _ _ z => z)
    · exact fun e3 t3 q => ⟨by simp; omega, by simpa using q⟩
    · exact fun e3 t3 q => ⟨by simp; omega, by simpa using q⟩
  · rintro e t ⟨_, h⟩
    rw [List.length_range] at h
    exact h1 e t h
/-! ### while -/
theorem wp_whileN {mt : Ev → M Bool} {b : MS} (I : Nat → Ev → Sto → Prop)
    (hs : ∀ m e t, I m e t → Wp (fun k t => (k = true → WpS (P.turn fun e t => ∃ m', m' < m ∧ I m' e t) (b e t)) ∧ (k = false → P.n e t)) (fun c fs t => P.x e c fs t) (mt e t)) :
    ∀ (m : Nat) (e : Ev) (t : Sto), I m e t → ∃ f, (∃ n, whileN mt b n e t = f) ∧ WpS P f := by
  intro m
  induction m using Nat.strongRecOn with
  | ind m ih =>
    intro e t h
    have q := hs m e t h
    cases em : mt e t with
    | bad => rw [em] at q; exact q.elim
    | ex c fs u => rw [em] at q; exact ⟨.ex e c fs u, ⟨1, by simp only [whileN, bndS, em]⟩, q⟩
    | ok k u =>
      rw [em] at q
      have q : (k = true → _) ∧ (k = false → _) := q
      cases k with
      | false => exact ⟨.nx e u, ⟨1, by simp [whileN, bndS, em]⟩, q.2 rfl⟩
      | true =>
        have q := q.1 rfl
        cases eb : b e u with
        | nx e3 t3 =>
          rw [eb] at q
          obtain ⟨m', hm, hi⟩ := q
          obtain ⟨f, ⟨n, hn⟩, hf⟩ := ih m' hm e3 t3 hi
          exact ⟨f, ⟨n + 1, by simp only [whileN, bndS, em, if_true, eb, hn]⟩, hf⟩
        | ct e3 t3 =>
          rw [eb] at q
          obtain ⟨m', hm, hi⟩ := q
          obtain ⟨f, ⟨n, hn⟩, hf⟩ := ih m' hm e3 t3 hi
          exact ⟨f, ⟨n + 1, by simp only [whileN, bndS, em, if_true, eb, hn]⟩, hf⟩
        | bk e3 t3 => rw [eb] at q; exact ⟨.nx e3 t3, ⟨1, by simp only [whileN, bndS, em, if_true, eb]⟩, q⟩
        | rt v t3 => rw [eb] at q; exact ⟨.rt v t3, ⟨1, by simp only [whileN, bndS, em, if_true, eb]⟩, q⟩
        | ex e3 c fs t3 => rw [eb] at q; exact ⟨.ex e3 c fs t3, ⟨1, by simp only [whileN, bndS, em, if_true, eb]⟩, q⟩
        | bad => rw [eb] at q; exact q.elim
theorem wp_while {mt : Ev → M Bool} {b : MS} {e : Ev} {t : Sto} (I : Nat → Ev → Sto → Prop) (m : Nat) (h0 : I m e t)
    (hs : ∀ m e t, I m e t → Wp (fun k t => (k = true → WpS (P.turn fun e t => ∃ m', m' < m ∧ I m' e t) (b e t)) ∧ (k = false → P.n e t)) (fun c fs t => P.x e c fs t) (mt e t)) :
    WpS P (sWhile mt b e t) := by
  obtain ⟨f, ⟨n, hn⟩, hf⟩ := wp_whileN I hs m e t h0
  rw [while_eq hn (fun z => by rw [z] at hf; exact hf.elim)]
  exact hf
/-! ### iterators -/
@[simp ↓] theorem wp_miRange2 (ma mb : Ev → M MV) : Wp QI X (miRange2 ma mb env s) = Wp (fun x t => Wp (fun y u => ∃ i j, x = .int i ∧ y = .int j ∧ (small i && small j) = true ∧ QI ⟨intsM i (j - i).toNat, fun _ => True⟩ u) X (mb env t)) X (ma env s) := by
  unfold miRange2
  rw [wp_bnd]; congr 1; funext x t
  rw [wp_bnd]; congr 1; funext y u
  cases x with
  | int i => cases y with
    | int j =>
      show Wp QI X ((if (small i && small j) = true then M.ret ⟨intsM i (j - i).toNat, fun _ => True⟩ else fun _ => R.bad) u) = _
      cases h : (small i && small j) with
      | true =>
        rw [if_pos rfl]
        refine propext ⟨fun q => ⟨i, j, rfl, rfl, h, q⟩, ?_⟩
        rintro ⟨i', j', e1, e2, _, q⟩
        cases e1; cases e2; exact q
      | false =>
        rw [if_neg (by decide)]
        refine propext ⟨fun q => q.elim, ?_⟩
        rintro ⟨i', j', e1, e2, h2, q⟩
        cases e1; cases e2; rw [h] at h2; cases h2
    | _ => simp
  | _ => simp
@[simp ↓] theorem wp_miEnum (ma : Ev → M MV) : Wp QI X (miEnum ma env s) = Wp (fun x t => WpO (fun it => QI it t) (enumOf t x)) X (ma env s) := by
  unfold miEnum; rw [wp_bnd]
  congr 1; funext x t
  cases enumOf t x <;> rfl
@[simp ↓] theorem wpo_enumTup {xs : List MV} {Q : IT → Prop} {t : Sto} : WpO Q (enumOf t (.tup xs)) = Q ⟨pairs (intsM 0 xs.length) xs, fun _ => True⟩ := rfl
@[simp ↓] theorem wpo_enumRef {i : Nat} {Q : IT → Prop} {t : Sto} : WpO Q (enumOf t (.ref i)) = WpO (fun it => Q ⟨pairs (intsM 0 it.xs.length) it.xs, it.ok⟩) (lsOf t (.ref i)) := by
  show WpO Q ((lsOf t (.ref i)).map _) = _
  cases lsOf t (.ref i) <;> rfl
@[simp ↓] theorem wpo_enumLst {xs : List MV} {Q : IT → Prop} {t : Sto} : WpO Q (enumOf t (.lst xs)) = Q ⟨pairs (intsM 0 xs.length) xs, fun _ => True⟩ := rfl
@[simp ↓] theorem wp_miZip (ma mb : Ev → M MV) : Wp QI X (miZip ma mb env s) = Wp (fun x t => Wp (fun y u => WpO (fun it => QI it u) (zipOf u x y)) X (mb env t)) X (ma env s) := by
  unfold miZip; rw [wp_bnd]; congr 1; funext x t; rw [wp_bnd]; congr 1; funext y u; exact wp_opt
@[simp ↓] theorem wp_miStr (ma : Ev → M MV) : Wp QI X (miStr ma env s) = Wp (fun x t => ∃ y, x = .str y ∧ QI ⟨signs y, fun _ => True⟩ t) X (ma env s) := by
  unfold miStr; rw [wp_bnd]
  congr 1; funext x t
  cases x with
  | str y => exact propext ⟨fun q => ⟨y, rfl, q⟩, fun ⟨y', e, q⟩ => by cases e; exact q⟩
  | _ => simp
@[simp ↓] theorem wp_tgNil (vs : List MV) : Wp QE X (tgNil vs env s) = (vs = [] ∧ QE env s) := by
  cases vs with
  | nil => simp [tgNil]
  | cons => simp [tgNil]
@[simp ↓] theorem wp_tgCons (g : MG) (r : MGs) (v : MV) (us : List MV) : Wp QE noX (tgCons g r (v :: us) env s) = Wp (fun e t => Wp QE noX (r us e t)) noX (g v env s) := by
  have : tgCons g r (v :: us) env s = match g v env s with | .ok e t => r us e t | _ => .bad := rfl
  rw [this]
  cases g v env s with
  | ok e t => rfl
  | ex c fs t => rfl
  | bad => rfl
@[simp ↓] theorem wp_tgTup (n : Nat) (g : MGs) (v : MV) : Wp QE X (tgTup n g v env s) = (∃ xs, v = .tup xs ∧ xs.length = n ∧ Wp QE X (g xs env s)) := by
  cases v with
  | tup xs =>
    by_cases h : xs.length = n
    · simp [tgTup, h]
    · simp [tgTup, h]
  | _ => simp [tgTup]
/-! ### calls that keep the store -/
theorem wp_pure {mf : MF} {args : List MV} (h : Wp (fun v t => t.take s.length = s ∧ WpO (fun v' => Q v' s) (frzM t s.length 40 v)) (fun c fs t => t.take s.length = s ∧ WpO (fun vs => X c ((fs.map (·.1)).zip vs) s) ((fs.map (·.2)).mapM (frzM t s.length 40))) (mf args s)) : Wp Q X (mPure mf args s) := by
  unfold mPure
  cases e : mf args s with
  | ok v t =>
    rw [e] at h
    obtain ⟨h1, h2⟩ := h
    simp only [if_pos h1]
    cases ef : frzM t s.length 40 v with
    | none => rw [ef] at h2; exact h2.elim
    | some v' => rw [ef] at h2; exact h2
  | ex c fs t =>
    rw [e] at h
    obtain ⟨h1, h2⟩ := h
    simp only [if_pos h1]
    cases ef : (fs.map (·.2)).mapM (frzM t s.length 40) with
    | none => rw [ef] at h2; exact h2.elim
    | some v' => rw [ef] at h2; exact h2
  | bad => rw [e] at h; exact h.elim
theorem wp_new {c : Nat} {init : MF} {args : List MV} (h : Wp (fun v t => v = .non ∧ Q (.ref s.length) t) X (init (.ref s.length :: args) (s ++ [.ins c []]))) : Wp Q X (newC c init args s) := by
  unfold newC
  cases e : init (.ref s.length :: args) (s ++ [.ins c []]) with
  | ok v t =>
    rw [e] at h
    obtain ⟨rfl, h⟩ := h
    exact h
  | ex c fs t => rw [e] at h; exact h
  | bad => rw [e] at h; exact h
/-! ### comprehensions -/
theorem wp_lcL {g : MG} {mt : Ev → M Bool} {me : Ev → M MV} {ok : Sto → Prop} {n : Nat} {ls : List MV} (I : List MV → List MV → Sto → Prop) (ho : ∀ d acc u, u.length = n → I d acc u → ok (u ++ [.lst acc])) (hm : ls.length ≤ line)
    (hs : ∀ d x r acc u, ls = d ++ x :: r → u.length = n → I d acc u → Wp (fun e t => Wp (fun k t => (k = true → Wp (fun y t => ∃ u', t = u' ++ [.lst acc] ∧ u'.length = n ∧ I (d ++ [x]) (acc ++ [y]) u') noX (me e t)) ∧ (k = false → ∃ u', t = u' ++ [.lst acc] ∧ u'.length = n ∧ I (d ++ [x]) acc u')) noX (mt e t)) noX (g x env (u ++ [.lst acc]))) :
    ∀ (r d acc : List MV) (u : Sto), ls = d ++ r → u.length = n → acc.length ≤ d.length → I d acc u → ∃ acc' u', lcL g mt me ok n env r (u ++ [.lst acc]) = some (u' ++ [.lst acc']) ∧ u'.length = n ∧ I ls acc' u'
  | [], d, acc, u, hl, hu, ha, h => by
    rw [List.append_nil] at hl
    refine ⟨acc, u, ?_, hu, hl ▸ h⟩
    unfold lcL
    rw [if_pos (ho d acc u hu h)]
  | x :: r, d, acc, u, hl, hu, ha, h => by
    unfold lcL
    rw [if_pos (ho d acc u hu h)]
    have q := hs d x r acc u hl hu h
    have hl2 : ls = (d ++ [x]) ++ r := by rw [hl]; simp
    obtain ⟨e1, t1, eg, q⟩ := q.out
    obtain ⟨k, t2, et, q⟩ := q.out
    simp only [eg, et]
    cases k with
    | false =>
      obtain ⟨u', rfl, hu', h'⟩ := q.2 rfl
      exact wp_lcL I ho hm hs r (d ++ [x]) acc u' hl2 hu' (by simp; omega) h'
    | true =>
      obtain ⟨y, t3, ey, q⟩ := (q.1 rfl).out
      obtain ⟨u', rfl, hu', h'⟩ := q
      simp only [ey]
      have hg : (u' ++ [Cell.lst acc])[n]? = some (.lst acc) := by rw [← hu']; simp
      have hst : (u' ++ [Cell.lst acc]).set n (.lst (acc ++ [y])) = u' ++ [.lst (acc ++ [y])] := by rw [← hu']; simp
      have hln := congrArg List.length hl
      simp at hln
      simp only [hg]
      rw [if_pos (by omega), hst]
      exact wp_lcL I ho hm hs r (d ++ [x]) (acc ++ [y]) u' hl2 hu' (by simp; omega) h'
theorem wp_lc {mi : MI} {g : MG} {mt : Ev → M Bool} {me : Ev → M MV} {vs : List Nat} (it : IT) (I : List MV → List MV → Sto → Prop) (hi : mi env s = .ok it s) (h0 : I [] [] s) (ho : ∀ d acc u, u.length = s.length → I d acc u → it.ok (u ++ [.lst acc])) (hm : it.xs.length ≤ line)
    (hs : ∀ d x r acc u, it.xs = d ++ x :: r → u.length = s.length → I d acc u → Wp (fun e t => Wp (fun k t => (k = true → Wp (fun y t => ∃ u', t = u' ++ [.lst acc] ∧ u'.length = s.length ∧ I (d ++ [x]) (acc ++ [y]) u') noX (me e t)) ∧ (k = false → ∃ u', t = u' ++ [.lst acc] ∧ u'.length = s.length ∧ I (d ++ [x]) acc u')) noX (mt e t)) noX (g x (wipeM env vs) (u ++ [.lst acc])))
    (h1 : ∀ acc u, u.length = s.length → I it.xs acc u → (∀ (i : Nat) (c : Cell), u[i]? = some c → s[i]? = some c ∨ cellB s.length c = true) ∧ WpO (fun acc' => Q (.lst acc') u) (acc.mapM (frzM (u ++ [.lst acc]) s.length 40))) : Wp Q X (mLc true mi g mt me vs env s) := by
  obtain ⟨acc, u, e, hu, h⟩ := wp_lcL (env := wipeM env vs) I ho hm hs it.xs [] [] s rfl rfl (Nat.le_refl _) h0
  obtain ⟨q1, q2⟩ := h1 acc u hu h
  unfold mLc
  rw [wp_bnd, hi]
  show Wp Q X (match lcL g mt me it.ok s.length (wipeM env vs) it.xs (s ++ [.lst []]) with | some t => _ | none => _)
  rw [e]
  have hg : (u ++ [Cell.lst acc])[s.length]? = some (.lst acc) := by rw [← hu]; simp
  have ht : (u ++ [Cell.lst acc]).take s.length = u := by rw [← hu]; simp
  simp only [if_true, hg]
  rw [if_pos ⟨by simp [hu], fun i c h hi => q1 i c (by rw [List.getElem?_append_left (by omega)] at h; exact h)⟩, ht]
  cases ef : acc.mapM (frzM (u ++ [.lst acc]) s.length 40) with
  | none => rw [ef] at q2; exact q2.elim
  | some acc' => rw [ef] at q2; exact q2
/-- what is walked, first -/
theorem wp_lcI {fr : Bool} {mi : MI} {g : MG} {mt : Ev → M Bool} {me : Ev → M MV} {vs : List Nat} : Wp Q X (mLc fr mi g mt me vs env s) = Wp (fun it t => Wp Q X (mLc fr (fun _ u => .ok it u) g mt me vs env t)) X (mi env s) := by
  unfold mLc
  rw [wp_bnd]
  congr 1
/-- .. that becomes a cell -/
theorem wp_lcC {mi : MI} {g : MG} {mt : Ev → M Bool} {me : Ev → M MV} {vs : List Nat} (it : IT) (I : List MV → List MV → Sto → Prop) (hi : mi env s = .ok it s) (h0 : I [] [] s) (ho : ∀ d acc u, u.length = s.length → I d acc u → it.ok (u ++ [.lst acc])) (hm : it.xs.length ≤ line)
    (hs : ∀ d x r acc u, it.xs = d ++ x :: r → u.length = s.length → I d acc u → Wp (fun e t => Wp (fun k t => (k = true → Wp (fun y t => ∃ u', t = u' ++ [.lst acc] ∧ u'.length = s.length ∧ I (d ++ [x]) (acc ++ [y]) u') noX (me e t)) ∧ (k = false → ∃ u', t = u' ++ [.lst acc] ∧ u'.length = s.length ∧ I (d ++ [x]) acc u')) noX (mt e t)) noX (g x (wipeM env vs) (u ++ [.lst acc])))
    (h1 : ∀ acc u, u.length = s.length → I it.xs acc u → Q (.ref s.length) (u ++ [.lst acc])) : Wp Q X (mLc false mi g mt me vs env s) := by
  obtain ⟨acc, u, e, hu, h⟩ := wp_lcL (env := wipeM env vs) I ho hm hs it.xs [] [] s rfl rfl (Nat.le_refl _) h0
  unfold mLc
  rw [wp_bnd, hi]
  show Wp Q X (match lcL g mt me it.ok s.length (wipeM env vs) it.xs (s ++ [.lst []]) with | some t => _ | none => _)
  rw [e]
  exact h1 acc u hu h
theorem mapM_id {α : Type} {f : α → Option α} : ∀ {xs : List α}, (∀ x ∈ xs, f x = some x) → xs.mapM f = some xs
  | [], _ => rfl
  | x :: xs, h => by
    rw [List.mapM_cons, h x List.mem_cons_self, mapM_id fun y hy => h y (List.mem_cons_of_mem _ hy)]
    rfl
/-- a typed one that keeps the store -/
theorem lc_map {α : Type} {f : α → MV} {ys : List α} {ok : Sto → Prop} {mi : MI} {g : MG} {mt : Ev → M Bool} {me : Ev → M MV} {vs : List Nat} (b : α → Bool) (v : α → MV) (hi : mi env s = .ok ⟨ys.map f, ok⟩ s)
    (h : ∀ y ∈ ys, ∀ a, ∃ e, g (f y) (wipeM env vs) (s ++ [.lst a]) = .ok e (s ++ [.lst a]) ∧ mt e (s ++ [.lst a]) = .ok (b y) (s ++ [.lst a]) ∧ (b y = true → me e (s ++ [.lst a]) = .ok (v y) (s ++ [.lst a]))) (ho : ∀ a, ok (s ++ [.lst a])) (hl : ys.length ≤ line) (hf : ∀ y ∈ ys, b y = true → ∀ a, frzM (s ++ [.lst a]) s.length 40 (v y) = some (v y)) :
    mLc true mi g mt me vs env s = .ok (.lst ((ys.filter b).map v)) s := by
  have q : Wp (fun r t => r = .lst ((ys.filter b).map v) ∧ t = s) noX (mLc true mi g mt me vs env s) := by
    refine wp_lc ⟨ys.map f, ok⟩ (fun d acc u => u = s ∧ ∃ d' r', ys = d' ++ r' ∧ d = d'.map f ∧ acc = (d'.filter b).map v) hi ⟨rfl, [], ys, rfl, rfl, rfl⟩ (fun d acc u _ ⟨e, _⟩ => by rw [e]; exact ho acc) (by simpa using hl) ?_ ?_
    · rintro d x r acc u hx hu ⟨rfl, d', r', hy, rfl, rfl⟩
      subst hy
      simp only [List.map_append, List.append_cancel_left_eq] at hx
      cases r' with
      | nil => simp at hx
      | cons y r' =>
        rw [List.map_cons, List.cons.injEq] at hx
        obtain ⟨rfl, rfl⟩ := hx
        obtain ⟨e, h1, h2, h3⟩ := h y (by simp) ((d'.filter b).map v)
        rw [h1]
        simp only [wp_ok, h2]
        refine ⟨fun hb => ?_, fun hb => ?_⟩
        · rw [h3 hb]
          exact ⟨u, rfl, rfl, rfl, d' ++ [y], r', by simp, by simp, by simp [hb]⟩
        · exact ⟨u, rfl, rfl, rfl, d' ++ [y], r', by simp, by simp, by simp [hb]⟩
    · rintro acc u hu ⟨rfl, d', r', hy, hd, rfl⟩
      have : r' = [] := by
        have := congrArg List.length hd
        rw [hy] at this
        simp at this
        exact this
      subst this
      rw [List.append_nil] at hy
      subst hy
      refine ⟨fun _ _ h => .inl h, ?_⟩
      rw [mapM_id fun x hx => by
        obtain ⟨y, hy, rfl⟩ := List.mem_map.mp hx
        exact hf y (List.mem_filter.mp hy).1 (List.mem_filter.mp hy).2 _]
      exact ⟨rfl, rfl⟩
  obtain ⟨a, t, e, rfl, rfl⟩ := q.out
  exact e
end
/-! ### cells -/
abbrev Heapy := List (Nat × (Cell → Prop))
structure Has (st : Sto) (L : Heapy) : Prop where
  nd : (L.map (·.1)).Nodup
  all : ∀ p ∈ L, ∃ c, st[p.1]? = some c ∧ p.2 c
abbrev Ls (xs : List MV) : Cell → Prop := fun c => c = .lst xs
section
variable {st : Sto} {L L1 L2 : Heapy} {i : Nat} {C C' : Cell → Prop} {c : Cell} {p : Nat × (Cell → Prop)}
theorem Has.nil : Has st [] := ⟨List.nodup_nil, fun _ h => by cases h⟩
theorem Has.get (h : Has st L) (m : (i, C) ∈ L) : ∃ c, st[i]? = some c ∧ C c := h.all _ m
theorem Has.ls {xs : List MV} (h : Has st L) (m : (i, Ls xs) ∈ L) : st[i]? = some (.lst xs) := by
  obtain ⟨c, e, rfl⟩ := h.get m
  exact e
theorem Has.lt (h : Has st L) (m : (i, C) ∈ L) : i < st.length := by
  obtain ⟨c, e, _⟩ := h.get m
  exact (List.getElem?_eq_some_iff.mp e).1
theorem Has.more (h : Has st L) (e : Sto) : Has (st ++ e) L := ⟨h.nd, fun p m => by
  obtain ⟨c, q, r⟩ := h.all p m
  exact ⟨c, by rw [List.getElem?_append_left (List.getElem?_eq_some_iff.mp q).1]; exact q, r⟩⟩
theorem Has.push (h : Has st L) (hc : C c) : Has (st ++ [c]) ((st.length, C) :: L) := ⟨by
  rw [List.map_cons, List.nodup_cons]
  refine ⟨fun z => ?_, h.nd⟩
  obtain ⟨p, m, e⟩ := List.mem_map.mp z
  obtain ⟨c', q, _⟩ := h.all p m
  have := (List.getElem?_eq_some_iff.mp q).1
  simp only [e] at this
  omega, fun p m => by
  rcases List.mem_cons.mp m with rfl | m
  · exact ⟨c, by simp, hc⟩
  · exact (h.more [c]).all p m⟩
theorem Has.tail (h : Has st (p :: L)) : Has st L := ⟨(List.nodup_cons.mp h.nd).2, fun q m => h.all q (List.mem_cons_of_mem _ m)⟩
theorem Has.ne0 {j : Nat} {D : Cell → Prop} (h : Has st ((i, C) :: L)) (m : (j, D) ∈ L) : j ≠ i := fun e => (List.nodup_cons.mp h.nd).1 (List.mem_map.mpr ⟨_, m, e⟩)
theorem Has.swap {p q : Nat × (Cell → Prop)} (h : Has st (p :: q :: L)) : Has st (q :: p :: L) := ⟨(List.Perm.nodup_iff (List.Perm.map _ (List.Perm.swap p q L))).mpr h.nd |> fun z => z, fun r m => h.all r (by
  rcases List.mem_cons.mp m with rfl | m
  · exact .tail _ (.head _)
  · rcases List.mem_cons.mp m with rfl | m
    · exact .head _
    · exact .tail _ (.tail _ m))⟩
theorem Has.upd0 (h : Has st ((i, C) :: L)) (hc : C' c) : Has (st.set i c) ((i, C') :: L) := ⟨h.nd, fun p m => by
  rcases List.mem_cons.mp m with rfl | m
  · refine ⟨c, ?_, hc⟩
    rw [List.getElem?_set_self (h.lt (C := C) (.head _))]
  · obtain ⟨d, q, r⟩ := h.all p (.tail _ m)
    refine ⟨d, ?_, r⟩
    rw [List.getElem?_set_ne (fun e => h.ne0 (j := p.1) (D := p.2) m e.symm)]
    exact q⟩
theorem Has.upd1 (h : Has st (p :: (i, C) :: L)) (hc : C' c) : Has (st.set i c) (p :: (i, C') :: L) := (h.swap.upd0 hc).swap
theorem Has.set (h : Has st L) (m : (i, C) ∈ L) (hc : C c) (hu : ∀ D, (i, D) ∈ L → D = C) : Has (st.set i c) L := ⟨h.nd, fun p q => by
  by_cases e : p.1 = i
  · refine ⟨c, by rw [e, List.getElem?_set_self (h.lt m)], ?_⟩
    have := hu p.2 (by rw [← e]; exact q)
    rw [this]; exact hc
  · obtain ⟨d, z, r⟩ := h.all p q
    exact ⟨d, by rw [List.getElem?_set_ne (fun w => e w.symm)]; exact z, r⟩⟩
theorem nodup_snd {α β : Type} : ∀ {l : List (α × β)} {i : α} {a b : β}, (l.map (·.1)).Nodup → (i, a) ∈ l → (i, b) ∈ l → a = b
  | [], _, _, _, _, h, _ => by cases h
  | (j, x) :: l, i, a, b, n, h1, h2 => by
    rw [List.map_cons, List.nodup_cons] at n
    rcases List.mem_cons.mp h1 with e1 | h1 <;> rcases List.mem_cons.mp h2 with e2 | h2
    · cases e1; cases e2; rfl
    · cases e1; exact absurd (List.mem_map.mpr ⟨_, h2, rfl⟩) n.1
    · cases e2; exact absurd (List.mem_map.mpr ⟨_, h1, rfl⟩) n.1
    · exact nodup_snd n.2 h1 h2
/-- a cell changed that stays of its kind -/
theorem Has.keep (h : Has st L) (m : (i, C) ∈ L) (hc : C c) : Has (st.set i c) L := h.set m hc fun D q => nodup_snd h.nd q m
end
end Z

namespace Z
open PySem L2
section
variable {α : Type} {env : Ev} {s : Sto} {Q Q' : MV → Prop} {P : Po} {X : Nat → List (Nat × MV) → Sto → Prop}
theorem WpO.imp {α : Type} {o : Option α} {Q Q' : α → Prop} (h : WpO Q o) (k : ∀ a, Q a → Q' a) : WpO Q' o := by
  cases o with
  | none => exact h
  | some a => exact k a h
theorem WpO.of {α : Type} {o : Option α} {Q : α → Prop} {a : α} (e : o = some a) (h : Q a) : WpO Q o := by rw [e]; exact h
/-- a halting place: what holds between two statements -/
theorem WpS.cut {f : Fl} {P : Po} (R : Ev → Sto → Prop) (h : WpS (P.thn R) f) (k : ∀ e t, R e t → P.n e t) : WpS P f := by
  cases f with
  | nx e t => exact k e t h
  | _ => exact h
@[simp ↓] theorem wp_mRev {Q : MV → Sto → Prop} (ma mk : Ev → M MV) : Wp Q X (mRev ma mk env s) = Wp (fun x t => Wp (fun k u => Wp Q X (revF x k u)) X (mk env t)) X (ma env s) := by
  unfold mRev; rw [wp_bnd]; congr 1; funext x t; rw [wp_bnd]
@[simp] theorem revF_t (xs : List MV) : revF (.tup xs) (.int (-1)) s = .ok (.tup xs.reverse) s := rfl
/-! ### sizes -/
def SzM (i j : Int) : Prop := mulOk i j = true
theorem SzM.nb {i j : Int} {m n : Nat} (hi : nb i ≤ m) (hj : nb j ≤ n) (h : m + n < 100000000) : SzM i j := by
  have := nb_log hi
  have := nb_log hj
  exact decide_eq_true (by omega)
theorem SzM.of {i j : Int} (hi : i.natAbs < 2 ^ 5000) (hj : j.natAbs < 2 ^ 5000) : SzM i j := SzM.nb (nb_lt hi) (nb_lt hj) (by decide)
/-- small ones, by omega -/
theorem SzM.sm {i j : Int} (hi : -1000000000000000000000000000000000000000000000000000000000000 ≤ i ∧ i ≤ 1000000000000000000000000000000000000000000000000000000000000) (hj : -1000000000000000000000000000000000000000000000000000000000000 ≤ j ∧ j ≤ 1000000000000000000000000000000000000000000000000000000000000) : SzM i j :=
  SzM.nb (nb_lt (m := 200) (by omega)) (nb_lt (m := 200) (by omega)) (by decide)
@[simp ↓] theorem wpo_mul (i j : Int) : WpO Q (bMul s (.int i) (.int j)) = (SzM i j ∧ Q (.int (i * j))) := by
  show WpO Q (if mulOk i j = true then some (MV.int (i * j)) else none) = _
  unfold SzM
  by_cases h : mulOk i j = true <;> simp [h]
@[simp] theorem mod_i {i j : Int} (h : 0 < j) : bMod s (.int i) (.int j) = some (.int (i % j)) := bMod_i h
@[simp] theorem div_i {i j : Int} (h : 0 < j) (h2 : j ≤ 1000000000000000000000000000000000000000000000000000000000000) : bDiv s (.int i) (.int j) = some (.int (i / j)) := divS (m := 200) h (nb_lt (by omega)) (by decide)
@[simp] theorem pow_i {i j : Int} (h : 0 ≤ j) (h2 : j ≤ 100000) (h3 : -1000000 ≤ i) (h4 : i ≤ 1000000) : bPow s (.int i) (.int j) = some (.int (i ^ j.toNat)) := by
  have : 0 ≤ j ∧ j ≤ 100000 ∧ i.natAbs < 2 ^ 64 := by refine ⟨h, h2, ?_⟩; omega
  simp only [bPow, this, and_self, if_true]
@[simp] theorem neg_i {i : Int} : uNeg s (.int i) = some (.int (-i)) := rfl
@[simp] theorem small_i (i : Int) : (small i = true) = (-1000000000 ≤ i ∧ i ≤ 1000000000) := by unfold small; simp
@[simp] theorem cNe_s (i j : Str) : cNe s (.str i) (.str j) = some (!decide (i = j)) := rfl
@[simp ↓] theorem wp_ownM {QM : MV → Sto → Prop} (cs : List (Nat × MF)) (g : MV → MV → M MV) (c : Nat) (xs ys : List MV) : Wp QM X (ownM cs g (.ins c xs) (.ins c ys) s) = WpO (fun mf => Wp QM X (mf [.ins c xs, .ins c ys] s)) (cs.lookup c) := by
  simp only [ownM, clsOf, if_true]
  cases cs.lookup c <;> rfl
@[simp] theorem ty_non  : tyM s (.non) = some .non := rfl
@[simp] theorem ty_bl (b : Bool) : tyM s (.bl b) = some .bl := rfl
@[simp] theorem ty_int (i : Int) : tyM s (.int i) = some .int := rfl
@[simp] theorem ty_str (x : Str) : tyM s (.str x) = some .str := rfl
@[simp] theorem ty_tup (xs : List MV) : tyM s (.tup xs) = some .tup := rfl
@[simp] theorem ty_lst (xs : List MV) : tyM s (.lst xs) = some .lst := rfl
@[simp] theorem isTup_non : isTup .non = some false := rfl
@[simp] theorem isTup_bl : isTup .bl = some false := rfl
@[simp] theorem isTup_int : isTup .int = some false := rfl
@[simp] theorem isTup_str : isTup .str = some false := rfl
@[simp] theorem isTup_tup : isTup .tup = some true := rfl
@[simp] theorem isTup_lst : isTup .lst = some false := rfl
@[simp] theorem isLst_non : isLst .non = some false := rfl
@[simp] theorem isLst_bl : isLst .bl = some false := rfl
@[simp] theorem isLst_int : isLst .int = some false := rfl
@[simp] theorem isLst_str : isLst .str = some false := rfl
@[simp] theorem isLst_tup : isLst .tup = some false := rfl
@[simp] theorem isLst_lst : isLst .lst = some true := rfl
@[simp] theorem isBl_non : isBl .non = some false := rfl
@[simp] theorem isBl_bl : isBl .bl = some true := rfl
@[simp] theorem isBl_int : isBl .int = some false := rfl
@[simp] theorem isBl_str : isBl .str = some false := rfl
@[simp] theorem isBl_tup : isBl .tup = some false := rfl
@[simp] theorem isBl_lst : isBl .lst = some false := rfl
@[simp] theorem isInt_non : isInt .non = some false := rfl
@[simp] theorem isInt_bl : isInt .bl = some true := rfl
@[simp] theorem isInt_int : isInt .int = some true := rfl
@[simp] theorem isInt_str : isInt .str = some false := rfl
@[simp] theorem isInt_tup : isInt .tup = some false := rfl
@[simp] theorem isInt_lst : isInt .lst = some false := rfl
@[simp] theorem isStr_non : isStr .non = some false := rfl
@[simp] theorem isStr_bl : isStr .bl = some false := rfl
@[simp] theorem isStr_int : isStr .int = some false := rfl
@[simp] theorem isStr_str : isStr .str = some true := rfl
@[simp] theorem isStr_tup : isStr .tup = some false := rfl
@[simp] theorem isStr_lst : isStr .lst = some false := rfl
@[simp] theorem look_mf (c d : Nat) (x : MF) (l : List (Nat × MF)) : List.lookup c ((d, x) :: l) = if (c == d) = true then some x else l.lookup c := by
  rw [List.lookup_cons]
  cases c == d <;> rfl
@[simp] theorem ty_ins (c : Nat) (xs : List MV) : tyM s (.ins c xs) = some (.own c) := rfl
@[simp] theorem isOwn_own (c d : Nat) : isOwn d (.own c) = some (c == d) := rfl
@[simp] theorem fld_ins (c f : Nat) (xs : List MV) : fldOf s f (.ins c xs) = zipLook (fieldsOf c) xs f := rfl
@[simp] theorem cNot_n (x : MV) : cNot s x .non = some (!isN x) := rfl
@[simp] theorem isN_n : isN .non = true := rfl
@[simp] theorem isN_i (i : Int) : isN (.int i) = false := rfl
@[simp] theorem isN_s (i : Str) : isN (.str i) = false := rfl
@[simp] theorem isN_t (i : List MV) : isN (.tup i) = false := rfl
@[simp] theorem isN_l (i : List MV) : isN (.lst i) = false := rfl
@[simp] theorem isN_r (i : Nat) : isN (.ref i) = false := rfl
@[simp] theorem isN_o (c : Nat) (i : List MV) : isN (.ins c i) = false := rfl
@[simp] theorem line_i : line = 100000 := rfl
/-! ### one of a written list -/
theorem atI_in {α : Type} {xs : List α} {i : Int} (h0 : 0 ≤ i) (h1 : i < xs.length) : ∃ x, atI xs i = some x ∧ x ∈ xs := by
  obtain ⟨n, rfl⟩ := Int.eq_ofNat_of_zero_le h0
  have hn : n < xs.length := by omega
  refine ⟨xs[n], ?_, List.getElem_mem hn⟩
  have := atI_n xs n
  rw [List.getElem?_eq_getElem hn] at this
  exact this
theorem wpo_any {xs : List MV} {i : Int} (h0 : 0 ≤ i) (h1 : i < xs.length) (R : MV → Prop) (h : ∀ x ∈ xs, R x) (k : ∀ v, R v → Q v) : WpO Q (ixF s (.lst xs) (.int i)) := by
  obtain ⟨x, e, m⟩ := atI_in h0 h1
  exact WpO.of (a := x) e (k x (h x m))
theorem wpo_anyT {xs : List MV} {i : Int} (h0 : 0 ≤ i) (h1 : i < xs.length) (R : MV → Prop) (h : ∀ x ∈ xs, R x) (k : ∀ v, R v → Q v) : WpO Q (ixF s (.tup xs) (.int i)) := by
  obtain ⟨x, e, m⟩ := atI_in h0 h1
  exact WpO.of (a := x) e (k x (h x m))
theorem ix_lst (xs : List MV) (i : Int) : ixF s (.lst xs) (.int i) = atI xs i := rfl
theorem ix_tup (xs : List MV) (i : Int) : ixF s (.tup xs) (.int i) = atI xs i := rfl
@[simp] theorem ix_ln (xs : List MV) (n : Nat) : ixF s (.lst xs) (.int (n : Int)) = xs[n]? := atI_n xs n
@[simp] theorem ix_tn (xs : List MV) (n : Nat) : ixF s (.tup xs) (.int (n : Int)) = xs[n]? := atI_n xs n
@[simp] theorem ixt3 (x0 x1 x2 x3 : MV) (xs : List MV) : ixF s (.tup (x0 :: x1 :: x2 :: x3 :: xs)) (.int 3) = some x3 := atI_n (x0 :: x1 :: x2 :: x3 :: xs) 3
@[simp] theorem ixt4 (x0 x1 x2 x3 x4 : MV) (xs : List MV) : ixF s (.tup (x0 :: x1 :: x2 :: x3 :: x4 :: xs)) (.int 4) = some x4 := atI_n (x0 :: x1 :: x2 :: x3 :: x4 :: xs) 4
@[simp] theorem ixt5 (x0 x1 x2 x3 x4 x5 : MV) (xs : List MV) : ixF s (.tup (x0 :: x1 :: x2 :: x3 :: x4 :: x5 :: xs)) (.int 5) = some x5 := atI_n (x0 :: x1 :: x2 :: x3 :: x4 :: x5 :: xs) 5
@[simp] theorem ixt6 (x0 x1 x2 x3 x4 x5 x6 : MV) (xs : List MV) : ixF s (.tup (x0 :: x1 :: x2 :: x3 :: x4 :: x5 :: x6 :: xs)) (.int 6) = some x6 := atI_n (x0 :: x1 :: x2 :: x3 :: x4 :: x5 :: x6 :: xs) 6
@[simp] theorem ixt7 (x0 x1 x2 x3 x4 x5 x6 x7 : MV) (xs : List MV) : ixF s (.tup (x0 :: x1 :: x2 :: x3 :: x4 :: x5 :: x6 :: x7 :: xs)) (.int 7) = some x7 := atI_n (x0 :: x1 :: x2 :: x3 :: x4 :: x5 :: x6 :: x7 :: xs) 7
@[simp] theorem ixt8 (x0 x1 x2 x3 x4 x5 x6 x7 x8 : MV) (xs : List MV) : ixF s (.tup (x0 :: x1 :: x2 :: x3 :: x4 :: x5 :: x6 :: x7 :: x8 :: xs)) (.int 8) = some x8 := atI_n (x0 :: x1 :: x2 :: x3 :: x4 :: x5 :: x6 :: x7 :: x8 :: xs) 8
@[simp] theorem ixt9 (x0 x1 x2 x3 x4 x5 x6 x7 x8 x9 : MV) (xs : List MV) : ixF s (.tup (x0 :: x1 :: x2 :: x3 :: x4 :: x5 :: x6 :: x7 :: x8 :: x9 :: xs)) (.int 9) = some x9 := atI_n (x0 :: x1 :: x2 :: x3 :: x4 :: x5 :: x6 :: x7 :: x8 :: x9 :: xs) 9
@[simp] theorem ixt10 (x0 x1 x2 x3 x4 x5 x6 x7 x8 x9 x10 : MV) (xs : List MV) : ixF s (.tup (x0 :: x1 :: x2 :: x3 :: x4 :: x5 :: x6 :: x7 :: x8 :: x9 :: x10 :: xs)) (.int 10) = some x10 := atI_n (x0 :: x1 :: x2 :: x3 :: x4 :: x5 :: x6 :: x7 :: x8 :: x9 :: x10 :: xs) 10
@[simp] theorem ixt11 (x0 x1 x2 x3 x4 x5 x6 x7 x8 x9 x10 x11 : MV) (xs : List MV) : ixF s (.tup (x0 :: x1 :: x2 :: x3 :: x4 :: x5 :: x6 :: x7 :: x8 :: x9 :: x10 :: x11 :: xs)) (.int 11) = some x11 := atI_n (x0 :: x1 :: x2 :: x3 :: x4 :: x5 :: x6 :: x7 :: x8 :: x9 :: x10 :: x11 :: xs) 11
@[simp] theorem ixl2 (x0 x1 x2 : MV) (xs : List MV) : ixF s (.lst (x0 :: x1 :: x2 :: xs)) (.int 2) = some x2 := atI_n (x0 :: x1 :: x2 :: xs) 2
@[simp] theorem ixl3 (x0 x1 x2 x3 : MV) (xs : List MV) : ixF s (.lst (x0 :: x1 :: x2 :: x3 :: xs)) (.int 3) = some x3 := atI_n (x0 :: x1 :: x2 :: x3 :: xs) 3
@[simp] theorem ixl4 (x0 x1 x2 x3 x4 : MV) (xs : List MV) : ixF s (.lst (x0 :: x1 :: x2 :: x3 :: x4 :: xs)) (.int 4) = some x4 := atI_n (x0 :: x1 :: x2 :: x3 :: x4 :: xs) 4
@[simp] theorem ixl5 (x0 x1 x2 x3 x4 x5 : MV) (xs : List MV) : ixF s (.lst (x0 :: x1 :: x2 :: x3 :: x4 :: x5 :: xs)) (.int 5) = some x5 := atI_n (x0 :: x1 :: x2 :: x3 :: x4 :: x5 :: xs) 5
@[simp] theorem ixl6 (x0 x1 x2 x3 x4 x5 x6 : MV) (xs : List MV) : ixF s (.lst (x0 :: x1 :: x2 :: x3 :: x4 :: x5 :: x6 :: xs)) (.int 6) = some x6 := atI_n (x0 :: x1 :: x2 :: x3 :: x4 :: x5 :: x6 :: xs) 6
@[simp] theorem ixl7 (x0 x1 x2 x3 x4 x5 x6 x7 : MV) (xs : List MV) : ixF s (.lst (x0 :: x1 :: x2 :: x3 :: x4 :: x5 :: x6 :: x7 :: xs)) (.int 7) = some x7 := atI_n (x0 :: x1 :: x2 :: x3 :: x4 :: x5 :: x6 :: x7 :: xs) 7
@[simp] theorem ixl8 (x0 x1 x2 x3 x4 x5 x6 x7 x8 : MV) (xs : List MV) : ixF s (.lst (x0 :: x1 :: x2 :: x3 :: x4 :: x5 :: x6 :: x7 :: x8 :: xs)) (.int 8) = some x8 := atI_n (x0 :: x1 :: x2 :: x3 :: x4 :: x5 :: x6 :: x7 :: x8 :: xs) 8
@[simp] theorem ixl9 (x0 x1 x2 x3 x4 x5 x6 x7 x8 x9 : MV) (xs : List MV) : ixF s (.lst (x0 :: x1 :: x2 :: x3 :: x4 :: x5 :: x6 :: x7 :: x8 :: x9 :: xs)) (.int 9) = some x9 := atI_n (x0 :: x1 :: x2 :: x3 :: x4 :: x5 :: x6 :: x7 :: x8 :: x9 :: xs) 9
@[simp] theorem ixl10 (x0 x1 x2 x3 x4 x5 x6 x7 x8 x9 x10 : MV) (xs : List MV) : ixF s (.lst (x0 :: x1 :: x2 :: x3 :: x4 :: x5 :: x6 :: x7 :: x8 :: x9 :: x10 :: xs)) (.int 10) = some x10 := atI_n (x0 :: x1 :: x2 :: x3 :: x4 :: x5 :: x6 :: x7 :: x8 :: x9 :: x10 :: xs) 10
@[simp] theorem ixl11 (x0 x1 x2 x3 x4 x5 x6 x7 x8 x9 x10 x11 : MV) (xs : List MV) : ixF s (.lst (x0 :: x1 :: x2 :: x3 :: x4 :: x5 :: x6 :: x7 :: x8 :: x9 :: x10 :: x11 :: xs)) (.int 11) = some x11 := atI_n (x0 :: x1 :: x2 :: x3 :: x4 :: x5 :: x6 :: x7 :: x8 :: x9 :: x10 :: x11 :: xs) 11
theorem ix_m1 {α : Type} (xs : List α) (i : Int) (h : 0 ≤ i) : atI xs i = xs[i.toNat]? := by
  obtain ⟨n, rfl⟩ := Int.eq_ofNat_of_zero_le h
  exact atI_n xs n
theorem cut_lo (xs : List MV) (k : Nat) : cutM xs (some (k : Int)) none = xs.drop k := by
  unfold cutM
  rw [HT.sIx_nat, HT.sIx_none]
  by_cases h : k ≤ xs.length
  · rw [Nat.min_eq_left h, List.take_of_length_le (by rw [List.length_drop]; omega)]
  · rw [Nat.min_eq_right (by omega), List.drop_of_length_le (Nat.le_refl _), List.drop_of_length_le (by omega)]; simp
theorem cut_hi (xs : List MV) (k : Nat) : cutM xs none (some (k : Int)) = xs.take k := by
  unfold cutM
  rw [HT.sIx_nat, HT.sIx_none, List.drop_zero, Nat.sub_zero]
  by_cases h : k ≤ xs.length
  · rw [Nat.min_eq_left h]
  · rw [Nat.min_eq_right (by omega), List.take_of_length_le (Nat.le_refl _), List.take_of_length_le (by omega)]
theorem cut_two (xs : List MV) (i j : Nat) : cutM xs (some (i : Int)) (some (j : Int)) = (xs.drop i).take (j - i) := by
  unfold cutM
  rw [HT.sIx_nat, HT.sIx_nat]
  by_cases h : i ≤ xs.length
  · rw [Nat.min_eq_left h]
    by_cases h2 : j ≤ xs.length
    · rw [Nat.min_eq_left h2]
    · rw [Nat.min_eq_right (by omega), List.take_of_length_le (by rw [List.length_drop]; omega), List.take_of_length_le (by rw [List.length_drop]; omega)]
  · rw [Nat.min_eq_right (by omega : xs.length ≤ i), List.drop_of_length_le (Nat.le_refl _), List.drop_of_length_le (by omega)]; simp
theorem cut_loI (xs : List MV) (i : Int) (h : 0 ≤ i) : cutM xs (some i) none = xs.drop i.toNat := by
  obtain ⟨n, rfl⟩ := Int.eq_ofNat_of_zero_le h
  exact cut_lo xs n
theorem cut_hiI (xs : List MV) (i : Int) (h : 0 ≤ i) : cutM xs none (some i) = xs.take i.toNat := by
  obtain ⟨n, rfl⟩ := Int.eq_ofNat_of_zero_le h
  exact cut_hi xs n
theorem cut_twoI (xs : List MV) (i j : Int) (h : 0 ≤ i) (h2 : 0 ≤ j) : cutM xs (some i) (some j) = (xs.drop i.toNat).take (j.toNat - i.toNat) := by
  obtain ⟨n, rfl⟩ := Int.eq_ofNat_of_zero_le h
  obtain ⟨m, rfl⟩ := Int.eq_ofNat_of_zero_le h2
  exact cut_two xs n m
@[simp] theorem sl_t (fr : Bool) (xs : List MV) (lo hi : Option Int) : slF fr (.tup xs) lo hi s = .ok (.tup (cutM xs lo hi)) s := rfl
@[simp] theorem sl_l (xs : List MV) (lo hi : Option Int) : slF true (.lst xs) lo hi s = .ok (.lst (cutM xs lo hi)) s := rfl
theorem mVar_ok {i : Nat} {v : MV} (h : env.getD i none = some v) (hv : v ≠ .exc) : mVar i env s = .ok v s := by
  rw [mVar_run, h]
  cases v <;> first | rfl | exact absurd rfl hv
theorem atI_last {α : Type} (xs : List α) (x : α) : atI (xs ++ [x]) (-1) = some x := by
  unfold atI ixN
  rw [if_neg (by omega), if_pos (by simp; omega)]
  simp
  have : ((-1 : Int) + ((xs.length : Int) + 1)).toNat = xs.length := by omega
  rw [this]; simp
theorem setL_last {n : Nat} {xs : List MV} {x v : MV} (h : s[n]? = some (.lst (xs ++ [x]))) : setL (.ref n) (.int (-1)) v s = some (s.set n (.lst (xs ++ [v]))) := by
  have e : ixN (xs ++ [x]).length (-1) = some xs.length := by
    unfold ixN
    rw [if_neg (by omega), if_pos (by simp; omega)]
    simp
    omega
  simp only [setL, h, e]
  simp
theorem last_of {α : Type} {xs : List α} (h : xs ≠ []) : ∃ ys y, xs = ys ++ [y] := ⟨xs.dropLast, xs.getLast h, (List.dropLast_concat_getLast h).symm⟩
/-! ### cells -/
theorem ix_ref {n : Nat} {xs : List MV} (h : s[n]? = some (.lst xs)) (i : Int) : ixF s (.ref n) (.int i) = atI xs i := by
  show (match seqOf s (.ref n) with | some xs => atI xs i | none => none) = _
  simp only [seqOf, h]
theorem cat_l {xs ys : List MV} (h : xs.length + ys.length ≤ 100000) : bAdd s (.lst xs) (.lst ys) = some (.lst (xs ++ ys)) := by
  show catOf s (.lst xs) (.lst ys) = _
  have h' : xs.length + ys.length ≤ line := h
  simp only [catOf, Z.listOf, if_pos h']
theorem cat_lr {n : Nat} {xs ys : List MV} (e : s[n]? = some (.lst ys)) (h : xs.length + ys.length ≤ 100000) : bAdd s (.lst xs) (.ref n) = some (.lst (xs ++ ys)) := by
  show catOf s (.lst xs) (.ref n) = _
  have h' : xs.length + ys.length ≤ line := h
  simp only [catOf, Z.listOf, e, if_pos h']
theorem cat_rl {n : Nat} {xs ys : List MV} (e : s[n]? = some (.lst xs)) (h : xs.length + ys.length ≤ 100000) : bAdd s (.ref n) (.lst ys) = some (.lst (xs ++ ys)) := by
  show catOf s (.ref n) (.lst ys) = _
  have h' : xs.length + ys.length ≤ line := h
  simp only [catOf, Z.listOf, e, if_pos h']
theorem cat_t {xs ys : List MV} (h : xs.length + ys.length ≤ 100000) : bAdd s (.tup xs) (.tup ys) = some (.tup (xs ++ ys)) := by
  have h' : ¬ line < xs.length + ys.length := Nat.not_lt.mpr h
  simp only [bAdd, h', if_false]
theorem cat_s {x y : Str} (h : x.length + y.length ≤ 100000) : bAdd s (.str x) (.str y) = some (.str (x ++ y)) := by
  have h' : x.length + y.length ≤ line := h
  simp only [bAdd, if_pos h']
theorem pop_ref {n : Nat} {xs : List MV} {y : MV} (e : s[n]? = some (.lst xs)) (h : xs.getLast? = some y) : fPop (.ref n) [] s = .ok y (s.set n (.lst xs.dropLast)) := by
  rw [List.getLast?_eq_getElem?] at h
  simp only [fPop, onLs, e, h]
theorem popAt_ref {n : Nat} {xs : List MV} {i : Int} {y : MV} (e : s[n]? = some (.lst xs)) (h0 : 0 ≤ i) (hm : i ≤ 1000000000) (h : xs[i.toNat]? = some y) : fPopAt (.ref n) [.int i] s = .ok y (s.set n (.lst (xs.eraseIdx i.toNat))) := by
  have hl := (List.getElem?_eq_some_iff.mp h).1
  have e2 : ixN xs.length i = some i.toNat := by unfold ixN; rw [if_pos h0, if_pos (by omega)]
  have e3 : small i = true := decide_eq_true (by omega)
  simp only [fPopAt, onLs, e, e2, h, e3, if_true]
theorem len_ref {n : Nat} {xs : List MV} (h : s[n]? = some (.lst xs)) : fLen s [.ref n] = some (.int xs.length) := by
  simp [fLen, seqOf, h]
@[simp] theorem len_lst {xs : List MV} : fLen s [.lst xs] = some (.int xs.length) := rfl
@[simp] theorem len_tup {xs : List MV} : fLen s [.tup xs] = some (.int xs.length) := rfl
theorem len_str {x : Str} (h : x.length ≤ 100000) : fLen s [.str x] = some (.int x.length) := by simp [fLen, h]
theorem list_ref {n : Nat} {xs : List MV} (h : s[n]? = some (.lst xs)) : fList s [.ref n] = some xs := by
  simp [fList, seqOf, h]
@[simp] theorem list_lst {xs : List MV} : fList s [.lst xs] = some xs := rfl
@[simp] theorem list_tup {xs : List MV} : fList s [.tup xs] = some xs := rfl
theorem tuple_ref {n : Nat} {xs : List MV} (h : s[n]? = some (.lst xs)) : fTuple s [.ref n] = some (.tup xs) := by
  simp [fTuple, seqOf, h]
@[simp] theorem tuple_lst {xs : List MV} : fTuple s [.lst xs] = some (.tup xs) := rfl
@[simp] theorem tuple_tup {xs : List MV} : fTuple s [.tup xs] = some (.tup xs) := rfl
theorem it_ref {n : Nat} {xs : List MV} (h : s[n]? = some (.lst xs)) : itOf s (.ref n) = some ⟨xs, fun t => t[n]? = some (.lst xs)⟩ := by
  simp [itOf, lsOf, seqOf, h, okOf]
@[simp] theorem it_lst {xs : List MV} : itOf s (.lst xs) = some ⟨xs, fun _ => True⟩ := rfl
@[simp] theorem it_tup {xs : List MV} : itOf s (.tup xs) = some ⟨xs, fun _ => True⟩ := rfl
theorem isLs_ref {n : Nat} {xs : List MV} (h : s[n]? = some (.lst xs)) : isLs s (.ref n) = true := isLs_r h
theorem append_ref {n : Nat} {xs : List MV} {y : MV} (h : s[n]? = some (.lst xs)) (hl : xs.length < 100000) : fAppend (.ref n) [y] s = .ok .non (s.set n (.lst (xs ++ [y]))) := fAppend_r y h (by simpa using hl)
theorem setL_ref {n : Nat} {xs : List MV} {v : MV} {i : Int} (h : s[n]? = some (.lst xs)) (h0 : 0 ≤ i) (h1 : i < xs.length) : setL (.ref n) (.int i) v s = some (s.set n (.lst (xs.set i.toNat v))) := by
  simp only [setL, h, ixN, if_pos h0, if_pos h1]
end
end Z

namespace Z
open PySem L2
/-! ### plain data: ==, in -/
def sok (x : Str) : Bool := PyData.canLay0 (.str x)
def plB : Nat → MV → Bool
  | 0, _ => false
  | _ + 1, .non => true
  | _ + 1, .int _ => true
  | _ + 1, .str x => sok x
  | k + 1, .tup xs => xs.all (plB k)
  | k + 1, .lst xs => xs.all (plB k)
  | _ + 1, _ => false
def pyM : Nat → MV → PyData
  | k + 1, .tup xs => .tuple (xs.map (pyM k))
  | k + 1, .lst xs => .list (xs.map (pyM k))
  | _, .int i => .int i
  | _, .str x => .str x
  | _, _ => .none
abbrev Pl (x : MV) : Prop := plB 12 x = true
theorem pl_all {k : Nat} {xs : List MV} {s : Sto} (ih : ∀ x, plB k x = true → ∀ j, k ≤ j → toPy s j x = some (pyM k x)) {j : Nat} (hj : k ≤ j) : ∀ {xs : List MV}, xs.all (plB k) = true → xs.mapM (toPy s j) = some (xs.map (pyM k))
  | [], _ => rfl
  | x :: xs, h => by
    rw [List.all_cons, Bool.and_eq_true] at h
    rw [List.mapM_cons, ih x h.1 j hj, pl_all (s := s) (xs := []) ih hj h.2]
    rfl
theorem pl_py {s : Sto} : ∀ (k : Nat) (x : MV), plB k x = true → ∀ j, k ≤ j → toPy s j x = some (pyM k x) := by
  intro k
  induction k with
  | zero => intro x h; cases x <;> cases h
  | succ k ih =>
    intro x h j hj
    obtain ⟨j, rfl⟩ : ∃ i, j = i + 1 := ⟨j - 1, by omega⟩
    cases x with
    | tup xs => show (xs.mapM (toPy s j)).map PyData.tuple = _; rw [pl_all (xs := []) ih (by omega) h]; rfl
    | lst xs => show (xs.mapM (toPy s j)).map PyData.list = _; rw [pl_all (xs := []) ih (by omega) h]; rfl
    | non => rfl
    | int i => rfl
    | str i => rfl
    | _ => cases h
theorem pl_layA {k : Nat} (ih : ∀ x, plB k x = true → (pyM k x).canLay0 = true ∧ (pyM k x).depth ≤ k) : ∀ {xs : List MV}, xs.all (plB k) = true → PyData.canLayAll0 (xs.map (pyM k)) = true ∧ PyData.depthAll (xs.map (pyM k)) ≤ k
  | [], _ => ⟨rfl, Nat.zero_le _⟩
  | x :: xs, h => by
    rw [List.all_cons, Bool.and_eq_true] at h
    have h1 := ih x h.1
    have h2 := pl_layA ih h.2
    refine ⟨?_, ?_⟩
    · show ((pyM k x).canLay0 && PyData.canLayAll0 (xs.map (pyM k))) = true
      rw [h1.1, h2.1]; rfl
    · show max _ _ ≤ k
      exact Nat.max_le.mpr ⟨h1.2, h2.2⟩
theorem pl_lay : ∀ (k : Nat) (x : MV), plB k x = true → (pyM k x).canLay0 = true ∧ (pyM k x).depth ≤ k := by
  intro k
  induction k with
  | zero => intro x h; cases x <;> cases h
  | succ k ih =>
    intro x h
    cases x with
    | tup xs =>
      have := pl_layA ih (xs := xs) h
      exact ⟨this.1, by simp only [pyM, PyData.depth]; omega⟩
    | lst xs =>
      have := pl_layA ih (xs := xs) h
      exact ⟨this.1, by simp only [pyM, PyData.depth]; omega⟩
    | non => exact ⟨rfl, by simp [pyM, PyData.depth]⟩
    | int i => exact ⟨rfl, by simp [pyM, PyData.depth]⟩
    | str i => exact ⟨h, by simp [pyM, PyData.depth]⟩
    | _ => cases h
theorem pl_eqA {k : Nat} (ih : ∀ x y, plB k x = true → plB k y = true → (PyData.eqv (pyM k x) (pyM k y) = true ↔ x = y)) : ∀ {xs ys : List MV}, xs.all (plB k) = true → ys.all (plB k) = true → (PyData.eqvAll (xs.map (pyM k)) (ys.map (pyM k)) = true ↔ xs = ys)
  | [], [], _, _ => by simp [PyData.eqvAll]
  | [], y :: ys, _, _ => by simp [PyData.eqvAll]
  | x :: xs, [], _, _ => by simp [PyData.eqvAll]
  | x :: xs, y :: ys, h, h' => by
    rw [List.all_cons, Bool.and_eq_true] at h h'
    show (PyData.eqv (pyM k x) (pyM k y) && PyData.eqvAll (xs.map (pyM k)) (ys.map (pyM k))) = true ↔ _
    rw [Bool.and_eq_true, ih x y h.1 h'.1, pl_eqA ih h.2 h'.2, List.cons.injEq]
theorem pl_eq : ∀ (k : Nat) (x y : MV), plB k x = true → plB k y = true → (PyData.eqv (pyM k x) (pyM k y) = true ↔ x = y) := by
  intro k
  induction k with
  | zero => intro x y h; cases x <;> cases h
  | succ k ih =>
    intro x y h h'
    cases x with
    | tup xs =>
      cases y with
      | tup ys => simpa [pyM, PyData.eqv] using pl_eqA ih (xs := xs) (ys := ys) h h'
      | bl b => cases h'
      | frz b => cases h'
      | ins c b => cases h'
      | ref n => cases h'
      | fn n => cases h'
      | exc => cases h'
      | _ => simp [pyM, PyData.eqv]
    | lst xs =>
      cases y with
      | lst ys => simpa [pyM, PyData.eqv] using pl_eqA ih (xs := xs) (ys := ys) h h'
      | bl b => cases h'
      | frz b => cases h'
      | ins c b => cases h'
      | ref n => cases h'
      | fn n => cases h'
      | exc => cases h'
      | _ => simp [pyM, PyData.eqv]
    | non =>
      cases y with
      | bl b => cases h'
      | frz b => cases h'
      | ins c b => cases h'
      | ref n => cases h'
      | fn n => cases h'
      | exc => cases h'
      | _ => simp [pyM, PyData.eqv]
    | int i =>
      cases y with
      | bl b => cases h'
      | frz b => cases h'
      | ins c b => cases h'
      | ref n => cases h'
      | fn n => cases h'
      | exc => cases h'
      | _ => simp [pyM, PyData.eqv]
    | str i =>
      cases y with
      | bl b => cases h'
      | frz b => cases h'
      | ins c b => cases h'
      | ref n => cases h'
      | fn n => cases h'
      | exc => cases h'
      | _ => simp [pyM, PyData.eqv]
    | _ => cases h
theorem pl_shape {k : Nat} {x : MV} (h : plB k x = true) (hk : k ≤ 64) : SeqAt.shaped (pyM k x) = true := by
  have q := pl_lay k x h
  unfold SeqAt.shaped
  rw [q.1, Bool.true_and]
  exact decide_eq_true (by omega)
open Classical in
theorem deep_pl {s : Sto} {x y x' y' : MV} (hx : Pl x') (hy : Pl y') (ex : toPy s 30 x = toPy s 30 x') (ey : toPy s 30 y = toPy s 30 y') : deepEq s x y = some (decide (x' = y')) := by
  unfold deepEq
  rw [ex, ey, pl_py 12 x' hx 30 (by omega), pl_py 12 y' hy 30 (by omega)]
  simp only []
  rw [if_pos ⟨pl_shape hx (by omega), pl_shape hy (by omega)⟩]
  by_cases h : x' = y'
  · rw [decide_eq_true h, (pl_eq 12 x' y' hx hy).mpr h]
  · rw [decide_eq_false h]
    cases e : PyData.eqv (pyM 12 x') (pyM 12 y') with
    | false => rfl
    | true => exact absurd ((pl_eq 12 x' y' hx hy).mp e) h
open Classical in
theorem eq_pl {s : Sto} {x y : MV} (hx : Pl x) (hy : Pl y) : cEq s x y = some (decide (x = y)) := by
  have d := deep_pl (s := s) hx hy rfl rfl
  cases x <;> cases y <;> first | exact d | (simp [cEq]; done) | (exfalso; revert hx hy; simp [plB]; done)
open Classical in
theorem wpo_neP {s : Sto} {Q : Bool → Prop} {x y x' y' : MV} (hx : Pl x') (hy : Pl y') (ex : toPy s 30 x = toPy s 30 x') (ey : toPy s 30 y = toPy s 30 y') (e : cEq s x y = deepEq s x y) (h1 : x' = y' → Q false) (h0 : x' ≠ y' → Q true) : WpO Q (cNe s x y) := by
  unfold cNe
  rw [e, deep_pl hx hy ex ey]
  by_cases h : x' = y'
  · rw [decide_eq_true h]; exact h1 h
  · rw [decide_eq_false h]; exact h0 h
open Classical in
theorem wpo_eqP {s : Sto} {Q : Bool → Prop} {x y x' y' : MV} (hx : Pl x') (hy : Pl y') (ex : toPy s 30 x = toPy s 30 x') (ey : toPy s 30 y = toPy s 30 y') (e : cEq s x y = deepEq s x y) (h1 : x' = y' → Q true) (h0 : x' ≠ y' → Q false) : WpO Q (cEq s x y) := by
  rw [e, deep_pl hx hy ex ey]
  by_cases h : x' = y'
  · rw [decide_eq_true h]; exact h1 h
  · rw [decide_eq_false h]; exact h0 h
theorem toPy_refK {s : Sto} {q k : Nat} {xs : List MV} (h : s[q]? = some (.lst xs)) : toPy s (k + 1) (.ref q) = toPy s (k + 1) (.lst xs) := by
  simp only [toPy, h]
theorem toPy_l2 {s : Sto} {k : Nat} {a b a' b' : MV} (h1 : toPy s k a = toPy s k a') (h2 : toPy s k b = toPy s k b') : toPy s (k + 1) (.lst [a, b]) = toPy s (k + 1) (.lst [a', b']) := by
  simp only [toPy, List.mapM_cons, h1, h2]
theorem toPy_ref {s : Sto} {q : Nat} {xs : List MV} (h : s[q]? = some (.lst xs)) : toPy s 30 (.ref q) = toPy s 30 (.lst xs) := by
  simp only [toPy, h]
open Classical in
theorem eq_ref {s : Sto} {q : Nat} {xs : List MV} {y : MV} (h : s[q]? = some (.lst xs)) (hx : Pl (.lst xs)) (hy : Pl y) : cEq s (.ref q) y = some (decide (.lst xs = y)) := by
  have d := deep_pl (s := s) hx hy (toPy_ref h) rfl
  cases y <;> exact d
section
variable {s : Sto} {Q : Bool → Prop} {x y : MV} {q : Nat} {xs ys : List MV}
open Classical in
theorem wpo_eq (hx : Pl x) (hy : Pl y) (h1 : x = y → Q true) (h0 : x ≠ y → Q false) : WpO Q (cEq s x y) := by
  rw [eq_pl hx hy]
  by_cases h : x = y
  · rw [decide_eq_true h]; exact h1 h
  · rw [decide_eq_false h]; exact h0 h
open Classical in
theorem wpo_ne (hx : Pl x) (hy : Pl y) (h1 : x = y → Q false) (h0 : x ≠ y → Q true) : WpO Q (cNe s x y) := by
  unfold cNe
  rw [eq_pl hx hy]
  by_cases h : x = y
  · rw [decide_eq_true h]; exact h1 h
  · rw [decide_eq_false h]; exact h0 h
open Classical in
theorem wpo_eqR (h : s[q]? = some (.lst xs)) (hx : Pl (.lst xs)) (hy : Pl y) (h1 : .lst xs = y → Q true) (h0 : .lst xs ≠ y → Q false) : WpO Q (cEq s (.ref q) y) := by
  rw [eq_ref h hx hy]
  by_cases h : .lst xs = y
  · rw [decide_eq_true h]; exact h1 h
  · rw [decide_eq_false h]; exact h0 h
open Classical in
theorem wpo_neR (h : s[q]? = some (.lst xs)) (hx : Pl (.lst xs)) (hy : Pl y) (h1 : .lst xs = y → Q false) (h0 : .lst xs ≠ y → Q true) : WpO Q (cNe s (.ref q) y) := by
  unfold cNe
  rw [eq_ref h hx hy]
  by_cases h : .lst xs = y
  · rw [decide_eq_true h]; exact h1 h
  · rw [decide_eq_false h]; exact h0 h
end
/-! in -/
open Classical in
theorem in_pl {s : Sto} {x y : MV} {ys : List MV} (e : seqOf s y = some ys) (hx : Pl x) (hy : ∀ z ∈ ys, Pl z) : cIn s x y = some (decide (x ∈ ys)) := by
  unfold cIn
  rw [e]
  simp only []
  by_cases hf : (flatM x && ys.all flatM) = true
  · rw [if_pos hf]
    rw [Bool.and_eq_true] at hf
    congr 1
    have key : ∀ z ∈ ys, (flatEq z x = true ↔ z = x) := fun z hz => by
      have h1 := hy z hz
      have h2 := List.all_eq_true.mp hf.2 z hz
      cases z <;> cases x <;> first | (simp [flatEq]; done) | (exfalso; revert h1 hx; simp [plB]; done) | (exfalso; revert h2; simp [flatM]; done) | (exfalso; have := hf.1; revert this; simp [flatM]; done)
    rw [Bool.eq_iff_iff, List.any_eq_true, decide_eq_true_iff]
    constructor
    · rintro ⟨z, hz, h⟩
      rw [← (key z hz).mp h]; exact hz
    · exact fun h => ⟨x, h, (key x h).mpr rfl⟩
  · rw [if_neg hf]
    unfold deepIn
    have hall : ys.all (plB 12) = true := List.all_eq_true.mpr hy
    have em : ys.mapM (toPy s 30) = some (ys.map (pyM 12)) := pl_all (s := s) (xs := []) (fun x h j hj => pl_py 12 x h j hj) (by omega) hall
    rw [pl_py 12 x hx 30 (by omega), em]
    simp only []
    have sh : SeqAt.shaped (.list (ys.map (pyM 12))) = true := pl_shape (k := 13) (x := .lst ys) (by simpa [plB] using hy) (by omega)
    rw [if_pos ⟨pl_shape hx (by omega), sh⟩]
    congr 1
    rw [Bool.eq_iff_iff, List.any_eq_true, decide_eq_true_iff]
    constructor
    · rintro ⟨d, hd, h⟩
      obtain ⟨z, hz, rfl⟩ := List.mem_map.mp hd
      rw [← (pl_eq 12 z x (hy z hz) hx).mp h]; exact hz
    · exact fun h => ⟨pyM 12 x, List.mem_map.mpr ⟨x, h, rfl⟩, (pl_eq 12 x x hx hx).mpr rfl⟩
section
variable {s : Sto} {Q : Bool → Prop} {x y : MV} {ys : List MV}
open Classical in
theorem wpo_in (e : seqOf s y = some ys) (hx : Pl x) (hy : ∀ z ∈ ys, Pl z) (h1 : x ∈ ys → Q true) (h0 : x ∉ ys → Q false) : WpO Q (cIn s x y) := by
  rw [in_pl e hx hy]
  by_cases h : x ∈ ys
  · rw [decide_eq_true h]; exact h1 h
  · rw [decide_eq_false h]; exact h0 h
open Classical in
theorem wpo_nin (e : seqOf s y = some ys) (hx : Pl x) (hy : ∀ z ∈ ys, Pl z) (h1 : x ∈ ys → Q false) (h0 : x ∉ ys → Q true) : WpO Q (cNin s x y) := by
  unfold cNin
  rw [in_pl e hx hy]
  by_cases h : x ∈ ys
  · rw [decide_eq_true h]; exact h1 h
  · rw [decide_eq_false h]; exact h0 h
end
theorem seq_ref {s : Sto} {q : Nat} {xs : List MV} (h : s[q]? = some (.lst xs)) : seqOf s (.ref q) = some xs := by simp [seqOf, h]
/-! what stays when the store is cut -/
theorem pl_frzA {k j : Nat} {t : Sto} {n : Nat} (ih : ∀ x, plB k x = true → frzM t n j x = some x) : ∀ {xs : List MV}, xs.all (plB k) = true → xs.mapM (frzM t n j) = some xs
  | [], _ => rfl
  | x :: xs, h => by
    rw [List.all_cons, Bool.and_eq_true] at h
    rw [List.mapM_cons, ih x h.1, pl_frzA ih h.2]; rfl
theorem pl_frz {t : Sto} {n : Nat} : ∀ (k : Nat) (x : MV), plB k x = true → ∀ j, k ≤ j → frzM t n j x = some x := by
  intro k
  induction k with
  | zero => intro x h; cases x <;> cases h
  | succ k ih =>
    intro x h j hj
    obtain ⟨j, rfl⟩ : ∃ i, j = i + 1 := ⟨j - 1, by omega⟩
    cases x with
    | tup xs => show (xs.mapM (frzM t n j)).map MV.tup = _; rw [pl_frzA (fun x h => ih x h j (by omega)) h]; rfl
    | lst xs => show (xs.mapM (frzM t n j)).map MV.lst = _; rw [pl_frzA (fun x h => ih x h j (by omega)) h]; rfl
    | non => rfl
    | int i => rfl
    | str i => rfl
    | _ => cases h
theorem Pl.flat {x : MV} (h : Pl x) : Flat x := fun t n => pl_frz 12 x h 40 (by omega)
theorem pl_mono : ∀ (k : Nat) (x : MV), plB k x = true → ∀ j, k ≤ j → plB j x = true := by
  intro k
  induction k with
  | zero => intro x h; cases x <;> cases h
  | succ k ih =>
    intro x h j hj
    obtain ⟨j, rfl⟩ : ∃ i, j = i + 1 := ⟨j - 1, by omega⟩
    cases x with
    | tup xs => exact List.all_eq_true.mpr fun y hy => ih y (List.all_eq_true.mp h y hy) j (by omega)
    | lst xs => exact List.all_eq_true.mpr fun y hy => ih y (List.all_eq_true.mp h y hy) j (by omega)
    | non => rfl
    | int i => rfl
    | str i => exact h
    | _ => cases h
theorem pl_lst {k : Nat} {xs : List MV} : plB (k + 1) (.lst xs) = true ↔ ∀ x ∈ xs, plB k x = true := by
  show xs.all (plB k) = true ↔ _
  exact List.all_eq_true
theorem pl_tup {k : Nat} {xs : List MV} : plB (k + 1) (.tup xs) = true ↔ ∀ x ∈ xs, plB k x = true := by
  show xs.all (plB k) = true ↔ _
  exact List.all_eq_true
end Z

namespace Z
open PySem L2
/-! ### a cell that is known -/
theorem set_self {s : Sto} {r : Nat} {c : Cell} (h : s[r]? = some c) : s.set r c = s := by
  apply List.ext_getElem?
  intro i
  by_cases e : i = r
  · subst e; rw [List.getElem?_set_self (List.getElem?_eq_some_iff.mp h).1, h]
  · rw [List.getElem?_set_ne (Ne.symm e)]
theorem ix_set {s : Sto} {r : Nat} {xs : List MV} (hr : r < s.length) (i : Int) : ixF (s.set r (.lst xs)) (.ref r) (.int i) = ixF s (.lst xs) (.int i) := by
  rw [ix_ref (List.getElem?_set_self hr)]; rfl
theorem setL_set {s : Sto} {r : Nat} {xs : List MV} {v : MV} {i : Int} (hr : r < s.length) (h0 : 0 ≤ i) (h1 : i < xs.length) : setL (.ref r) (.int i) v (s.set r (.lst xs)) = some (s.set r (.lst (xs.set i.toNat v))) := by
  rw [setL_ref (List.getElem?_set_self hr) h0 h1, List.set_set]
/-! ### one cell changes: what is drawn from -/
structure Fr (r : Nat) (st st' : Sto) : Prop where
  len : st'.length = st.length
  same : ∀ i, i ≠ r → st'[i]? = st[i]?
theorem Fr.refl {r : Nat} {st : Sto} : Fr r st st := ⟨rfl, fun _ _ => rfl⟩
theorem Fr.trans {r : Nat} {a b c : Sto} (h : Fr r a b) (k : Fr r b c) : Fr r a c := ⟨k.len.trans h.len, fun i hi => (k.same i hi).trans (h.same i hi)⟩
theorem Fr.set {r : Nat} {st : Sto} {c : Cell} : Fr r st (st.set r c) := ⟨List.length_set, fun i hi => List.getElem?_set_ne (Ne.symm hi)⟩
theorem Has.fr {L : Heapy} {st t : Sto} {r : Nat} {C : Cell → Prop} (h : Has st L) (m : (r, C) ∈ L) (S : ∃ c, t[r]? = some c ∧ C c) (F : Fr r st t) : Has t L := ⟨h.nd, fun p q => by
  by_cases e : p.1 = r
  · obtain ⟨i, D⟩ := p
    cases e
    rw [nodup_snd h.nd q m]
    exact S
  · obtain ⟨c, z, w⟩ := h.all p q
    exact ⟨c, by rw [F.same _ e]; exact z, w⟩⟩
theorem Has.eq {L : Heapy} {st t : Sto} (h : Has st L) (k : ∀ p ∈ L, t[p.1]? = st[p.1]?) : Has t L := ⟨h.nd, fun p q => by
  obtain ⟨c, z, w⟩ := h.all p q
  exact ⟨c, by rw [k p q]; exact z, w⟩⟩
theorem Fr.last {r : Nat} {u t : Sto} {c : Cell} (F : Fr r (u ++ [c]) t) (h : r < u.length) : ∃ u', t = u' ++ [c] ∧ Fr r u u' := by
  have hl := F.len
  rw [List.length_append, List.length_singleton] at hl
  refine ⟨t.take u.length, ?_, ⟨by rw [List.length_take]; omega, fun i hi => ?_⟩⟩
  · apply List.ext_getElem?
    intro i
    by_cases hi : i < u.length
    · rw [List.getElem?_append_left (by rw [List.length_take]; omega), List.getElem?_take_of_lt hi]
    · by_cases e : i = u.length
      · subst e
        rw [F.same _ (by omega)]
        have hlen : (t.take u.length).length = u.length := by rw [List.length_take]; omega
        rw [List.getElem?_append_right (Nat.le_refl _), Nat.sub_self, List.getElem?_append_right (by omega), hlen, Nat.sub_self]
      · rw [List.getElem?_eq_none (by omega), List.getElem?_eq_none (by rw [List.length_append, List.length_take, List.length_singleton]; omega)]
  · by_cases hi2 : i < u.length
    · rw [List.getElem?_take_of_lt hi2, F.same i hi, List.getElem?_append_left hi2]
    · rw [List.getElem?_eq_none (by rw [List.length_take]; omega), List.getElem?_eq_none (by omega)]
theorem Has.unmore {st e : Sto} {L : Heapy} (h : Has (st ++ e) L) (hl : ∀ p ∈ L, p.1 < st.length) : Has st L := ⟨h.nd, fun p q => by
  obtain ⟨c, z, w⟩ := h.all p q
  exact ⟨c, by rw [List.getElem?_append_left (hl p q)] at z; exact z, w⟩⟩
theorem Has.lt' {st : Sto} {L : Heapy} (h : Has st L) : ∀ p ∈ L, p.1 < st.length := fun p q => h.lt (i := p.1) (C := p.2) q
theorem blws_pl {n : Nat} : ∀ {k : Nat} {x : MV}, plB k x = true → blw n x = true := by
  intro k
  induction k with
  | zero => intro x h; cases x <;> cases h
  | succ k ih =>
    intro x h
    have al : ∀ {xs : List MV}, xs.all (plB k) = true → blws n xs = true := by
      intro xs
      induction xs with
      | nil => intro _; rfl
      | cons y ys ihy =>
        intro h
        rw [List.all_cons, Bool.and_eq_true] at h
        show (blw n y && blws n ys) = true
        rw [ih h.1, ihy h.2]; rfl
    cases x with
    | tup xs => exact al h
    | lst xs => exact al h
    | non => rfl
    | int i => rfl
    | str i => rfl
    | _ => cases h
theorem get_some {α : Type} {xs : List α} {i : Nat} (h : i < xs.length) : ∃ x, xs[i]? = some x ∧ x ∈ xs := ⟨xs[i], List.getElem?_eq_getElem h, List.getElem_mem h⟩
theorem exists_map {α β : Type} {f : α → β} {P : α → Prop} : ∀ {ys : List β}, (∀ y ∈ ys, ∃ a, y = f a ∧ P a) → ∃ xs : List α, ys = xs.map f ∧ ∀ x ∈ xs, P x
  | [], _ => ⟨[], rfl, fun _ h => nomatch h⟩
  | y :: ys, h => by
    obtain ⟨a, rfl, pa⟩ := h y List.mem_cons_self
    obtain ⟨xs, rfl, px⟩ := exists_map fun z hz => h z (List.mem_cons_of_mem _ hz)
    exact ⟨a :: xs, rfl, fun x hx => by
      rcases List.mem_cons.mp hx with rfl | hx
      · exact pa
      · exact px x hx⟩
/-- a comprehension whose elements are drawn -/
theorem wp_draws {mi : MI} {g : MG} {me : Ev → M MV} {vs : List Nat} {env : Ev} {s : Sto} {L : Heapy} {r : Nat} {C : Cell → Prop} {Q : MV → Sto → Prop} {X : Nat → List (Nat × MV) → Sto → Prop} (it : IT) (hi : mi env s = .ok it s) (h : Has s L) (m : (r, C) ∈ L) (hC : ∀ (n : Nat) (c : Cell), C c → cellB n c = true) (hok : ∀ u, it.ok u) (hm : it.xs.length ≤ 100000) (R : MV → Prop) (hR : ∀ y, R y → Pl y)
    (hs : ∀ x ∈ it.xs, ∀ t, Has t L → Wp (fun e t1 => t1 = t ∧ Wp (fun y t2 => R y ∧ Has t2 L ∧ Fr r t t2) noX (me e t1)) noX (g x (wipeM env vs) t))
    (k : ∀ (ys : List MV) (t : Sto), ys.length = it.xs.length → (∀ y ∈ ys, R y) → Has t L → Fr r s t → Q (.lst ys) t) : Wp Q X (mLc true mi g mYes me vs env s) := by
  have hr : r < s.length := h.lt m
  refine wp_lc it (fun d acc u => acc.length = d.length ∧ (∀ y ∈ acc, R y) ∧ Has u L ∧ Fr r s u) hi ⟨rfl, (fun _ z => by cases z), h, .refl⟩ (fun _ _ _ _ _ => hok _) hm ?_ ?_
  · rintro d x rest acc u hx hu ⟨h1, h2, h3, h4⟩
    refine (hs x (by rw [hx]; simp) _ (h3.more [.lst acc])).imp fun e t1 ⟨et, q⟩ => ?_
    subst et
    show Wp _ noX (.ok true (u ++ [.lst acc]))
    refine ⟨fun _ => q.imp fun y t2 ⟨q1, q2, q3⟩ => ?_, fun z => nomatch z⟩
    obtain ⟨u', rfl, F⟩ := q3.last (by omega)
    refine ⟨u', rfl, by rw [F.len]; exact hu, by simp [h1], fun z hz => ?_, q2.unmore fun p hp => ?_, h4.trans F⟩
    · rcases List.mem_append.mp hz with hz | hz
      · exact h2 z hz
      · rw [List.mem_singleton.mp hz]; exact q1
    · have := h.lt' p hp
      rw [F.len]; omega
  · rintro acc u hu ⟨h1, h2, h3, h4⟩
    refine ⟨fun i c hc => ?_, ?_⟩
    · by_cases e : i = r
      · subst e
        obtain ⟨c', z, w⟩ := h3.get m
        rw [hc] at z; cases z
        exact .inr (hC _ _ w)
      · exact .inl (by rw [← h4.same i e]; exact hc)
    · rw [mapM_flat fun x hx => (hR x (h2 x hx)).flat]
      exact k acc u h1 h2 h3 h4
/-- .. that becomes a cell -/
theorem wp_drawsC {mi : MI} {g : MG} {me : Ev → M MV} {vs : List Nat} {env : Ev} {s : Sto} {L : Heapy} {r : Nat} {C : Cell → Prop} {Q : MV → Sto → Prop} {X : Nat → List (Nat × MV) → Sto → Prop} (it : IT) (hi : mi env s = .ok it s) (h : Has s L) (m : (r, C) ∈ L) (hok : ∀ u, it.ok u) (hm : it.xs.length ≤ 100000) (R : MV → Prop)
    (hs : ∀ x ∈ it.xs, ∀ t, Has t L → Wp (fun e t1 => t1 = t ∧ Wp (fun y t2 => R y ∧ Has t2 L ∧ Fr r t t2) noX (me e t1)) noX (g x (wipeM env vs) t))
    (k : ∀ (ys : List MV) (t : Sto), ys.length = it.xs.length → (∀ y ∈ ys, R y) → Has t ((s.length, Ls ys) :: L) → t.length = s.length + 1 → Q (.ref s.length) t) : Wp Q X (mLc false mi g mYes me vs env s) := by
  have hr : r < s.length := h.lt m
  refine wp_lcC it (fun d acc u => acc.length = d.length ∧ (∀ y ∈ acc, R y) ∧ Has u L ∧ Fr r s u) hi ⟨rfl, (fun _ z => by cases z), h, .refl⟩ (fun _ _ _ _ _ => hok _) hm ?_ ?_
  · rintro d x rest acc u hx hu ⟨h1, h2, h3, h4⟩
    refine (hs x (by rw [hx]; simp) _ (h3.more [.lst acc])).imp fun e t1 ⟨et, q⟩ => ?_
    subst et
    show Wp _ noX (.ok true (u ++ [.lst acc]))
    refine ⟨fun _ => q.imp fun y t2 ⟨q1, q2, q3⟩ => ?_, fun z => nomatch z⟩
    obtain ⟨u', rfl, F⟩ := q3.last (by omega)
    refine ⟨u', rfl, by rw [F.len]; exact hu, by simp [h1], fun z hz => ?_, q2.unmore fun p hp => ?_, h4.trans F⟩
    · rcases List.mem_append.mp hz with hz | hz
      · exact h2 z hz
      · rw [List.mem_singleton.mp hz]; exact q1
    · have := h.lt' p hp
      rw [F.len]; omega
  · rintro acc u hu ⟨h1, h2, h3, h4⟩
    have q := h3.push (c := .lst acc) (C := Ls acc) rfl
    rw [hu] at q
    exact k acc _ h1 h2 q (by simp [hu])
/-- drawn one for each of a list -/
theorem wp_drawsT {α β : Type} {f : α → MV} {gm : β → MV} {pr : β → α} {xs : List α} {ok : Sto → Prop} {mi : MI} {g : MG} {me : Ev → M MV} {vs : List Nat} {env : Ev} {s : Sto} {L : Heapy} {r : Nat} {C : Cell → Prop} {Q : MV → Sto → Prop} {X : Nat → List (Nat × MV) → Sto → Prop} (P : β → Prop) (hi : mi env s = .ok ⟨xs.map f, ok⟩ s) (h : Has s L) (m : (r, C) ∈ L) (hC : ∀ (n : Nat) (c : Cell), C c → cellB n c = true) (hok : ∀ u, Has u L → ok u) (hm : xs.length ≤ 100000) (hR : ∀ z, P z → Pl (gm z))
    (hs : ∀ x ∈ xs, ∀ t, Has t L → Wp (fun e t1 => t1 = t ∧ Wp (fun y t2 => ∃ z, y = gm z ∧ pr z = x ∧ P z ∧ Has t2 L ∧ Fr r t t2) noX (me e t1)) noX (g (f x) (wipeM env vs) t))
    (k : ∀ (zs : List β) (t : Sto), zs.map pr = xs → (∀ z ∈ zs, P z) → Has t L → Fr r s t → Q (.lst (zs.map gm)) t) : Wp Q X (mLc true mi g mYes me vs env s) := by
  have hr : r < s.length := h.lt m
  refine wp_lc ⟨xs.map f, ok⟩ (fun d acc u => ∃ (zs : List β) (rest : List α), acc = zs.map gm ∧ d = (zs.map pr).map f ∧ xs = zs.map pr ++ rest ∧ (∀ z ∈ zs, P z) ∧ Has u L ∧ Fr r s u) hi ⟨[], xs, rfl, rfl, rfl, (fun _ z => by cases z), h, .refl⟩ (fun _ _ _ _ ⟨_, _, _, _, _, _, q, _⟩ => hok _ (q.more _)) (by simpa using hm) ?_ ?_
  · rintro d x rest acc u hx hu ⟨zs, xr, rfl, rfl, hxs, h2, h3, h4⟩
    have hx' : xs.map f = (zs.map pr).map f ++ x :: rest := hx
    rw [hxs, List.map_append, List.append_cancel_left_eq] at hx'
    cases xr with
    | nil => simp at hx'
    | cons y xr =>
      rw [List.map_cons, List.cons.injEq] at hx'
      obtain ⟨rfl, rfl⟩ := hx'
      refine (hs y (by rw [hxs]; simp) _ (h3.more [.lst (zs.map gm)])).imp fun e t1 ⟨et, q⟩ => ?_
      subst et
      show Wp _ noX (.ok true (u ++ [.lst (zs.map gm)]))
      refine ⟨fun _ => q.imp fun v t2 ⟨z, e1, e2, q1, q2, q3⟩ => ?_, fun z => nomatch z⟩
      subst e1 e2
      obtain ⟨u', rfl, F⟩ := q3.last (by omega)
      refine ⟨u', rfl, by rw [F.len]; exact hu, zs ++ [z], xr, by simp, by simp, by rw [hxs]; simp, fun w hw => ?_, q2.unmore fun p hp => ?_, h4.trans F⟩
      · rcases List.mem_append.mp hw with hw | hw
        · exact h2 w hw
        · rw [List.mem_singleton.mp hw]; exact q1
      · have := h.lt' p hp
        rw [F.len]; omega
  · rintro acc u hu ⟨zs, xr, rfl, hd, hxs, h2, h3, h4⟩
    have : xr = [] := by
      have := congrArg List.length hd
      rw [hxs] at this
      simp at this
      exact this
    subst this
    rw [List.append_nil] at hxs
    refine ⟨fun i c hc => ?_, ?_⟩
    · by_cases e : i = r
      · subst e
        obtain ⟨c', z, w⟩ := h3.get m
        rw [hc] at z; cases z
        exact .inr (hC _ _ w)
      · exact .inl (by rw [← h4.same i e]; exact hc)
    · rw [mapM_flat fun x hx => by
        obtain ⟨z, hz, rfl⟩ := List.mem_map.mp hx
        exact (hR z (h2 z hz)).flat]
      exact k zs u hxs.symm h2 h3 h4
end Z

namespace Z
open PySem L2
section
variable {s : Sto} {env : Ev} {Q : MV → Sto → Prop} {X : Nat → List (Nat × MV) → Sto → Prop}
theorem bls_map {α : Type} (b : α → Bool) : ∀ xs : List α, blsOf (xs.map fun x => MV.bl (b x)) = some (xs.map b)
  | [] => rfl
  | x :: xs => by
    show (blsOf (xs.map fun x => MV.bl (b x))).map (b x :: ·) = _
    rw [bls_map b xs]; rfl
theorem all_map {α : Type} (b : α → Bool) (xs : List α) : fAll s [.lst (xs.map fun x => MV.bl (b x))] = some (.bl (xs.all b)) := by
  simp only [fAll, Z.listOf, Option.bind_some, bls_map, Option.map_some]
  congr 2
  induction xs with
  | nil => rfl
  | cons x xs ih => simp
theorem any_map {α : Type} (b : α → Bool) (xs : List α) : fAny s [.lst (xs.map fun x => MV.bl (b x))] = some (.bl (xs.any b)) := by
  simp only [fAny, Z.listOf, Option.bind_some, bls_map, Option.map_some]
  congr 2
  induction xs with
  | nil => rfl
  | cons x xs ih => simp
@[simp ↓] theorem wp_mFunX (n : Nat) (mb : Nat → List (Nat × MV) → MS) (c : Nat) (fs : List (Nat × MV)) : Wp Q X (mFunX n mb c fs s) = Nf (fun e => WpS (.fn Q X) (mb c fs e s)) (some .exc :: List.replicate (n - 1) none) := by
  unfold mFunX
  rw [Nf_eq]
  cases mb c fs (some .exc :: List.replicate (n - 1) none) s <;> rfl
theorem wp_lcLG {g : MG} {mt : Ev → M Bool} {me : Ev → M MV} {ok : Sto → Prop} {n : Nat} {ls : List MV} (I : List MV → List MV → Sto → Prop) (ho : ∀ d acc t, I d acc t → ok t) (hm : ls.length ≤ 100000)
    (hs : ∀ d x r acc t, ls = d ++ x :: r → t[n]? = some (.lst acc) → I d acc t → Wp (fun e t1 => Wp (fun k t2 => (k = true → Wp (fun y t3 => t3[n]? = some (.lst acc) ∧ I (d ++ [x]) (acc ++ [y]) (t3.set n (.lst (acc ++ [y])))) noX (me e t2)) ∧ (k = false → t2[n]? = some (.lst acc) ∧ I (d ++ [x]) acc t2)) noX (mt e t1)) noX (g x env t)) :
    ∀ (r d acc : List MV) (t : Sto), ls = d ++ r → t[n]? = some (.lst acc) → acc.length ≤ d.length → I d acc t → ∃ acc' t', lcL g mt me ok n env r t = some t' ∧ t'[n]? = some (.lst acc') ∧ I ls acc' t'
  | [], d, acc, t, hl, hu, ha, h => by
    rw [List.append_nil] at hl
    refine ⟨acc, t, ?_, hu, hl ▸ h⟩
    unfold lcL
    rw [if_pos (ho d acc t h)]
  | x :: r, d, acc, t, hl, hu, ha, h => by
    unfold lcL
    rw [if_pos (ho d acc t h)]
    have q := hs d x r acc t hl hu h
    have hl2 : ls = (d ++ [x]) ++ r := by rw [hl]; simp
    obtain ⟨e1, t1, eg, q⟩ := q.out
    obtain ⟨k, t2, et, q⟩ := q.out
    simp only [eg, et]
    cases k with
    | false =>
      obtain ⟨hu', h'⟩ := q.2 rfl
      exact wp_lcLG I ho hm hs r (d ++ [x]) acc t2 hl2 hu' (by simp; omega) h'
    | true =>
      obtain ⟨y, t3, ey, hu', h'⟩ := (q.1 rfl).out
      simp only [ey, hu']
      have hln := congrArg List.length hl
      simp at hln
      rw [if_pos (show acc.length < line by simp; omega)]
      exact wp_lcLG I ho hm hs r (d ++ [x]) (acc ++ [y]) _ hl2 (List.getElem?_set_self (List.getElem?_eq_some_iff.mp hu').1) (by simp; omega) h'
/-- a list that becomes a cell, whatever its elements do -/
theorem wp_lcG {mi : MI} {g : MG} {mt : Ev → M Bool} {me : Ev → M MV} {vs : List Nat} (it : IT) (I : List MV → List MV → Sto → Prop) (hi : mi env s = .ok it s) (h0 : I [] [] (s ++ [.lst []])) (ho : ∀ d acc t, I d acc t → it.ok t) (hm : it.xs.length ≤ 100000)
    (hs : ∀ d x r acc t, it.xs = d ++ x :: r → t[s.length]? = some (.lst acc) → I d acc t → Wp (fun e t1 => Wp (fun k t2 => (k = true → Wp (fun y t3 => t3[s.length]? = some (.lst acc) ∧ I (d ++ [x]) (acc ++ [y]) (t3.set s.length (.lst (acc ++ [y])))) noX (me e t2)) ∧ (k = false → t2[s.length]? = some (.lst acc) ∧ I (d ++ [x]) acc t2)) noX (mt e t1)) noX (g x (wipeM env vs) t))
    (h1 : ∀ acc t, t[s.length]? = some (.lst acc) → I it.xs acc t → Q (.ref s.length) t) : Wp Q X (mLc false mi g mt me vs env s) := by
  obtain ⟨acc, t, e, ht, h⟩ := wp_lcLG (env := wipeM env vs) I ho hm hs it.xs [] [] (s ++ [.lst []]) rfl (by simp) (Nat.le_refl _) h0
  unfold mLc
  rw [wp_bnd, hi]
  show Wp Q X (match lcL g mt me it.ok s.length (wipeM env vs) it.xs (s ++ [.lst []]) with | some t => _ | none => _)
  rw [e]
  exact h1 acc t ht h
/-! ### making an object -/
theorem set_new {c f : Nat} {fs : List (Nat × MV)} {v : MV} (h : f ∈ fieldsOf c) (hl : fs.length < 40) : setFld f (.ref s.length) v (s ++ [.ins c fs]) = some (s ++ [.ins c (putN f v fs)]) := by
  simp [setFld, h, hl]
theorem get_new {c f : Nat} {fs : List (Nat × MV)} : fldOf (s ++ [.ins c fs]) f (.ref s.length) = lookN f fs := by
  simp [fldOf]
theorem frz_new {c : Nat} {fs : List (Nat × MV)} (h : fs.map (·.1) = fieldsOf c) (hv : ∀ v ∈ fs.map (·.2), frzM (s ++ [.ins c fs]) s.length 39 v = some v) : frzM (s ++ [.ins c fs]) s.length 40 (.ref s.length) = some (.ins c (fs.map (·.2))) := by
  simp only [frzM, Nat.lt_irrefl, if_false, List.getElem?_append_right (Nat.le_refl _), Nat.sub_self, List.getElem?_cons_zero, h, if_true]
  rw [mapM_id hv]; rfl
theorem wp_make {c : Nat} {init : MF} {args : List MV} (h : Wp (fun v t => v = .non ∧ t.take s.length = s ∧ WpO (fun v' => Q v' s) (frzM t s.length 40 (.ref s.length))) (fun c fs t => t.take s.length = s ∧ WpO (fun vs => X c ((fs.map (·.1)).zip vs) s) ((fs.map (·.2)).mapM (frzM t s.length 40))) (init (.ref s.length :: args) (s ++ [.ins c []]))) : Wp Q X (mPure (newC c init) args s) := by
  refine wp_pure (wp_new (h.mono (fun v t h => ⟨h.1, h.2⟩) fun _ _ _ h => h))
@[simp] theorem take_new {c : Cell} : (s ++ [c]).take s.length = s := by simp
/-- a list made of those that pass, the store kept -/
theorem lc_mapW {α : Type} {f : α → MV} {ys : List α} {ok : Sto → Prop} {mi : MI} {g : MG} {mt : Ev → M Bool} {me : Ev → M MV} {vs : List Nat} (b : α → Bool) (v : α → MV) (hi : mi env s = .ok ⟨ys.map f, ok⟩ s)
    (h : ∀ y ∈ ys, ∀ a, Wp (fun e t1 => Wp (fun k t2 => k = b y ∧ t2 = s ++ [.lst a] ∧ (b y = true → Wp (fun x t3 => x = v y ∧ t3 = s ++ [.lst a]) noX (me e t2))) noX (mt e t1)) noX (g (f y) (wipeM env vs) (s ++ [.lst a]))) (ho : ∀ a, ok (s ++ [.lst a])) (hl : ys.length ≤ 100000) (hf : ∀ y ∈ ys, b y = true → ∀ a, frzM (s ++ [.lst a]) s.length 40 (v y) = some (v y)) :
    mLc true mi g mt me vs env s = .ok (.lst ((ys.filter b).map v)) s := by
  have q : Wp (fun r t => r = .lst ((ys.filter b).map v) ∧ t = s) noX (mLc true mi g mt me vs env s) := by
    refine wp_lc ⟨ys.map f, ok⟩ (fun d acc u => u = s ∧ ∃ d' r', ys = d' ++ r' ∧ d = d'.map f ∧ acc = (d'.filter b).map v) hi ⟨rfl, [], ys, rfl, rfl, rfl⟩ (fun d acc u _ ⟨e, _⟩ => by rw [e]; exact ho acc) (by simpa using hl) ?_ ?_
    · rintro d x r acc u hx hu ⟨rfl, d', r', hy, rfl, rfl⟩
      subst hy
      simp only [List.map_append, List.append_cancel_left_eq] at hx
      cases r' with
      | nil => simp at hx
      | cons y r' =>
        rw [List.map_cons, List.cons.injEq] at hx
        obtain ⟨rfl, rfl⟩ := hx
        refine (h y (by simp) ((d'.filter b).map v)).imp fun e t1 q => q.imp fun k t2 q => ?_
        obtain ⟨rfl, rfl, q⟩ := q
        refine ⟨fun hb => (q hb).imp fun x t3 q => ?_, fun hb => ⟨u, rfl, rfl, rfl, d' ++ [y], r', by simp, by simp, by simp [hb]⟩⟩
        obtain ⟨rfl, rfl⟩ := q
        exact ⟨u, rfl, rfl, rfl, d' ++ [y], r', by simp, by simp, by simp [hb]⟩
    · rintro acc u hu ⟨rfl, d', r', hy, hd, rfl⟩
      have : r' = [] := by
        have := congrArg List.length hd
        rw [hy] at this
        simp at this
        exact this
      subst this
      rw [List.append_nil] at hy
      subst hy
      refine ⟨fun _ _ h => .inl h, ?_⟩
      rw [mapM_id fun x hx => by
        obtain ⟨y, hy, rfl⟩ := List.mem_map.mp hx
        exact hf y (List.mem_filter.mp hy).1 (List.mem_filter.mp hy).2 _]
      exact ⟨rfl, rfl⟩
  obtain ⟨a, t, e, rfl, rfl⟩ := q.out
  exact e
theorem lc_allW {α : Type} {f : α → MV} {ys : List α} {ok : Sto → Prop} {mi : MI} {g : MG} {me : Ev → M MV} {vs : List Nat} (v : α → MV) (hi : mi env s = .ok ⟨ys.map f, ok⟩ s)
    (h : ∀ y ∈ ys, ∀ a, Wp (fun e t1 => t1 = s ++ [.lst a] ∧ Wp (fun x t3 => x = v y ∧ t3 = s ++ [.lst a]) noX (me e t1)) noX (g (f y) (wipeM env vs) (s ++ [.lst a]))) (ho : ∀ a, ok (s ++ [.lst a])) (hl : ys.length ≤ 100000) (hf : ∀ y ∈ ys, ∀ a, frzM (s ++ [.lst a]) s.length 40 (v y) = some (v y)) :
    mLc true mi g mYes me vs env s = .ok (.lst (ys.map v)) s := by
  have := lc_mapW (g := g) (me := me) (vs := vs) (env := env) (mt := mYes) (fun _ => true) v hi (fun y hy a => (h y hy a).imp fun e t1 q => ⟨rfl, q.1, fun _ => q.2⟩) ho hl fun y hy _ a => hf y hy a
  rw [this, List.filter_eq_self.mpr fun _ _ => rfl]
/-- all of a list, one by one -/
theorem lc_all {α : Type} {f : α → MV} {ys : List α} {ok : Sto → Prop} {mi : MI} {g : MG} {me : Ev → M MV} {vs : List Nat} (v : α → MV) (hi : mi env s = .ok ⟨ys.map f, ok⟩ s)
    (h : ∀ y ∈ ys, ∀ a, ∃ e, g (f y) (wipeM env vs) (s ++ [.lst a]) = .ok e (s ++ [.lst a]) ∧ me e (s ++ [.lst a]) = .ok (v y) (s ++ [.lst a])) (ho : ∀ a, ok (s ++ [.lst a])) (hl : ys.length ≤ 100000) (hf : ∀ y ∈ ys, ∀ a, frzM (s ++ [.lst a]) s.length 40 (v y) = some (v y)) :
    mLc true mi g mYes me vs env s = .ok (.lst (ys.map v)) s := by
  have := lc_map (mt := mYes) (fun _ => true) v hi (fun y hy a => by
    obtain ⟨e, h1, h2⟩ := h y hy a
    exact ⟨e, h1, rfl, fun _ => h2⟩) ho hl fun y hy _ a => hf y hy a
  rw [this, List.filter_eq_self.mpr fun _ _ => rfl]
end
@[simp] theorem frz_s {s : Sto} {n : Nat} {x : Str} : frzM s n 40 (.str x) = some (.str x) := rfl
@[simp] theorem frz_i {s : Sto} {n : Nat} {x : Int} : frzM s n 40 (.int x) = some (.int x) := rfl
theorem pl_frz40 {s : Sto} {n : Nat} {x : MV} (h : Pl x) : frzM s n 40 x = some x := pl_frz 12 x h 40 (by omega)
theorem pl_frz39 {s : Sto} {n : Nat} {x : MV} (h : Pl x) : frzM s n 39 x = some x := pl_frz 12 x h 39 (by omega)
theorem pl_maps {α : Type} {f : α → MV} {k : Nat} {xs : List α} (h : ∀ x ∈ xs, plB k (f x) = true) : plB (k + 1) (.tup (xs.map f)) = true := pl_tup.mpr fun y hy => by
  obtain ⟨x, hx, rfl⟩ := List.mem_map.mp hy
  exact h x hx
theorem pl_mapsL {α : Type} {f : α → MV} {k : Nat} {xs : List α} (h : ∀ x ∈ xs, plB k (f x) = true) : plB (k + 1) (.lst (xs.map f)) = true := pl_lst.mpr fun y hy => by
  obtain ⟨x, hx, rfl⟩ := List.mem_map.mp hy
  exact h x hx
end Z

namespace Z
open PySem L2
/-! ### data of one kind -/
structure EncP {α : Type} (f : α → MV) (P : α → Prop) : Prop where
  pl : ∀ a, P a → plB 9 (f a) = true
  inj : ∀ a b, f a = f b → a = b
theorem map_injZ {α β : Type} {f : α → β} (h : ∀ a b, f a = f b → a = b) : ∀ {xs ys : List α}, xs.map f = ys.map f → xs = ys
  | [], [], _ => rfl
  | [], y :: ys, e => by simp at e
  | x :: xs, [], e => by simp at e
  | x :: xs, y :: ys, e => by
    rw [List.map_cons, List.map_cons, List.cons.injEq] at e
    rw [h x y e.1, map_injZ h e.2]
theorem map_erase {α β : Type} {f : α → β} : ∀ (xs : List α) (i : Nat), (xs.map f).eraseIdx i = (xs.eraseIdx i).map f
  | [], _ => rfl
  | _ :: _, 0 => rfl
  | x :: xs, i + 1 => by
    show f x :: (xs.map f).eraseIdx i = f x :: (xs.eraseIdx i).map f
    rw [map_erase xs i]
section
variable {α : Type} {f : α → MV} {P : α → Prop} {s : Sto} {Q : Bool → Prop} {q : Nat} {xs ys : List α} {a b : α}
theorem EncP.pl12 (E : EncP f P) (h : P a) : Pl (f a) := pl_mono 9 _ (E.pl a h) 12 (by omega)
theorem EncP.lst (E : EncP f P) (h : ∀ x ∈ xs, P x) : plB 10 (.lst (xs.map f)) = true := pl_mapsL fun x hx => E.pl x (h x hx)
theorem EncP.tup (E : EncP f P) (h : ∀ x ∈ xs, P x) : plB 10 (.tup (xs.map f)) = true := pl_maps fun x hx => E.pl x (h x hx)
theorem EncP.lst12 (E : EncP f P) (h : ∀ x ∈ xs, P x) : Pl (.lst (xs.map f)) := pl_mono 10 _ (E.lst h) 12 (by omega)
theorem EncP.tup12 (E : EncP f P) (h : ∀ x ∈ xs, P x) : Pl (.tup (xs.map f)) := pl_mono 10 _ (E.tup h) 12 (by omega)
theorem EncP.mem (E : EncP f P) : f a ∈ xs.map f ↔ a ∈ xs := by
  rw [List.mem_map]
  exact ⟨fun ⟨b, hb, e⟩ => E.inj _ _ e ▸ hb, fun h => ⟨a, h, rfl⟩⟩
theorem EncP.maps (E : EncP f P) : xs.map f = ys.map f ↔ xs = ys := ⟨map_injZ E.inj, fun h => by rw [h]⟩
theorem EncP.tups (E : EncP f P) : MV.tup (xs.map f) = .tup (ys.map f) ↔ xs = ys := by rw [MV.tup.injEq]; exact E.maps
theorem EncP.lsts (E : EncP f P) : MV.lst (xs.map f) = .lst (ys.map f) ↔ xs = ys := by rw [MV.lst.injEq]; exact E.maps
theorem wpo_inE (E : EncP f P) {y : MV} (e : seqOf s y = some (xs.map f)) (ha : P a) (hx : ∀ x ∈ xs, P x) (h1 : a ∈ xs → Q true) (h0 : a ∉ xs → Q false) : WpO Q (cIn s (f a) y) :=
  wpo_in e (E.pl12 ha) (fun z hz => by
    obtain ⟨x, hx', rfl⟩ := List.mem_map.mp hz
    exact E.pl12 (hx x hx')) (fun z => h1 (E.mem.mp z)) fun z => h0 fun w => z (E.mem.mpr w)
theorem wpo_ninE (E : EncP f P) {y : MV} (e : seqOf s y = some (xs.map f)) (ha : P a) (hx : ∀ x ∈ xs, P x) (h1 : a ∈ xs → Q false) (h0 : a ∉ xs → Q true) : WpO Q (cNin s (f a) y) :=
  wpo_nin e (E.pl12 ha) (fun z hz => by
    obtain ⟨x, hx', rfl⟩ := List.mem_map.mp hz
    exact E.pl12 (hx x hx')) (fun z => h1 (E.mem.mp z)) fun z => h0 fun w => z (E.mem.mpr w)
theorem eq_tupE [DecidableEq α] (E : EncP f P) (hx : ∀ x ∈ xs, P x) (hy : ∀ x ∈ ys, P x) : cEq s (.tup (xs.map f)) (.tup (ys.map f)) = some (decide (xs = ys)) := by
  rw [eq_pl (E.tup12 hx) (E.tup12 hy)]
  by_cases h : xs = ys
  · have := E.tups.mpr h
    simp [this, h]
  · have : ¬ MV.tup (xs.map f) = .tup (ys.map f) := fun z => h (E.tups.mp z)
    simp [this, h]
theorem eq_E [DecidableEq α] (E : EncP f P) (hx : P a) (hy : P b) : cEq s (f a) (f b) = some (decide (a = b)) := by
  rw [eq_pl (E.pl12 hx) (E.pl12 hy)]
  by_cases h : a = b
  · simp [h]
  · have : ¬ f a = f b := fun z => h (E.inj _ _ z)
    simp [this, h]
end
/-! ### joints, rods, holds -/
structure J where
  name : Str
  x : Int
  y : Int
deriving DecidableEq
structure R4 where
  i : Int
  j : Int
  p : Option Int
  q : Option Int
deriving DecidableEq
structure Fm where
  js : List J
  rs : List R4
  hs : List (Int × Int)
deriving DecidableEq
def oM : Option Int → MV
  | none => .non
  | some v => .int v
def prM (p : Int × Int) : MV := .tup [.int p.1, .int p.2]
def jM (j : J) : MV := .tup [.str j.name, .int j.x, .int j.y]
def rM (r : R4) : MV := .tup [.int r.i, .int r.j, oM r.p, oM r.q]
def fM (f : Fm) : MV := .tup [.tup (f.js.map jM), .tup (f.rs.map rM), .tup (f.hs.map prM)]
@[simp] theorem oM_ne (o : Option Int) : (oM o = .exc) = False := by cases o <;> simp [oM]
@[simp] theorem prM_ne (p : Int × Int) : (prM p = .exc) = False := by simp [prM]
@[simp] theorem jM_ne (p : J) : (jM p = .exc) = False := by simp [jM]
@[simp] theorem rM_ne (p : R4) : (rM p = .exc) = False := by simp [rM]
@[simp] theorem fM_ne (p : Fm) : (fM p = .exc) = False := by simp [fM]
theorem oM_inj {a b : Option Int} (h : oM a = oM b) : a = b := by
  cases a <;> cases b <;> simp [oM] at h ⊢
  exact h
theorem pl_oM (o : Option Int) {k : Nat} : plB (k + 1) (oM o) = true := by cases o <;> rfl
theorem enc_prM : EncP prM (fun _ => True) where
  pl a _ := by simp [prM, plB]
  inj a b h := by
    obtain ⟨a1, a2⟩ := a; obtain ⟨b1, b2⟩ := b
    simpa [prM] using h
theorem enc_jM : EncP jM (fun j => sok j.name = true) where
  pl a h := by simp [jM, plB, h]
  inj a b h := by
    cases a; cases b
    simpa [jM] using h
theorem enc_rM : EncP rM (fun _ => True) where
  pl a _ := by simp [rM, plB, pl_oM]
  inj a b h := by
    cases a; cases b
    simp only [rM, MV.tup.injEq, List.cons.injEq, MV.int.injEq] at h
    obtain ⟨h1, h2, h3, h4, _⟩ := h
    rw [h1, h2, oM_inj h3, oM_inj h4]
/-- such a frame's names can be compared -/
def Fm.good (f : Fm) : Prop := ∀ j ∈ f.js, sok j.name = true
theorem enc_fM : EncP fM Fm.good where
  pl a h := by
    refine pl_mono 6 _ ?_ 9 (by omega)
    have h1 : plB 5 (.tup (a.js.map jM)) = true := pl_maps fun x hx => by simp [jM, plB, h x hx]
    have h2 : plB 5 (.tup (a.rs.map rM)) = true := pl_maps fun x hx => by simp [rM, plB, pl_oM]
    have h3 : plB 5 (.tup (a.hs.map prM)) = true := pl_maps fun x hx => by simp [prM, plB]
    show ([MV.tup (a.js.map jM), .tup (a.rs.map rM), .tup (a.hs.map prM)].all (plB 5)) = true
    simp only [List.all_cons, h1, h2, h3, List.all_nil, Bool.and_self]
  inj a b h := by
    cases a; cases b
    simp only [fM, MV.tup.injEq, List.cons.injEq] at h
    obtain ⟨h1, h2, h3, _⟩ := h
    rw [enc_jM.maps.mp h1, enc_rM.maps.mp h2, enc_prM.maps.mp h3]
/-! names by number -/
def letter (n : Nat) : Str := ⟨#[97 + n]⟩
def nameOf (n : Nat) : Str := if n < 26 then letter n else letter (n / 26) ++ letter (n % 26)
theorem abc_at : ∀ n : Nat, n < 26 → (("abcdefghijklmnopqrstuvwxyz" : Str).cps.toList)[n]? = some (97 + n) := by decide +kernel
theorem ix_abc {s : Sto} {n : Nat} (h : n < 26) : ixF s (.str ("abcdefghijklmnopqrstuvwxyz" : Str)) (.int n) = some (.str (letter n)) := by
  have hl : ("abcdefghijklmnopqrstuvwxyz" : Str).length ≤ line := by decide +kernel
  show (if ("abcdefghijklmnopqrstuvwxyz" : Str).length ≤ line then (atI ("abcdefghijklmnopqrstuvwxyz" : Str).cps.toList (n : Int)).map fun c => MV.str ⟨#[c]⟩ else none) = _
  rw [if_pos hl, atI_n, abc_at n h]; rfl
theorem sok_letter {n : Nat} (h : n < 1000) : sok (letter n) = true := by
  simp [sok, PyData.canLay0, PyData.strOk, letter]; omega
theorem sok_append {a b : Str} (ha : sok a = true) (hb : sok b = true) : sok (a ++ b) = true := by
  have e : (a ++ b).cps = a.cps ++ b.cps := rfl
  simp only [sok, PyData.canLay0, PyData.strOk, e, Array.all_append] at *
  rw [ha, hb]; rfl
theorem sok_name {n : Nat} (h : n < 1000) : sok (nameOf n) = true := by
  unfold nameOf
  split
  · exact sok_letter h
  · exact sok_append (sok_letter (by omega)) (sok_letter (by omega))
theorem name_inj : ∀ a : Nat, a < 50 → ∀ b : Nat, b < 50 → nameOf a = nameOf b → a = b := by decide +kernel
theorem name_len {n : Nat} : (nameOf n).length ≤ 2 := by
  unfold nameOf
  split
  · exact (by decide : 1 ≤ 2)
  · rw [Str.length_append]; exact Nat.le_refl _
end Z

namespace Z
open PySem L2
theorem WpO.get {α : Type} {o : Option α} {v : α} (h : WpO (fun x => x = v) o) : o = some v := by
  cases o with
  | none => exact h.elim
  | some x => rw [show x = v from h]
@[simp] theorem lsOf_l {s : Sto} (xs : List MV) : lsOf s (.lst xs) = some ⟨xs, fun _ => True⟩ := rfl
theorem Has.upd2 {st : Sto} {L : Heapy} {p q : Nat × (Cell → Prop)} {i : Nat} {C C' : Cell → Prop} {c : Cell} (h : Has st (p :: q :: (i, C) :: L)) (hc : C' c) : Has (st.set i c) (p :: q :: (i, C') :: L) := by
  have hn := h.nd
  refine ⟨by simpa using hn, fun x hx => ?_⟩
  by_cases e : x.1 = i
  · rcases List.mem_cons.mp hx with rfl | hx
    · exact absurd e (h.ne0 (i := x.1) (C := x.2) (.tail _ (.head _))).symm
    · rcases List.mem_cons.mp hx with rfl | hx
      · exact absurd e (h.tail.ne0 (i := x.1) (C := x.2) (.head _)).symm
      · rcases List.mem_cons.mp hx with rfl | hx
        · exact ⟨c, by rw [List.getElem?_set_self (h.lt (C := C) (.tail _ (.tail _ (.head _))))], hc⟩
        · exact absurd e (h.tail.tail.ne0 (j := x.1) (D := x.2) hx)
  · obtain ⟨c', z, w⟩ := h.all x (by
      rcases List.mem_cons.mp hx with rfl | hx
      · exact .head _
      · rcases List.mem_cons.mp hx with rfl | hx
        · exact .tail _ (.head _)
        · rcases List.mem_cons.mp hx with rfl | hx
          · exact absurd rfl e
          · exact .tail _ (.tail _ (.tail _ hx)))
    exact ⟨c', by rw [List.getElem?_set_ne (Ne.symm e)]; exact z, w⟩
theorem insert_ref {st : Sto} {n : Nat} {xs : List MV} {y : MV} {i : Int} (h : st[n]? = some (.lst xs)) (hl : xs.length < 100000) (h0 : 0 ≤ i) (h1 : i < 1000000000) : fInsert (.ref n) [.int i, y] st = .ok .non (st.set n (.lst (xs.take i.toNat ++ [y] ++ xs.drop i.toNat))) := by
  have hl' : xs.length < line := hl
  simp [fInsert, onLs, h, hl, hl', h0, h1]
theorem mem_insert {α : Type} {P : α → Prop} {xs : List α} {y : α} {i : Nat} (h : ∀ x ∈ xs, P x) (hy : P y) : ∀ x ∈ xs.take i ++ [y] ++ xs.drop i, P x := fun x hx => by
  simp only [List.mem_append, List.mem_singleton] at hx
  rcases hx with (hx | rfl) | hx
  · exact h x (List.mem_of_mem_take hx)
  · exact hy
  · exact h x (List.mem_of_mem_drop hx)
theorem mem_set {α : Type} {P : α → Prop} {xs : List α} {y : α} {i : Nat} (h : ∀ x ∈ xs, P x) (hy : P y) : ∀ x ∈ xs.set i y, P x := fun x hx => by
  rcases List.mem_or_eq_of_mem_set hx with hx | rfl
  · exact h x hx
  · exact hy
theorem cut_lo1 (xs : List MV) (n : Nat) : cutM xs (some ((n : Int) + 1)) none = xs.drop (n + 1) := cut_lo xs (n + 1)
/-! ### loops over enumerate -/
section
variable {P : Po}
theorem wp_forE {α : Type} {f : α → MV} {xs : List α} {g : MG} {b : MS} {ok : Sto → Prop} {e : Ev} {t : Sto} (I : Nat → Ev → Sto → Prop) (h0 : I 0 e t) (ho : ∀ i e t, I i e t → ok t)
    (hs : ∀ i x e t, xs[i]? = some x → I i e t → Wp (fun e t => WpS (P.turn (I (i + 1))) (b e t)) noX (g (.tup [.int (i : Int), f x]) e t))
    (h1 : ∀ e t, I xs.length e t → P.n e t) : WpS P (forL g b ok (pairs (intsM 0 xs.length) (xs.map f)) e t) := by
  have hl : (pairs (intsM 0 xs.length) (xs.map f)).length = xs.length := by rw [pairs_len, ints_len]; simp
  refine wp_for (fun d e t => I d.length e t) h0 (fun d e t h => ho _ e t h) ?_ ?_
  · intro d x r e t hd h
    have h2 : (pairs (intsM 0 xs.length) (xs.map f))[d.length]? = some x := by rw [hd]; simp
    obtain ⟨a, c, e1, e2, rfl⟩ := pairs_get h2
    have e3 := ints_get e1
    subst e3
    rw [List.getElem?_map] at e2
    obtain ⟨y, hy, rfl⟩ := Option.map_eq_some_iff.mp e2
    have := hs d.length y e t hy h
    rw [Int.zero_add]
    refine this.imp fun e2 t2 q => q.mono ?_ (fun _ _ z => z) (fun _ _ z => z) ?_ (fun _ _ _ _ z => z)
    · intro e3 t3 q; simpa using q
    · intro e3 t3 q; simpa using q
  · intro e t h
    rw [hl] at h
    exact h1 e t h
end
/-! ### lists without repeats -/
theorem nodup_take {α : Type} {xs : List α} : xs.Nodup ↔ ∀ (i : Nat) (x : α), xs[i]? = some x → x ∉ xs.take i := by
  show List.Pairwise (· ≠ ·) xs ↔ _
  rw [List.pairwise_iff_getElem]
  constructor
  · intro h i x hx hm
    obtain ⟨hl, rfl⟩ := List.getElem?_eq_some_iff.mp hx
    obtain ⟨j, hj⟩ := List.mem_iff_getElem?.mp hm
    rw [List.getElem?_take] at hj
    split at hj
    · rename_i hji
      obtain ⟨hl2, e⟩ := List.getElem?_eq_some_iff.mp hj
      exact h j i hl2 hl hji e
    · cases hj
  · intro h i j hi hj hij he
    refine h j xs[j] (List.getElem?_eq_getElem hj) (List.mem_iff_getElem?.mpr ⟨i, ?_⟩)
    rw [List.getElem?_take, if_pos hij, ← he]
    exact List.getElem?_eq_getElem hi
theorem map_take_mem {α β : Type} {f : α → β} {xs : List α} {i : Nat} {y : β} : y ∈ (xs.take i).map f ↔ y ∈ (xs.map f).take i := by rw [List.map_take]
theorem in_bls {α : Type} {s : Sto} {k : Bool} {b : α → Bool} {xs : List α} : cIn s (.bl k) (.lst (xs.map fun x => MV.bl (b x))) = some (xs.any fun x => b x == k) := by
  have e : seqOf s (.lst (xs.map fun x => MV.bl (b x))) = some (xs.map fun x => MV.bl (b x)) := rfl
  have h : (flatM (.bl k) && (xs.map fun x => MV.bl (b x)).all flatM) = true := by
    simp [flatM]
  unfold cIn
  rw [e]
  simp only [h, if_true]
  rw [List.any_map]
  rfl
noncomputable def inB {α : Type} (x : α) (xs : List α) : Bool := @decide (x ∈ xs) (Classical.propDecidable _)
noncomputable def ndB {α : Type} (xs : List α) : Bool := @decide xs.Nodup (Classical.propDecidable _)
theorem inB_iff {α : Type} {x : α} {xs : List α} : inB x xs = true ↔ x ∈ xs := @decide_eq_true_iff _ (Classical.propDecidable _)
theorem ndB_iff {α : Type} {xs : List α} : ndB xs = true ↔ xs.Nodup := @decide_eq_true_iff _ (Classical.propDecidable _)
theorem inB_no {α : Type} {x : α} {xs : List α} : inB x xs = false ↔ x ∉ xs := @decide_eq_false_iff_not _ (Classical.propDecidable _)
theorem ndB_no {α : Type} {xs : List α} : ndB xs = false ↔ ¬ xs.Nodup := @decide_eq_false_iff_not _ (Classical.propDecidable _)
noncomputable def twB {α : Type} (xs : List α) (i : Nat) : Bool := match xs[i]? with | some x => inB x (xs.take i) | none => false
theorem any_twice {α : Type} {xs : List α} : ((List.range xs.length).any (twB xs)) = !ndB xs := by
  cases hn : ndB xs with
  | true =>
    have h := ndB_iff.mp hn
    rw [Bool.not_true, List.any_eq_false]
    intro i hi
    have hi := List.mem_range.mp hi
    unfold twB
    rw [List.getElem?_eq_getElem hi]
    simp only [inB_iff]
    exact nodup_take.mp h i _ (List.getElem?_eq_getElem hi)
  | false =>
    have h := ndB_no.mp hn
    rw [Bool.not_false, List.any_eq_true]
    rw [nodup_take] at h
    simp only [Classical.not_forall, Classical.not_not] at h
    obtain ⟨i, x, hx, hm⟩ := h
    refine ⟨i, List.mem_range.mpr (List.getElem?_eq_some_iff.mp hx).1, ?_⟩
    unfold twB
    rw [hx]
    exact inB_iff.mpr hm
/-! ### names -/
def keysL : List Str := [("joint" : Str), ("rod" : Str), ("hold" : Str), ("any" : Str)]
def isNm (w : Str) : Bool := decide (1 ≤ w.length ∧ w.length ≤ 8 ∧ w ∉ keysL) && w.cps.toList.all fun c => decide (97 ≤ c ∧ c ≤ 122)
theorem abc_mem {c : Nat} : c ∈ (("abcdefghijklmnopqrstuvwxyz" : Str).cps.toList) ↔ 97 ≤ c ∧ c ≤ 122 := by
  have h : (("abcdefghijklmnopqrstuvwxyz" : Str).cps.toList) = (List.range 26).map (97 + ·) := by decide +kernel
  rw [h, List.mem_map]
  exact ⟨fun ⟨a, h, e⟩ => by have := List.mem_range.mp h; omega, fun h => ⟨c - 97, List.mem_range.mpr (by omega), by omega⟩⟩
theorem in_abc {s : Sto} {c : Nat} : cIn s (.str ⟨#[c]⟩) (.str ("abcdefghijklmnopqrstuvwxyz" : Str)) = some (decide (97 ≤ c ∧ c ≤ 122)) := by
  show some (!(Builtin.Str.occurrences ("abcdefghijklmnopqrstuvwxyz" : Str) ⟨#[c]⟩ 0 ("abcdefghijklmnopqrstuvwxyz" : Str).length 1).isEmpty) = _
  rw [StrLaws.found_one]
  simp only [abc_mem]
theorem le_one {s : Sto} {a b : Nat} : cLe s (.str ⟨#[a]⟩) (.str ⟨#[b]⟩) = some (decide (a ≤ b)) := by
  show some (!decide ([b] < [a])) = _
  have : ([b] < [a]) ↔ b < a := by
    rw [List.cons_lt_cons_iff]; simp
  by_cases h : a ≤ b
  · have h2 : ¬ ([b] < [a]) := fun z => by have := this.mp z; omega
    simp only [h2, h]; rfl
  · have h2 : [b] < [a] := this.mpr (by omega)
    simp only [h2, h]; rfl
theorem enc_w : EncP MV.str (fun w => sok w = true) where
  pl a h := h
  inj a b h := by cases h; rfl
theorem sok_keys : ∀ w ∈ keysL, sok w = true := by decide +kernel
/-! ### what is due of a frame's parts -/
def J.spot (j : J) : Int × Int := (j.x, j.y)
def R4.ends (r : R4) : Int × Int := (r.i, r.j)
def weak : Option Int → Bool
  | some v => decide (v < 0)
  | none => false
def badR (n : Nat) (r : R4) : Prop := ¬ (0 ≤ r.i ∧ r.i < r.j ∧ r.j < n) ∨ weak r.p = true ∨ weak r.q = true
def badH (n : Nat) (h : Int × Int) : Prop := ¬ (0 ≤ h.1 ∧ h.1 < n) ∨ ¬ (h.2 = 0 ∨ h.2 = 1)
open Classical in
noncomputable def dueJ (js : List J) : Option Str :=
  if ¬ (1 ≤ js.length ∧ js.length ≤ 40) then some ("joints" : Str)
  else if (∃ j ∈ js, isNm j.name = false) ∨ ¬ (js.map J.name).Nodup then some ("names" : Str)
  else if ¬ (js.map J.spot).Nodup then some ("places" : Str) else none
open Classical in
noncomputable def dueR (n : Nat) (rs : List R4) : Option Str := if 120 < rs.length ∨ ¬ (rs.map R4.ends).Nodup ∨ ∃ r ∈ rs, badR n r then some ("rods" : Str) else none
open Classical in
noncomputable def dueH (n : Nat) (hs : List (Int × Int)) : Option Str := if (∃ h ∈ hs, badH n h) ∨ ¬ hs.Nodup then some ("holds" : Str) else none
noncomputable def dueF (f : Fm) : Option Str := (dueJ f.js).or ((dueR f.js.length f.rs).or (dueH f.js.length f.hs))
theorem dueJ_joints {js : List J} (h : ¬ (1 ≤ js.length ∧ js.length ≤ 40)) : dueJ js = some ("joints" : Str) := by rw [dueJ, if_pos h]
theorem dueJ_names {js : List J} (h : 1 ≤ js.length ∧ js.length ≤ 40) (h2 : (∃ j ∈ js, isNm j.name = false) ∨ ¬ (js.map J.name).Nodup) : dueJ js = some ("names" : Str) := by rw [dueJ, if_neg (fun z => z h), if_pos h2]
theorem dueJ_places {js : List J} (h : 1 ≤ js.length ∧ js.length ≤ 40) (h2 : ∀ j ∈ js, isNm j.name = true) (h3 : (js.map J.name).Nodup) (h4 : ¬ (js.map J.spot).Nodup) : dueJ js = some ("places" : Str) := by
  rw [dueJ, if_neg (fun z => z h), if_neg, if_pos h4]
  rintro (⟨j, hj, e⟩ | z)
  · rw [h2 j hj] at e; cases e
  · exact z h3
theorem dueJ_none {js : List J} (h : 1 ≤ js.length ∧ js.length ≤ 40) (h2 : ∀ j ∈ js, isNm j.name = true) (h3 : (js.map J.name).Nodup) (h4 : (js.map J.spot).Nodup) : dueJ js = none := by
  rw [dueJ, if_neg (fun z => z h), if_neg, if_neg (fun z => z h4)]
  rintro (⟨j, hj, e⟩ | z)
  · rw [h2 j hj] at e; cases e
  · exact z h3
theorem dueJ_fits {js : List J} (h : dueJ js = none) : (1 ≤ js.length ∧ js.length ≤ 40) ∧ (∀ j ∈ js, isNm j.name = true) ∧ (js.map J.name).Nodup ∧ (js.map J.spot).Nodup := by
  unfold dueJ at h
  split at h
  · cases h
  · rename_i h1
    split at h
    · cases h
    · rename_i h2
      split at h
      · cases h
      · rename_i h3
        refine ⟨Classical.not_not.mp h1, fun j hj => ?_, Classical.not_not.mp fun z => h2 (.inr z), Classical.not_not.mp h3⟩
        cases e : isNm j.name with
        | true => rfl
        | false => exact absurd (.inl ⟨j, hj, e⟩) h2
theorem dueF_none {f : Fm} : dueF f = none ↔ dueJ f.js = none ∧ dueR f.js.length f.rs = none ∧ dueH f.js.length f.hs = none := by
  unfold dueF
  rw [Option.or_eq_none_iff, Option.or_eq_none_iff]
theorem dueR_none {n : Nat} {rs : List R4} : dueR n rs = none ↔ rs.length ≤ 120 ∧ (rs.map R4.ends).Nodup ∧ ∀ r ∈ rs, ¬ badR n r := by
  unfold dueR
  split
  · rename_i h
    refine ⟨fun z => (by cases z), fun ⟨h1, h2, h3⟩ => ?_⟩
    rcases h with h | h | ⟨r, hr, h⟩
    · omega
    · exact absurd h2 h
    · exact absurd h (h3 r hr)
  · rename_i h
    refine ⟨fun _ => ⟨by
      by_cases z : 120 < rs.length
      · exact absurd (.inl z) h
      · omega, Classical.not_not.mp fun z => h (.inr (.inl z)), fun r hr z => h (.inr (.inr ⟨r, hr, z⟩))⟩, fun _ => rfl⟩
theorem dueH_none {n : Nat} {hs : List (Int × Int)} : dueH n hs = none ↔ (∀ h ∈ hs, ¬ badH n h) ∧ hs.Nodup := by
  unfold dueH
  split
  · rename_i h
    refine ⟨fun z => (by cases z), fun ⟨h1, h2⟩ => ?_⟩
    rcases h with ⟨r, hr, h⟩ | h
    · exact absurd h (h1 r hr)
    · exact absurd h2 h
  · rename_i h
    exact ⟨fun _ => ⟨fun r hr z => h (.inl ⟨r, hr, z⟩), Classical.not_not.mp fun z => h (.inr z)⟩, fun _ => rfl⟩
def oS : Option Str → MV
  | none => .non
  | some w => .str w
/-- what tuple([tuple(y) for y in x]) makes of x, here and with more cells -/
def RowsA {α : Type} (st : Sto) (x : MV) (f : α → MV) (ys : List α) : Prop :=
  x ≠ .exc ∧ ∃ (zs : List (MV × α)) (ok : Sto → Prop), zs.map (·.2) = ys ∧ (∀ e, itOf (st ++ e) x = some ⟨zs.map (·.1), ok⟩) ∧ (∀ e, ok (st ++ e)) ∧ ∀ z ∈ zs, z.1 ≠ .exc ∧ ∀ e, fTuple (st ++ e) [z.1] = some (f z.2)
theorem rows_tup {α : Type} {st : Sto} {f : α → MV} {ys : List α} (h : ∀ y ∈ ys, ∃ xs, f y = .tup xs) : RowsA st (.tup (ys.map f)) f ys := by
  refine ⟨by simp, ys.map fun y => (f y, y), fun _ => True, by simp [Function.comp_def], fun e => by simp [itOf, Function.comp_def], fun _ => trivial, fun z hz => ?_⟩
  obtain ⟨y, hy, rfl⟩ := List.mem_map.mp hz
  obtain ⟨xs, e⟩ := h y hy
  refine ⟨by rw [e]; simp, fun s => ?_⟩
  show fTuple _ [f y] = some (f y)
  rw [e]; rfl
/-- the parts of a made frame -/
def fmI (f : Fm) : MV := .ins 21 [.tup (f.js.map jM), .tup (f.rs.map rM), .tup (f.hs.map prM)]
end Z

namespace Z
open PySem L2
/-! ### instance cells -/
section
variable {s : Sto} {n c f : Nat} {fs : List (Nat × MV)} {v : MV}
theorem fld_ref (h : s[n]? = some (.ins c fs)) : fldOf s f (.ref n) = lookN f fs := by simp [fldOf, h]
theorem setFld_ref (h : s[n]? = some (.ins c fs)) (hf : f ∈ fieldsOf c) (hl : fs.length < 40) : setFld f (.ref n) v s = some (s.set n (.ins c (putN f v fs))) := by
  simp [setFld, h, hf, hl]
theorem cls_ref (h : s[n]? = some (.ins c fs)) : clsOf s (.ref n) = some c := by simp [clsOf, h]
abbrev Is (c : Nat) (fs : List (Nat × MV)) : Cell → Prop := fun x => x = .ins c fs
theorem Has.is {L : Heapy} (h : Has s L) (m : (n, Is c fs) ∈ L) : s[n]? = some (.ins c fs) := by
  obtain ⟨x, e, rfl⟩ := h.get m
  exact e
end
/-! ### texts in lists -/
theorem any_str {w : Str} {gs : List Str} : ((gs.map MV.str).any fun z => flatEq z (.str w)) = decide (w ∈ gs) := by
  induction gs with
  | nil => rfl
  | cons g gs ih =>
    simp only [List.map_cons, List.any_cons, ih, List.mem_cons]
    show ((g == w) || decide (w ∈ gs)) = _
    by_cases h : g = w
    · simp [h]
    · have h2 : ¬ w = g := fun e => h e.symm
      simp [h, h2]
theorem in_strs {s : Sto} {w : Str} {gs : List Str} {y : MV} (e : seqOf s y = some (gs.map .str)) : cIn s (.str w) y = some (decide (w ∈ gs)) := by
  have h : (flatM (.str w) && (gs.map MV.str).all flatM) = true := by simp [flatM]
  unfold cIn
  rw [e]
  simp only [h, if_true, any_str]
theorem nin_strs {s : Sto} {w : Str} {gs : List Str} {y : MV} (e : seqOf s y = some (gs.map .str)) : cNin s (.str w) y = some (!decide (w ∈ gs)) := by
  unfold cNin; rw [in_strs e]; rfl
/-! ### numbers in words -/
def digB (c : Nat) : Bool := decide (48 ≤ c ∧ c ≤ 57)
def wd (cs : List Nat) : Str := ⟨cs.toArray⟩
theorem num1 : ∀ a < 10, PySem.intText? (wd [48 + a]) = some (a : Int) := by decide +kernel
theorem num2 : ∀ a < 10, ∀ b < 10, PySem.intText? (wd [48 + a, 48 + b]) = some ((10 * a + b : Nat) : Int) := by decide +kernel
theorem num3 : ∀ a < 10, ∀ b < 10, ∀ c < 10, PySem.intText? (wd [48 + a, 48 + b, 48 + c]) = some ((100 * a + 10 * b + c : Nat) : Int) := by decide +kernel
/-- the number that a word of up to three digits writes -/
def numOf (w : Str) : Option Int := if 1 ≤ w.length ∧ w.length ≤ 3 ∧ w.cps.toList.all digB = true then (if w.cps.toList[0]? = some 48 ∧ 1 < w.length then none else PySem.intText? w) else none
def wholeOf (w : Str) : Option Int := if cutS w none (some 1) ≠ ("-" : Str) then numOf w else match numOf (cutS w (some 1) none) with
  | none => none
  | some v => if v = 0 then none else some (0 - v)
def iW (i : Int) : Str := toString i
theorem num_word : ∀ n < 1000, numOf (iW (n : Nat)) = some (n : Int) := by decide +kernel
theorem whole_pos : ∀ n < 1000, wholeOf (iW (n : Nat)) = some (n : Int) := by decide +kernel
theorem whole_neg : ∀ n : Nat, n < 1000 → n = 0 ∨ wholeOf (iW (-(n : Int))) = some (-(n : Int)) := by decide +kernel
end Z

namespace Z
open PySem L2
/-! ### reading a frame, in plain words -/
@[simp] theorem eb_ok {ε α β : Type} (a : α) (f : α → Except ε β) : Except.bind (.ok a) f = f a := rfl
@[simp] theorem eb_err {ε α β : Type} (e : ε) (f : α → Except ε β) : Except.bind (.error e) f = .error e := rfl
theorem eb_eq_ok {ε α β : Type} {x : Except ε α} {f : α → Except ε β} {b : β} (h : x.bind f = .ok b) : ∃ a, x = .ok a ∧ f a = .ok b := by
  cases x with
  | ok a => exact ⟨a, rfl, h⟩
  | error e => cases h
structure RS where
  ws : List Str
  at' : Nat
  js : List J
  rs : List R4
  hs : List (Int × Int)
namespace RS
def nx (S : RS) : RS := { S with at' := S.at' + 1 }
def cur (S : RS) : Option Str := S.ws[S.at']?
def names (S : RS) : List Str := S.js.map J.name
def nm (S : RS) (k : Nat) : Str := S.names[k]?.getD Str.empty
def openE (S : RS) (one : Nat) : List Nat := ((List.range (S.js.length - (one + 1))).filter fun (k : Nat) => decide (((one : Int), (one : Int) + 1 + (k : Int)) ∉ S.rs.map R4.ends)).map fun (k : Nat) => one + 1 + k
def starts (S : RS) : List Nat := if S.rs.length = 30 then [] else (List.range S.js.length).filter fun j => decide (S.openE j ≠ [])
def openA (S : RS) (j : Nat) : List Nat := [0, 1].filter fun (a : Nat) => decide (((j : Int), (a : Int)) ∉ S.hs)
def loose (S : RS) : List Nat := (List.range S.js.length).filter fun j => decide (S.openA j ≠ [])
end RS
open RS
def axW (a : Nat) : Str := if a = 0 then ("x" : Str) else ("y" : Str)
def axI (w : Str) : Int := if w = ("x" : Str) then 0 else 1
def rTake (S : RS) (gs : List Str) : Except Nat (Str × RS) := match S.cur with
  | some w => if w ∈ gs then .ok (w, S.nx) else .error S.at'
  | none => .error S.at'
def rName (S : RS) : Except Nat (Str × RS) := match S.cur with
  | some w => if isNm w = true ∧ w ∉ S.names then .ok (w, S.nx) else .error S.at'
  | none => .error S.at'
def rWhole (S : RS) : Except Nat (Int × RS) := match S.cur.bind wholeOf with
  | some i => .ok (i, S.nx)
  | none => .error S.at'
def rY (S : RS) (x : Int) : Except Nat (Int × RS) := match S.cur.bind wholeOf with
  | some y => if (x, y) ∈ S.js.map J.spot then .error S.at' else .ok (y, S.nx)
  | none => .error S.at'
def addJ (S : RS) (j : J) : RS := { S with js := S.js ++ [j] }
def addR (S : RS) (r : R4) : RS := { S with rs := S.rs ++ [r] }
def addH (S : RS) (h : Int × Int) : RS := { S with hs := S.hs ++ [h] }
def rJoint (S : RS) : Except Nat RS := (rTake S [("joint" : Str)]).bind fun p => (rName p.2).bind fun n => (rWhole n.2).bind fun x => (rY x.2 x.1).bind fun y => .ok (addJ y.2 ⟨n.1, x.1, y.1⟩)
def rOne (S : RS) (gs : List Nat) : Except Nat (Nat × RS) := (rTake S (gs.map S.nm)).bind fun p => .ok (S.names.idxOf p.1, p.2)
def rStr (S : RS) : Except Nat (Option Int × RS) := match S.cur with
  | some w => if w = ("any" : Str) then .ok (none, S.nx) else match numOf w with
    | some i => .ok (some i, S.nx)
    | none => .error S.at'
  | none => .error S.at'
def rRod (S : RS) : Except Nat RS := (rTake S [("rod" : Str)]).bind fun p => (rOne p.2 p.2.starts).bind fun a => (rOne a.2 (a.2.openE a.1)).bind fun b => (rStr b.2).bind fun c => (rStr c.2).bind fun d => .ok (addR d.2 ⟨(a.1 : Nat), (b.1 : Nat), c.1, d.1⟩)
def rHold (S : RS) : Except Nat RS := (rTake S [("hold" : Str)]).bind fun p => (rOne p.2 p.2.loose).bind fun a => (rTake a.2 ((a.2.openA a.1).map axW)).bind fun b => .ok (addH b.2 ((a.1 : Nat), axI b.1))
def loopR (kw : Str) (ok : RS → Bool) (step : RS → Except Nat RS) : Nat → RS → Except Nat RS
  | 0, S => .ok S
  | n + 1, S => if S.cur = some kw ∧ ok S = true then (step S).bind (loopR kw ok step n) else .ok S
def okJ (S : RS) : Bool := decide (S.js.length < 12)
def okR (S : RS) : Bool := decide (S.starts ≠ [])
def okH (S : RS) : Bool := decide (S.loose ≠ [])
def rRead (ws : List Str) : Except Nat RS := (rJoint ⟨ws, 0, [], [], []⟩).bind fun S => (loopR ("joint" : Str) okJ rJoint (ws.length + 1) S).bind fun S => (loopR ("rod" : Str) okR rRod (ws.length + 1) S).bind fun S => (loopR ("hold" : Str) okH rHold (ws.length + 1) S).bind fun S => if ws.length ≤ S.at' then .ok S else .error S.at'
/-! what stays so -/
def lowI (o : Option Int) : Prop := ∀ v, o = some v → 0 ≤ v ∧ v < 1000
structure RInv (S : RS) : Prop where
  wl : S.ws.length ≤ 5000
  wz : ∀ w ∈ S.ws, w.length ≤ 1000
  ai : S.at' ≤ S.ws.length
  jl : S.js.length ≤ 12
  jn : ∀ j ∈ S.js, isNm j.name = true
  jx : ∀ j ∈ S.js, -1000 < j.x ∧ j.x < 1000 ∧ -1000 < j.y ∧ j.y < 1000
  nd : S.names.Nodup
  sd : (S.js.map J.spot).Nodup
  rl : S.rs.length ≤ 30
  rd : (S.rs.map R4.ends).Nodup
  ro : ∀ r ∈ S.rs, 0 ≤ r.i ∧ r.i < r.j ∧ r.j < S.js.length ∧ lowI r.p ∧ lowI r.q
  hd : S.hs.Nodup
  ho : ∀ h ∈ S.hs, 0 ≤ h.1 ∧ h.1 < S.js.length ∧ (h.2 = 0 ∨ h.2 = 1)
section
variable {S S' : RS} {gs : List Str} {w : Str}
theorem cur_lt (h : S.cur = some w) : S.at' < S.ws.length := (List.getElem?_eq_some_iff.mp h).1
theorem cur_mem (h : S.cur = some w) : w ∈ S.ws := List.mem_of_getElem? h
theorem take_ok {p : Str × RS} (h : rTake S gs = .ok p) : S.cur = some p.1 ∧ p.1 ∈ gs ∧ p.2 = S.nx := by
  unfold rTake at h
  split at h
  · rename_i w hw
    split at h
    · cases h; exact ⟨hw, ‹_›, rfl⟩
    · cases h
  · cases h
theorem name_okS {p : Str × RS} (h : rName S = .ok p) : S.cur = some p.1 ∧ isNm p.1 = true ∧ p.1 ∉ S.names ∧ p.2 = S.nx := by
  unfold rName at h
  split at h
  · rename_i w hw
    split at h
    · rename_i hc
      cases h; exact ⟨hw, hc.1, hc.2, rfl⟩
    · cases h
  · cases h
theorem whole_okS {p : Int × RS} (h : rWhole S = .ok p) : ∃ w, S.cur = some w ∧ wholeOf w = some p.1 ∧ p.2 = S.nx := by
  unfold rWhole at h
  split at h
  · rename_i i hi
    cases h
    obtain ⟨w, h1, h2⟩ := Option.bind_eq_some_iff.mp hi
    exact ⟨w, h1, h2, rfl⟩
  · cases h
theorem y_okS {x : Int} {p : Int × RS} (h : rY S x = .ok p) : ∃ w, S.cur = some w ∧ wholeOf w = some p.1 ∧ (x, p.1) ∉ S.js.map J.spot ∧ p.2 = S.nx := by
  unfold rY at h
  split at h
  · rename_i i hi
    split at h
    · cases h
    · cases h
      obtain ⟨w, h1, h2⟩ := Option.bind_eq_some_iff.mp hi
      exact ⟨w, h1, h2, ‹_›, rfl⟩
  · cases h
theorem one_okS {gs : List Nat} {p : Nat × RS} (h : rOne S gs = .ok p) : ∃ w, S.cur = some w ∧ w ∈ gs.map S.nm ∧ p.1 = S.names.idxOf w ∧ p.2 = S.nx := by
  obtain ⟨a, h1, h2⟩ := eb_eq_ok h
  cases h2
  obtain ⟨e1, e2, e3⟩ := take_ok h1
  exact ⟨_, e1, e2, rfl, e3⟩
theorem str_okS {p : Option Int × RS} (h : rStr S = .ok p) : ∃ w, S.cur = some w ∧ p.2 = S.nx ∧ (w = ("any" : Str) ∧ p.1 = none ∨ w ≠ ("any" : Str) ∧ numOf w = p.1 ∧ p.1 ≠ none) := by
  unfold rStr at h
  split at h
  · rename_i w hw
    split at h
    · rename_i ha
      cases h; exact ⟨w, hw, rfl, .inl ⟨ha, rfl⟩⟩
    · rename_i ha
      split at h
      · rename_i i hi
        cases h; exact ⟨w, hw, rfl, .inr ⟨ha, hi, by simp⟩⟩
      · cases h
  · cases h
theorem name_no0 (e : S.cur = none) : rName S = .error S.at' := by unfold rName; rw [e]
theorem name_no (e : S.cur = some w) (h : ¬ (isNm w = true ∧ w ∉ S.names)) : rName S = .error S.at' := by unfold rName; rw [e]; simp only [if_neg h]
theorem name_yes (e : S.cur = some w) (h : isNm w = true ∧ w ∉ S.names) : rName S = .ok (w, S.nx) := by unfold rName; rw [e]; simp only [if_pos h]
theorem mem_openE {one k : Nat} : k ∈ S.openE one ↔ one < k ∧ k < S.js.length ∧ ((one : Int), (k : Int)) ∉ S.rs.map R4.ends := by
  unfold openE
  rw [List.mem_map]
  constructor
  · rintro ⟨a, h, rfl⟩
    obtain ⟨h1, h2⟩ := List.mem_filter.mp h
    have h1 := List.mem_range.mp h1
    have h2 := of_decide_eq_true h2
    refine ⟨by omega, by omega, ?_⟩
    rwa [show ((one + 1 + a : Nat) : Int) = (one : Int) + 1 + (a : Int) by omega]
  · rintro ⟨h1, h2, h3⟩
    refine ⟨k - (one + 1), List.mem_filter.mpr ⟨List.mem_range.mpr (by omega), decide_eq_true ?_⟩, by omega⟩
    rwa [show (one : Int) + 1 + ((k - (one + 1) : Nat) : Int) = (k : Int) by omega]
theorem mem_starts {k : Nat} : k ∈ S.starts ↔ S.rs.length ≠ 30 ∧ k < S.js.length ∧ S.openE k ≠ [] := by
  unfold starts
  split
  · simp [*]
  · rw [List.mem_filter, List.mem_range, decide_eq_true_eq]
    exact ⟨fun h => ⟨‹_›, h.1, h.2⟩, fun h => ⟨h.2.1, h.2.2⟩⟩
theorem mem_openA {j a : Nat} : a ∈ S.openA j ↔ (a = 0 ∨ a = 1) ∧ ((j : Int), (a : Int)) ∉ S.hs := by
  unfold openA
  rw [List.mem_filter, decide_eq_true_eq]
  simp
theorem mem_loose {k : Nat} : k ∈ S.loose ↔ k < S.js.length ∧ S.openA k ≠ [] := by
  unfold loose
  rw [List.mem_filter, List.mem_range, decide_eq_true_eq]
theorem nm_mem {k : Nat} (h : k < S.js.length) : S.nm k ∈ S.names ∧ S.names[k]? = some (S.nm k) := by
  unfold nm names
  have : k < (S.js.map J.name).length := by simpa using h
  rw [List.getElem?_eq_getElem this]
  exact ⟨List.getElem_mem _, rfl⟩
theorem idx_nm (hn : S.names.Nodup) {k : Nat} (h : k < S.js.length) : S.names.idxOf (S.nm k) = k := by
  obtain ⟨h1, h2⟩ := nm_mem h
  obtain ⟨h3, h4⟩ := List.getElem?_eq_some_iff.mp h2
  rw [← h4]
  exact hn.idxOf_getElem _ h3
/-- one of some: its number is one of the numbers -/
theorem one_mem {gs : List Nat} {w : Str} (hn : S.names.Nodup) (hg : ∀ g ∈ gs, g < S.js.length) (h : w ∈ gs.map S.nm) : S.names.idxOf w ∈ gs ∧ S.nm (S.names.idxOf w) = w := by
  obtain ⟨g, h1, rfl⟩ := List.mem_map.mp h
  rw [idx_nm hn (hg g h1)]
  exact ⟨h1, rfl⟩
theorem numOf_low {w : Str} {i : Int} (h : numOf w = some i) : 0 ≤ i ∧ i < 1000 := by
  unfold numOf at h
  split at h
  · rename_i hc
    split at h
    · cases h
    · obtain ⟨h1, h2, h3⟩ := hc
      have hw : w.length = w.cps.toList.length := by simp [Str.length]
      have e : w = wd w.cps.toList := by cases w; simp [wd]
      rw [hw] at h1 h2
      rw [e] at h
      generalize w.cps.toList = cs at h h1 h2 h3
      match cs, h1, h2, h3, h with
      | [a], _, _, h3, h =>
        simp only [List.all_cons, List.all_nil, Bool.and_true, digB, decide_eq_true_eq] at h3
        have := num1 (a - 48) (by omega)
        rw [show 48 + (a - 48) = a by omega, h] at this
        cases this; omega
      | [a, b], _, _, h3, h =>
        simp only [List.all_cons, List.all_nil, Bool.and_true, digB, Bool.and_eq_true, decide_eq_true_eq] at h3
        have := num2 (a - 48) (by omega) (b - 48) (by omega)
        rw [show 48 + (a - 48) = a by omega, show 48 + (b - 48) = b by omega, h] at this
        cases this; omega
      | [a, b, c], _, _, h3, h =>
        simp only [List.all_cons, List.all_nil, Bool.and_true, digB, Bool.and_eq_true, decide_eq_true_eq] at h3
        have := num3 (a - 48) (by omega) (b - 48) (by omega) (c - 48) (by omega)
        rw [show 48 + (a - 48) = a by omega, show 48 + (b - 48) = b by omega, show 48 + (c - 48) = c by omega, h] at this
        cases this; omega
  · cases h
theorem wholeOf_low {w : Str} {i : Int} (h : wholeOf w = some i) : -1000 < i ∧ i < 1000 := by
  unfold wholeOf at h
  split at h
  · have := numOf_low h; omega
  · split at h
    · cases h
    · rename_i v hv
      have := numOf_low hv
      split at h
      · cases h
      · cases h; omega
theorem RInv.nx (I : RInv S) (h : S.cur = some w) : RInv S.nx := ⟨I.wl, I.wz, cur_lt h, I.jl, I.jn, I.jx, I.nd, I.sd, I.rl, I.rd, I.ro, I.hd, I.ho⟩
theorem RInv.addJ (I : RInv S) (hl : S.js.length < 12) {j : J} (h1 : isNm j.name = true) (h2 : j.name ∉ S.names) (h3 : j.spot ∉ S.js.map J.spot) (h4 : -1000 < j.x ∧ j.x < 1000 ∧ -1000 < j.y ∧ j.y < 1000) : RInv (addJ S j) where
  wl := I.wl
  wz := I.wz
  ai := I.ai
  jl := by simp [Z.addJ]; omega
  jn := fun x hx => by
    rcases List.mem_append.mp hx with hx | hx
    · exact I.jn x hx
    · rw [List.mem_singleton.mp hx]; exact h1
  jx := fun x hx => by
    rcases List.mem_append.mp hx with hx | hx
    · exact I.jx x hx
    · rw [List.mem_singleton.mp hx]; exact h4
  nd := by
    show ((S.js ++ [j]).map J.name).Nodup
    rw [List.map_append, List.nodup_append]
    exact ⟨I.nd, by simp, fun a ha b hb e => h2 (by rw [List.map_singleton, List.mem_singleton] at hb; rw [← hb, ← e]; exact ha)⟩
  sd := by
    show ((S.js ++ [j]).map J.spot).Nodup
    rw [List.map_append, List.nodup_append]
    exact ⟨I.sd, by simp, fun a ha b hb e => h3 (by rw [List.map_singleton, List.mem_singleton] at hb; rw [← hb, ← e]; exact ha)⟩
  rl := I.rl
  rd := I.rd
  ro := fun r hr => by
    obtain ⟨q1, q2, q3, q4⟩ := I.ro r hr
    exact ⟨q1, q2, by simp [Z.addJ]; omega, q4⟩
  hd := I.hd
  ho := fun r hr => by
    obtain ⟨q1, q2, q3⟩ := I.ho r hr
    exact ⟨q1, by simp [Z.addJ]; omega, q3⟩
theorem RInv.addR (I : RInv S) (hl : S.rs.length < 30) {r : R4} (h1 : r.ends ∉ S.rs.map R4.ends) (h2 : 0 ≤ r.i ∧ r.i < r.j ∧ r.j < S.js.length ∧ lowI r.p ∧ lowI r.q) : RInv (addR S r) where
  wl := I.wl
  wz := I.wz
  ai := I.ai
  jl := I.jl
  jn := I.jn
  jx := I.jx
  nd := I.nd
  sd := I.sd
  rl := by simp [Z.addR]; omega
  rd := by
    show ((S.rs ++ [r]).map R4.ends).Nodup
    rw [List.map_append, List.nodup_append]
    exact ⟨I.rd, by simp, fun a ha b hb e => h1 (by rw [List.map_singleton, List.mem_singleton] at hb; rw [← hb, ← e]; exact ha)⟩
  ro := fun x hx => by
    rcases List.mem_append.mp hx with hx | hx
    · exact I.ro x hx
    · rw [List.mem_singleton.mp hx]; exact h2
  hd := I.hd
  ho := I.ho
theorem RInv.addH (I : RInv S) {h : Int × Int} (h1 : h ∉ S.hs) (h2 : 0 ≤ h.1 ∧ h.1 < S.js.length ∧ (h.2 = 0 ∨ h.2 = 1)) : RInv (addH S h) where
  wl := I.wl
  wz := I.wz
  ai := I.ai
  jl := I.jl
  jn := I.jn
  jx := I.jx
  nd := I.nd
  sd := I.sd
  rl := I.rl
  rd := I.rd
  ro := I.ro
  hd := by
    show (S.hs ++ [h]).Nodup
    rw [List.nodup_append]
    exact ⟨I.hd, by simp, fun a ha b hb e => h1 (by rw [List.mem_singleton] at hb; rw [← hb, ← e]; exact ha)⟩
  ho := fun x hx => by
    rcases List.mem_append.mp hx with hx | hx
    · exact I.ho x hx
    · rw [List.mem_singleton.mp hx]; exact h2
theorem joint_okS (I : RInv S) (hl : S.js.length < 12) (h : rJoint S = .ok S') : RInv S' ∧ S'.at' = S.at' + 4 ∧ S'.ws = S.ws := by
  obtain ⟨⟨_, _⟩, a1, h⟩ := eb_eq_ok h
  obtain ⟨c1, c2, rfl⟩ := take_ok a1
  obtain ⟨⟨n, _⟩, a2, h⟩ := eb_eq_ok h
  obtain ⟨c3, c4, c5, rfl⟩ := name_okS a2
  obtain ⟨⟨x, _⟩, a3, h⟩ := eb_eq_ok h
  obtain ⟨w3, c6, c7, rfl⟩ := whole_okS a3
  obtain ⟨⟨y, _⟩, a4, h⟩ := eb_eq_ok h
  obtain ⟨w4, c8, c9, c10, rfl⟩ := y_okS a4
  cases h
  have b1 := wholeOf_low c7
  have b2 := wholeOf_low c9
  exact ⟨((((I.nx c1).nx c3).nx c6).nx c8).addJ hl c4 c5 c10 ⟨b1.1, b1.2, b2.1, b2.2⟩, rfl, rfl⟩
theorem lowI_of {w : Str} {o : Option Int} (h : w = ("any" : Str) ∧ o = none ∨ w ≠ ("any" : Str) ∧ numOf w = o ∧ o ≠ none) : lowI o := by
  intro v hv
  rcases h with ⟨_, h⟩ | ⟨_, h, _⟩
  · rw [h] at hv; cases hv
  · rw [hv] at h; exact numOf_low h
theorem rod_okS (I : RInv S) (h : rRod S = .ok S') : RInv S' ∧ S'.at' = S.at' + 5 ∧ S'.ws = S.ws := by
  obtain ⟨⟨_, _⟩, a1, h⟩ := eb_eq_ok h
  obtain ⟨c1, c2, rfl⟩ := take_ok a1
  obtain ⟨⟨a, _⟩, a2, h⟩ := eb_eq_ok h
  obtain ⟨w2, c3, c4, c5, rfl⟩ := one_okS a2
  obtain ⟨⟨b, _⟩, a3, h⟩ := eb_eq_ok h
  obtain ⟨w3, c6, c7, c8, rfl⟩ := one_okS a3
  obtain ⟨⟨p, _⟩, a4, h⟩ := eb_eq_ok h
  obtain ⟨w4, c9, rfl, c10⟩ := str_okS a4
  obtain ⟨⟨q, _⟩, a5, h⟩ := eb_eq_ok h
  obtain ⟨w5, c11, rfl, c12⟩ := str_okS a5
  cases h
  simp only at c5 c8
  have I1 := I.nx c1
  have m1 := one_mem (S := S.nx) I1.nd (fun g hg => (mem_starts.mp hg).2.1) c4
  rw [← c5] at m1
  have s1 := mem_starts.mp m1.1
  have I2 := I1.nx c3
  have m2 := one_mem (S := S.nx.nx) I2.nd (fun g hg => (mem_openE.mp hg).2.1) c7
  rw [← c8] at m2
  have s2 := mem_openE.mp m2.1
  have hr := I.rl
  have h30 : S.rs.length ≠ 30 := s1.1
  refine ⟨(((I2.nx c6).nx c9).nx c11).addR (show S.rs.length < 30 by omega) s2.2.2 ⟨by simp, ?_, ?_, lowI_of c10, lowI_of c12⟩, rfl, rfl⟩
  · show (a : Int) < (b : Int)
    have := s2.1; omega
  · show (b : Int) < _
    have := s2.2.1
    show (b : Int) < (S.js.length : Int)
    have e : S.nx.nx.js.length = S.js.length := rfl
    omega
theorem axI_W {a : Nat} (h : a = 0 ∨ a = 1) : axI (axW a) = a := by
  rcases h with rfl | rfl <;> decide +kernel
theorem hold_okS (I : RInv S) (h : rHold S = .ok S') : RInv S' ∧ S'.at' = S.at' + 3 ∧ S'.ws = S.ws := by
  obtain ⟨⟨_, _⟩, a1, h⟩ := eb_eq_ok h
  obtain ⟨c1, c2, rfl⟩ := take_ok a1
  obtain ⟨⟨a, _⟩, a2, h⟩ := eb_eq_ok h
  obtain ⟨w2, c3, c4, c5, rfl⟩ := one_okS a2
  obtain ⟨⟨b, _⟩, a3, h⟩ := eb_eq_ok h
  obtain ⟨c6, c7, rfl⟩ := take_ok a3
  cases h
  simp only at c5 c6 c7
  have I1 := I.nx c1
  have m1 := one_mem (S := S.nx) I1.nd (fun g hg => (mem_loose.mp hg).1) c4
  rw [← c5] at m1
  have s1 := mem_loose.mp m1.1
  have I2 := I1.nx c3
  obtain ⟨x, hx, rfl⟩ := List.mem_map.mp c7
  obtain ⟨hx1, hx2⟩ := mem_openA.mp hx
  refine ⟨(I2.nx c6).addH ?_ ⟨by simp, ?_, ?_⟩, rfl, rfl⟩
  · show ((a : Int), axI (axW x)) ∉ S.hs
    rw [axI_W hx1]; exact hx2
  · show (a : Int) < (S.js.length : Int)
    have := s1.1
    have e : S.nx.js.length = S.js.length := rfl
    omega
  · show axI (axW x) = 0 ∨ axI (axW x) = 1
    rw [axI_W hx1]; omega
end
theorem nodup_few {α : Type} [DecidableEq α] : ∀ {xs ys : List α}, xs.Nodup → (∀ x ∈ xs, x ∈ ys) → xs.length ≤ ys.length
  | [], _, _, _ => Nat.zero_le _
  | x :: xs, ys, h, k => by
    obtain ⟨h1, h2⟩ := List.nodup_cons.mp h
    have hx := k x (.head _)
    have := nodup_few (xs := xs) (ys := ys.erase x) h2 fun z hz => (List.mem_erase_of_ne (fun e : z = x => h1 (by rw [← e]; exact hz))).mpr (k z (.tail _ hz))
    have hl := List.length_erase_of_mem hx
    have hp := List.length_pos_of_mem hx
    simp only [List.length_cons]
    omega
theorem hs_few {S : RS} (I : RInv S) : S.hs.length ≤ 26 := by
  have h1 := nodup_few (ys := (List.range S.js.length).flatMap fun k : Nat => [((k : Int), (0 : Int)), ((k : Int), 1)]) I.hd (fun x hx => by
    obtain ⟨a1, a2, a3⟩ := I.ho x hx
    rw [List.mem_flatMap]
    refine ⟨x.1.toNat, List.mem_range.mpr (by omega), ?_⟩
    obtain ⟨p, q⟩ := x
    simp only at a1 a2 a3
    rw [Int.toNat_of_nonneg a1]
    rcases a3 with rfl | rfl <;> simp)
  have h2 : ∀ n : Nat, ((List.range n).flatMap fun k : Nat => [((k : Int), (0 : Int)), ((k : Int), 1)]).length = 2 * n := fun n => by
    induction n with
    | zero => rfl
    | succ n ih => rw [List.range_succ, List.flatMap_append, List.length_append, ih]; simp; omega
  rw [h2] at h1
  have := I.jl
  omega
/-- a cell that is changed, wherever it stands -/
theorem Has.updM {st : Sto} {i : Nat} {C C' : Cell → Prop} {c : Cell} (L1 : Heapy) {L2 : Heapy} (h : Has st (L1 ++ (i, C) :: L2)) (hc : C' c) : Has (st.set i c) (L1 ++ (i, C') :: L2) := by
  have hn := h.nd
  rw [List.map_append, List.map_cons] at hn
  refine ⟨by rw [List.map_append, List.map_cons]; exact hn, fun x hx => ?_⟩
  obtain ⟨n1, n2, n3⟩ := List.nodup_append.mp hn
  rcases List.mem_append.mp hx with hx | hx
  · obtain ⟨d, z, r⟩ := h.all x (List.mem_append_left _ hx)
    have : i ≠ x.1 := fun e => n3 x.1 (List.mem_map.mpr ⟨x, hx, rfl⟩) i (.head _) e.symm
    exact ⟨d, by rw [List.getElem?_set_ne this]; exact z, r⟩
  · rcases List.mem_cons.mp hx with rfl | hx
    · exact ⟨c, by rw [List.getElem?_set_self (h.lt (C := C) (List.mem_append_right _ (.head _)))], hc⟩
    · obtain ⟨d, z, r⟩ := h.all x (List.mem_append_right _ (.tail _ hx))
      have : i ≠ x.1 := fun e => (List.nodup_cons.mp n2).1 (e ▸ List.mem_map.mpr ⟨x, hx, rfl⟩)
      exact ⟨d, by rw [List.getElem?_set_ne this]; exact z, r⟩
end Z

namespace Z
open PySem L2
open RS
/-! ### the words of a frame, and what is read of them -/
def jw (j : J) : List Str := [("joint" : Str), j.name, iW j.x, iW j.y]
def stW : Option Int → Str
  | none => ("any" : Str)
  | some v => iW v
def nmA (ns : List Str) (i : Int) : Str := (ns[i.toNat]?).getD Str.empty
def rwd (ns : List Str) (r : R4) : List Str := [("rod" : Str), nmA ns r.i, nmA ns r.j, stW r.p, stW r.q]
def hwd (ns : List Str) (h : Int × Int) : List Str := [("hold" : Str), nmA ns h.1, axW h.2.toNat]
def fwords (f : Fm) : List Str := f.js.flatMap jw ++ (f.rs.flatMap (rwd (f.js.map J.name)) ++ f.hs.flatMap (hwd (f.js.map J.name)))
theorem whole_iW {i : Int} (h : -1000 < i ∧ i < 1000) : wholeOf (iW i) = some i := by
  by_cases h0 : 0 ≤ i
  · have := whole_pos i.toNat (by omega)
    rwa [Int.toNat_of_nonneg h0] at this
  · have := whole_neg (-i).toNat (by omega)
    rw [Int.toNat_of_nonneg (by omega), Int.neg_neg] at this
    rcases this with h | h
    · omega
    · exact h
theorem num_iW {v : Int} (h : 0 ≤ v ∧ v < 1000) : numOf (iW v) = some v := by
  have := num_word v.toNat (by omega)
  rwa [Int.toNat_of_nonneg h.1] at this
theorem num_any : numOf ("any" : Str) = none := by decide +kernel
theorem iW_any {v : Int} (h : 0 ≤ v ∧ v < 1000) : iW v ≠ ("any" : Str) := fun e => by
  have := num_iW h
  rw [e, num_any] at this; cases this
section
variable {S : RS} {w : Str} {r rest : List Str} {gs : List Str}
abbrev At (S : RS) (r : List Str) : Prop := S.ws.drop S.at' = r
theorem cur_of (h : At S (w :: r)) : S.cur = some w := by
  unfold At at h
  have : (S.ws.drop S.at')[0]? = some w := by rw [h]; rfl
  rw [List.getElem?_drop] at this
  exact this
theorem at_nx (h : At S (w :: r)) : At S.nx r := by
  unfold At at h ⊢
  have : (S.ws.drop S.at').drop 1 = r := by rw [h]; rfl
  rw [List.drop_drop] at this
  exact this
theorem cur_nil (h : At S []) : S.cur = none := by
  unfold At at h
  have := List.drop_eq_nil_iff.mp h
  exact List.getElem?_eq_none this
theorem take_of (h : S.cur = some w) (m : w ∈ gs) : rTake S gs = .ok (w, S.nx) := by unfold rTake; rw [h]; simp only [if_pos m]
theorem take_no (h : S.cur = some w) (m : w ∉ gs) : rTake S gs = .error S.at' := by unfold rTake; rw [h]; simp only [if_neg m]
theorem whole_of (h : S.cur = some w) {i : Int} (e : wholeOf w = some i) : rWhole S = .ok (i, S.nx) := by unfold rWhole; rw [h, Option.bind_some, e]
theorem y_of (h : S.cur = some w) {x i : Int} (e : wholeOf w = some i) (m : (x, i) ∉ S.js.map J.spot) : rY S x = .ok (i, S.nx) := by unfold rY; rw [h, Option.bind_some, e]; simp only [if_neg m]
theorem one_of {k : Nat} {gs : List Nat} (h : S.cur = some (S.nm k)) (hk : k ∈ gs) (hn : S.names.Nodup) (hl : k < S.js.length) : rOne S gs = .ok (k, S.nx) := by
  unfold rOne
  rw [take_of h (List.mem_map.mpr ⟨k, hk, rfl⟩)]
  simp only [eb_ok, idx_nm hn hl]
theorem nm_inj (hn : S.names.Nodup) {a b : Nat} (ha : a < S.js.length) (hb : b < S.js.length) (e : S.nm a = S.nm b) : a = b := by
  rw [← idx_nm hn ha, e, idx_nm hn hb]
theorem one_no {k : Nat} {gs : List Nat} (h : S.cur = some (S.nm k)) (hk : k ∉ gs) (hn : S.names.Nodup) (hl : k < S.js.length) (hg : ∀ g ∈ gs, g < S.js.length) : rOne S gs = .error S.at' := by
  unfold rOne
  rw [take_no h (fun m => ?_)]
  · rfl
  · obtain ⟨g, h1, h2⟩ := List.mem_map.mp m
    exact hk (nm_inj hn (hg g h1) hl h2 ▸ h1)
theorem str_ofS {o : Option Int} (h : S.cur = some (stW o)) (hl : lowI o) : rStr S = .ok (o, S.nx) := by
  unfold rStr
  rw [h]
  cases o with
  | none => simp only [stW, if_true]
  | some v => simp only [stW, if_neg (iW_any (hl v rfl)), num_iW (hl v rfl)]
/-- one joint -/
theorem joint_step {j : J} (h : At S (jw j ++ rest)) (h1 : isNm j.name = true) (h2 : j.name ∉ S.names) (h3 : j.spot ∉ S.js.map J.spot) (h4 : -1000 < j.x ∧ j.x < 1000 ∧ -1000 < j.y ∧ j.y < 1000) : rJoint S = .ok (addJ S.nx.nx.nx.nx j) ∧ At (addJ S.nx.nx.nx.nx j) rest := by
  have a1 : At S.nx _ := at_nx h
  have a2 : At S.nx.nx _ := at_nx a1
  have a3 : At S.nx.nx.nx _ := at_nx a2
  have a4 : At S.nx.nx.nx.nx _ := at_nx a3
  refine ⟨?_, a4⟩
  unfold rJoint
  rw [take_of (cur_of h) (List.mem_singleton.mpr rfl)]
  simp only [eb_ok]
  rw [name_yes (cur_of a1) ⟨h1, h2⟩]
  simp only [eb_ok]
  rw [whole_of (cur_of a2) (whole_iW ⟨h4.1, h4.2.1⟩)]
  simp only [eb_ok]
  rw [y_of (cur_of a3) (whole_iW ⟨h4.2.2.1, h4.2.2.2⟩) h3]
  simp only [eb_ok]
def adv (S : RS) (k : Nat) (js : List J) (rs : List R4) (hs : List (Int × Int)) : RS := ⟨S.ws, S.at' + k, S.js ++ js, S.rs ++ rs, S.hs ++ hs⟩
theorem adv0 : adv S 0 [] [] [] = S := by cases S; simp [adv]
theorem joints_loop : ∀ (js : List J) (S : RS) (n : Nat) (rest : List Str), At S (js.flatMap jw ++ rest) → (∀ j ∈ js, isNm j.name = true ∧ -1000 < j.x ∧ j.x < 1000 ∧ -1000 < j.y ∧ j.y < 1000) → (S.names ++ js.map J.name).Nodup → (S.js.map J.spot ++ js.map J.spot).Nodup → S.js.length + js.length ≤ 12 →
    loopR ("joint" : Str) okJ rJoint (js.length + n) S = loopR ("joint" : Str) okJ rJoint n (adv S (4 * js.length) js [] []) ∧ At (adv S (4 * js.length) js [] []) rest
  | [], S, n, rest, h, _, _, _, _ => by
    simp only [List.length_nil, Nat.mul_zero, Nat.zero_add, adv0]
    exact ⟨trivial, h⟩
  | j :: js, S, n, rest, h, hj, hn, hs, hl => by
    simp only [List.length_cons] at hl
    rw [List.flatMap_cons, List.append_assoc] at h
    obtain ⟨j1, j2⟩ := hj j (.head _)
    have n1 : j.name ∉ S.names := fun z => (List.nodup_append.mp hn).2.2 _ z _ (.head _) rfl
    have n2 : j.spot ∉ S.js.map J.spot := fun z => (List.nodup_append.mp hs).2.2 _ z _ (.head _) rfl
    obtain ⟨e1, a1⟩ := joint_step h j1 n1 n2 j2
    obtain ⟨e2, a2⟩ := joints_loop js (addJ S.nx.nx.nx.nx j) n rest a1 (fun x hx => hj x (.tail _ hx)) (by
      show ((S.js ++ [j]).map J.name ++ js.map J.name).Nodup
      rw [List.map_append, List.append_assoc]; exact hn) (by
      show ((S.js ++ [j]).map J.spot ++ js.map J.spot).Nodup
      rw [List.map_append, List.append_assoc]; exact hs) (by
      show (S.js ++ [j]).length + js.length ≤ 12
      simp; omega)
    have ea : adv (addJ S.nx.nx.nx.nx j) (4 * js.length) js [] [] = adv S (4 * (j :: js).length) (j :: js) [] [] := by
      simp only [adv, addJ, RS.nx, List.append_assoc, List.length_cons, List.singleton_append, RS.mk.injEq, true_and, and_true]
      omega
    rw [ea] at e2 a2
    refine ⟨?_, a2⟩
    rw [← e2]
    rw [show (j :: js).length + n = (js.length + n) + 1 by simp; omega, loopR, if_pos ⟨cur_of h, decide_eq_true (by omega)⟩, e1]
    rfl
/-- one rod -/
theorem rod_step {r : R4} (h : At S (rwd S.names r ++ rest)) (hn : S.names.Nodup) (hl : S.rs.length < 30) (h1 : r.ends ∉ S.rs.map R4.ends) (h2 : 0 ≤ r.i ∧ r.i < r.j ∧ r.j < S.js.length ∧ lowI r.p ∧ lowI r.q) : rRod S = .ok (addR S.nx.nx.nx.nx.nx r) ∧ At (addR S.nx.nx.nx.nx.nx r) rest ∧ S.starts ≠ [] := by
  obtain ⟨q1, q2, q3, q4, q5⟩ := h2
  have a1 : At S.nx _ := at_nx h
  have a2 : At S.nx.nx _ := at_nx a1
  have a3 : At S.nx.nx.nx _ := at_nx a2
  have a4 : At S.nx.nx.nx.nx _ := at_nx a3
  have a5 : At S.nx.nx.nx.nx.nx _ := at_nx a4
  have ho : ∀ S' : RS, S'.js = S.js → S'.rs = S.rs → r.j.toNat ∈ S'.openE r.i.toNat := fun S' e1 e2 => mem_openE.mpr ⟨by omega, by rw [e1]; omega, by
    rw [e2, Int.toNat_of_nonneg q1, Int.toNat_of_nonneg (by omega)]
    exact h1⟩
  have hs : ∀ S' : RS, S'.js = S.js → S'.rs = S.rs → r.i.toNat ∈ S'.starts := fun S' e1 e2 => mem_starts.mpr ⟨by rw [e2]; omega, by rw [e1]; omega, fun z => by
    have := ho S' e1 e2
    rw [z] at this; cases this⟩
  refine ⟨?_, a5, fun z => by have := hs S rfl rfl; rw [z] at this; cases this⟩
  unfold rRod
  rw [take_of (cur_of h) (List.mem_singleton.mpr rfl)]
  simp only [eb_ok]
  have c1 : S.nx.cur = some (S.nx.nm r.i.toNat) := cur_of a1
  rw [one_of c1 (hs S.nx rfl rfl) hn (show r.i.toNat < S.js.length by omega)]
  simp only [eb_ok]
  have c2 : S.nx.nx.cur = some (S.nx.nx.nm r.j.toNat) := cur_of a2
  rw [one_of c2 (ho S.nx.nx rfl rfl) hn (show r.j.toNat < S.js.length by omega)]
  simp only [eb_ok]
  rw [str_ofS (cur_of a3) q4]
  simp only [eb_ok]
  rw [str_ofS (cur_of a4) q5]
  simp only [eb_ok]
  rw [Int.toNat_of_nonneg q1, Int.toNat_of_nonneg (by omega)]
theorem rods_loop : ∀ (rs : List R4) (S : RS) (n : Nat) (rest : List Str), At S (rs.flatMap (rwd S.names) ++ rest) → S.names.Nodup → (∀ r ∈ rs, 0 ≤ r.i ∧ r.i < r.j ∧ r.j < S.js.length ∧ lowI r.p ∧ lowI r.q) → (S.rs.map R4.ends ++ rs.map R4.ends).Nodup → S.rs.length + rs.length ≤ 30 →
    loopR ("rod" : Str) okR rRod (rs.length + n) S = loopR ("rod" : Str) okR rRod n (adv S (5 * rs.length) [] rs []) ∧ At (adv S (5 * rs.length) [] rs []) rest
  | [], S, n, rest, h, _, _, _, _ => by
    simp only [List.length_nil, Nat.mul_zero, Nat.zero_add, adv0]
    exact ⟨trivial, h⟩
  | r :: rs, S, n, rest, h, hn, hr, he, hl => by
    simp only [List.length_cons] at hl
    rw [List.flatMap_cons, List.append_assoc] at h
    have n1 : r.ends ∉ S.rs.map R4.ends := fun z => (List.nodup_append.mp he).2.2 _ z _ (.head _) rfl
    obtain ⟨e1, a1, s1⟩ := rod_step h hn (by omega) n1 (hr r (.head _))
    obtain ⟨e2, a2⟩ := rods_loop rs (addR S.nx.nx.nx.nx.nx r) n rest a1 hn (fun x hx => hr x (.tail _ hx)) (by
      show ((S.rs ++ [r]).map R4.ends ++ rs.map R4.ends).Nodup
      rw [List.map_append, List.append_assoc]; exact he) (by
      show (S.rs ++ [r]).length + rs.length ≤ 30
      simp; omega)
    have ea : adv (addR S.nx.nx.nx.nx.nx r) (5 * rs.length) [] rs [] = adv S (5 * (r :: rs).length) [] (r :: rs) [] := by
      simp only [adv, addR, RS.nx, List.append_assoc, List.length_cons, List.singleton_append, RS.mk.injEq, true_and, and_true]
      omega
    rw [ea] at e2 a2
    refine ⟨?_, a2⟩
    rw [← e2]
    rw [show (r :: rs).length + n = (rs.length + n) + 1 by simp; omega, loopR, if_pos ⟨cur_of h, decide_eq_true s1⟩, e1]
    rfl
/-- one hold -/
theorem hold_step {p : Int × Int} (h : At S (hwd S.names p ++ rest)) (hn : S.names.Nodup) (h1 : p ∉ S.hs) (h2 : 0 ≤ p.1 ∧ p.1 < S.js.length ∧ (p.2 = 0 ∨ p.2 = 1)) : rHold S = .ok (addH S.nx.nx.nx p) ∧ At (addH S.nx.nx.nx p) rest ∧ S.loose ≠ [] := by
  obtain ⟨q1, q2, q3⟩ := h2
  have a1 : At S.nx _ := at_nx h
  have a2 : At S.nx.nx _ := at_nx a1
  have a3 : At S.nx.nx.nx _ := at_nx a2
  have ho : ∀ S' : RS, S'.hs = S.hs → p.2.toNat ∈ S'.openA p.1.toNat := fun S' e2 => mem_openA.mpr ⟨by omega, by
    rw [e2, Int.toNat_of_nonneg q1, Int.toNat_of_nonneg (by omega)]
    exact h1⟩
  have hs : ∀ S' : RS, S'.js = S.js → S'.hs = S.hs → p.1.toNat ∈ S'.loose := fun S' e1 e2 => mem_loose.mpr ⟨by rw [e1]; omega, fun z => by
    have := ho S' e2
    rw [z] at this; cases this⟩
  refine ⟨?_, a3, fun z => by have := hs S rfl rfl; rw [z] at this; cases this⟩
  unfold rHold
  rw [take_of (cur_of h) (List.mem_singleton.mpr rfl)]
  simp only [eb_ok]
  have c1 : S.nx.cur = some (S.nx.nm p.1.toNat) := cur_of a1
  rw [one_of c1 (hs S.nx rfl rfl) hn (show p.1.toNat < S.js.length by omega)]
  simp only [eb_ok]
  rw [take_of (cur_of a2) (List.mem_map.mpr ⟨p.2.toNat, ho S.nx.nx rfl, rfl⟩)]
  simp only [eb_ok]
  rw [axI_W (by omega), Int.toNat_of_nonneg q1, Int.toNat_of_nonneg (by omega)]
theorem holds_loop : ∀ (hs : List (Int × Int)) (S : RS) (n : Nat) (rest : List Str), At S (hs.flatMap (hwd S.names) ++ rest) → S.names.Nodup → (∀ p ∈ hs, 0 ≤ p.1 ∧ p.1 < S.js.length ∧ (p.2 = 0 ∨ p.2 = 1)) → (S.hs ++ hs).Nodup →
    loopR ("hold" : Str) okH rHold (hs.length + n) S = loopR ("hold" : Str) okH rHold n (adv S (3 * hs.length) [] [] hs) ∧ At (adv S (3 * hs.length) [] [] hs) rest
  | [], S, n, rest, h, _, _, _ => by
    simp only [List.length_nil, Nat.mul_zero, Nat.zero_add, adv0]
    exact ⟨trivial, h⟩
  | p :: hs, S, n, rest, h, hn, hr, he => by
    rw [List.flatMap_cons, List.append_assoc] at h
    have n1 : p ∉ S.hs := fun z => (List.nodup_append.mp he).2.2 _ z _ (.head _) rfl
    obtain ⟨e1, a1, s1⟩ := hold_step h hn n1 (hr p (.head _))
    obtain ⟨e2, a2⟩ := holds_loop hs (addH S.nx.nx.nx p) n rest a1 hn (fun x hx => hr x (.tail _ hx)) (by
      show ((S.hs ++ [p]) ++ hs).Nodup
      rw [List.append_assoc]; exact he)
    have ea : adv (addH S.nx.nx.nx p) (3 * hs.length) [] [] hs = adv S (3 * (p :: hs).length) [] [] (p :: hs) := by
      simp only [adv, addH, RS.nx, List.append_assoc, List.length_cons, List.singleton_append, RS.mk.injEq, true_and, and_true]
      omega
    rw [ea] at e2 a2
    refine ⟨?_, a2⟩
    rw [← e2]
    rw [show (p :: hs).length + n = (hs.length + n) + 1 by simp; omega, loopR, if_pos ⟨cur_of h, decide_eq_true s1⟩, e1]
    rfl
end
/-- a frame that a text can write -/
structure TF (f : Fm) : Prop where
  j1 : 1 ≤ f.js.length
  jl : f.js.length ≤ 12
  jn : ∀ j ∈ f.js, isNm j.name = true
  jx : ∀ j ∈ f.js, -1000 < j.x ∧ j.x < 1000 ∧ -1000 < j.y ∧ j.y < 1000
  nd : (f.js.map J.name).Nodup
  sd : (f.js.map J.spot).Nodup
  rl : f.rs.length ≤ 30
  rd : (f.rs.map R4.ends).Nodup
  ro : ∀ r ∈ f.rs, 0 ≤ r.i ∧ r.i < r.j ∧ r.j < f.js.length ∧ lowI r.p ∧ lowI r.q
  hd : f.hs.Nodup
  ho : ∀ h ∈ f.hs, 0 ≤ h.1 ∧ h.1 < f.js.length ∧ (h.2 = 0 ∨ h.2 = 1)
theorem loop_end {kw : Str} {ok : RS → Bool} {step : RS → Except Nat RS} {S : RS} (h : S.cur ≠ some kw) : ∀ n, loopR kw ok step n S = .ok S
  | 0 => rfl
  | n + 1 => by unfold loopR; rw [if_neg (fun z => h z.1)]
theorem flat_len {α β : Type} {g : α → List β} {k : Nat} (h : ∀ a, (g a).length = k) : ∀ xs : List α, (xs.flatMap g).length = k * xs.length
  | [] => rfl
  | x :: xs => by rw [List.flatMap_cons, List.length_append, h, flat_len h xs, List.length_cons, Nat.mul_add]; omega
theorem fwords_len (f : Fm) : (fwords f).length = 4 * f.js.length + (5 * f.rs.length + 3 * f.hs.length) := by
  unfold fwords
  rw [List.length_append, List.length_append, flat_len (k := 4) fun _ => rfl, flat_len (k := 5) fun _ => rfl, flat_len (k := 3) fun _ => rfl]
theorem kw_ne : ("rod" : Str) ≠ ("joint" : Str) ∧ ("hold" : Str) ≠ ("joint" : Str) ∧ ("hold" : Str) ≠ ("rod" : Str) := by decide +kernel
theorem read_words {f : Fm} (T : TF f) : rRead (fwords f) = .ok ⟨fwords f, (fwords f).length, f.js, f.rs, f.hs⟩ := by
  have hlen := fwords_len f
  obtain ⟨j, js, ej⟩ : ∃ j js, f.js = j :: js := by
    cases e : f.js with
    | nil => have := T.j1; rw [e] at this; simp at this
    | cons j js => exact ⟨j, js, rfl⟩
  have h0 : At (⟨fwords f, 0, [], [], []⟩ : RS) (jw j ++ (js.flatMap jw ++ (f.rs.flatMap (rwd (f.js.map J.name)) ++ f.hs.flatMap (hwd (f.js.map J.name))))) := by
    show (fwords f).drop 0 = _
    rw [List.drop_zero, fwords, ej, List.flatMap_cons, List.append_assoc]
  have hj := T.jn j (by rw [ej]; exact .head _)
  have hx := T.jx j (by rw [ej]; exact .head _)
  obtain ⟨e1, a1⟩ := joint_step h0 hj (by simp [RS.names]) (by simp) hx
  have nd := T.nd; have sd := T.sd; have jl := T.jl
  rw [ej] at nd sd jl
  unfold rRead
  rw [e1]
  simp only [eb_ok]
  have lj : js.length + 1 = f.js.length := by rw [ej]; rfl
  obtain ⟨e2, a2⟩ := joints_loop js _ ((fwords f).length + 1 - js.length) _ a1 (fun x hx => ⟨T.jn x (by rw [ej]; exact .tail _ hx), T.jx x (by rw [ej]; exact .tail _ hx)⟩) nd sd (by simp at jl; show 1 + js.length ≤ 12; omega)
  rw [show js.length + ((fwords f).length + 1 - js.length) = (fwords f).length + 1 by omega] at e2
  rw [e2]
  generalize hS : adv (addJ (RS.nx (RS.nx (RS.nx (RS.nx ⟨fwords f, 0, [], [], []⟩)))) j) (4 * js.length) js [] [] = S at a2 ⊢
  have sj : S.js = f.js := by rw [← hS, ej]; rfl
  have sr : S.rs = [] := by rw [← hS]; rfl
  have sh : S.hs = [] := by rw [← hS]; rfl
  have sw : S.ws = fwords f := by rw [← hS]; rfl
  have sa : S.at' = 4 * f.js.length := by rw [← hS, ← lj]; simp [adv, addJ, RS.nx]; omega
  clear hS e1 e2 a1 h0
  have sn : S.names = f.js.map J.name := by unfold RS.names; rw [sj]
  rw [loop_end (fun c => ?_)]
  · simp only [eb_ok]
    rw [← sn] at a2
    obtain ⟨e3, a3⟩ := rods_loop f.rs S ((fwords f).length + 1 - f.rs.length) _ a2 (by rw [sn]; exact T.nd) (fun r hr => by rw [sj]; exact T.ro r hr) (by rw [sr]; exact T.rd) (by rw [sr]; have := T.rl; simp; exact this)
    rw [show f.rs.length + ((fwords f).length + 1 - f.rs.length) = (fwords f).length + 1 by omega] at e3
    rw [e3]
    generalize hS3 : adv S (5 * f.rs.length) [] f.rs [] = S3 at a3 ⊢
    have sj3 : S3.js = f.js := by rw [← hS3, ← sj]; simp [adv]
    have sr3 : S3.rs = f.rs := by rw [← hS3]; simp [adv, sr]
    have sh3 : S3.hs = [] := by rw [← hS3]; simp [adv, sh]
    have sw3 : S3.ws = fwords f := by rw [← hS3]; exact sw
    have sa3 : S3.at' = 4 * f.js.length + 5 * f.rs.length := by rw [← hS3]; show S.at' + _ = _; rw [sa]
    have sn3 : S3.names = f.js.map J.name := by unfold RS.names; rw [sj3]
    clear hS3 e3 a2
    rw [sn] at a3
    rw [loop_end (fun c => ?_)]
    · simp only [eb_ok]
      rw [← sn3, ← List.append_nil (f.hs.flatMap _)] at a3
      obtain ⟨e4, a4⟩ := holds_loop f.hs S3 ((fwords f).length + 1 - f.hs.length) _ a3 (by rw [sn3]; exact T.nd) (fun r hr => by rw [sj3]; exact T.ho r hr) (by rw [sh3]; exact T.hd)
      rw [show f.hs.length + ((fwords f).length + 1 - f.hs.length) = (fwords f).length + 1 by omega] at e4
      rw [e4, loop_end (fun c => by rw [cur_nil a4] at c; cases c)]
      simp only [eb_ok]
      have e5 : adv S3 (3 * f.hs.length) [] [] f.hs = ⟨fwords f, (fwords f).length, f.js, f.rs, f.hs⟩ := by
        simp only [adv, sj3, sr3, sh3, sw3, sa3, List.append_nil, List.nil_append, RS.mk.injEq, true_and, and_true]
        omega
      rw [e5]
      simp only [Nat.le_refl, if_true]
    · cases eh : f.hs with
      | nil => rw [eh] at a3; rw [cur_nil a3] at c; cases c
      | cons p hs =>
        rw [eh, List.flatMap_cons] at a3
        rw [cur_of a3] at c
        exact kw_ne.2.2 (Option.some.inj c)
  · cases er : f.rs with
    | nil =>
      rw [er] at a2
      cases eh : f.hs with
      | nil => rw [eh] at a2; rw [cur_nil a2] at c; cases c
      | cons p hs =>
        rw [eh, List.flatMap_cons] at a2
        rw [cur_of a2] at c
        exact kw_ne.2.1 (Option.some.inj c)
    | cons r rs =>
      rw [er, List.flatMap_cons] at a2
      rw [cur_of a2] at c
      exact kw_ne.1 (Option.some.inj c)
end Z

namespace Z
open PySem L2
open RS
/-! ### reading beyond a frame -/
def tailR (ws : List Str) (n : Nat) (S : RS) : Except Nat RS := (loopR ("rod" : Str) okR rRod n S).bind fun S => (loopR ("hold" : Str) okH rHold (ws.length + 1) S).bind fun S => if ws.length ≤ S.at' then .ok S else .error S.at'
def tailH (ws : List Str) (n : Nat) (S : RS) : Except Nat RS := (loopR ("hold" : Str) okH rHold n S).bind fun S => if ws.length ≤ S.at' then .ok S else .error S.at'
theorem loop_stop {kw : Str} {ok : RS → Bool} {step : RS → Except Nat RS} {S : RS} (h : S.cur = some kw → ok S = false) : ∀ n, loopR kw ok step n S = .ok S
  | 0 => rfl
  | n + 1 => by unfold loopR; rw [if_neg (fun z => by rw [h z.1] at z; exact absurd z.2 (by decide))]
theorem cur_head {S : RS} {r : List Str} (h : At S r) : S.cur = r.head? := by
  cases r with
  | nil => exact cur_nil h
  | cons w r => exact cur_of h
theorem read_J {f : Fm} (T : TF f) {rest ws : List Str} (hws : ws = f.js.flatMap jw ++ rest) (stop : rest.head? = some ("joint" : Str) → 12 ≤ f.js.length) : rRead ws = tailR ws (ws.length + 1) ⟨ws, 4 * f.js.length, f.js, [], []⟩ ∧ At (⟨ws, 4 * f.js.length, f.js, [], []⟩ : RS) rest := by
  have hlen : ws.length = 4 * f.js.length + rest.length := by rw [hws, List.length_append, flat_len (k := 4) fun _ => rfl]
  obtain ⟨j, js, ej⟩ : ∃ j js, f.js = j :: js := by
    cases e : f.js with
    | nil => have := T.j1; rw [e] at this; simp at this
    | cons j js => exact ⟨j, js, rfl⟩
  have h0 : At (⟨ws, 0, [], [], []⟩ : RS) (jw j ++ (js.flatMap jw ++ rest)) := by
    show ws.drop 0 = _
    rw [List.drop_zero, hws, ej, List.flatMap_cons, List.append_assoc]
  have hj := T.jn j (by rw [ej]; exact .head _)
  have hx := T.jx j (by rw [ej]; exact .head _)
  obtain ⟨e1, a1⟩ := joint_step h0 hj (by simp [RS.names]) (by simp) hx
  have nd := T.nd; have sd := T.sd; have jl := T.jl
  rw [ej] at nd sd jl
  have lj : js.length + 1 = f.js.length := by rw [ej]; rfl
  obtain ⟨e2, a2⟩ := joints_loop js _ (ws.length + 1 - js.length) _ a1 (fun x hx => ⟨T.jn x (by rw [ej]; exact .tail _ hx), T.jx x (by rw [ej]; exact .tail _ hx)⟩) nd sd (by simp at jl; show 1 + js.length ≤ 12; omega)
  rw [show js.length + (ws.length + 1 - js.length) = ws.length + 1 by omega] at e2
  have hS : adv (addJ (RS.nx (RS.nx (RS.nx (RS.nx ⟨ws, 0, [], [], []⟩)))) j) (4 * js.length) js [] [] = ⟨ws, 4 * f.js.length, f.js, [], []⟩ := by
    rw [ej]
    simp [adv, addJ, RS.nx]
    omega
  rw [hS] at e2 a2
  refine ⟨?_, a2⟩
  unfold rRead
  rw [e1]
  simp only [eb_ok]
  rw [e2, loop_stop (fun c => ?_)]
  · rfl
  · rw [cur_head a2] at c
    exact decide_eq_false (by have := stop c; show ¬ f.js.length < 12; omega)
theorem tail_R {f : Fm} (T : TF f) {rest ws : List Str} (hl : f.rs.length ≤ ws.length) (hA : At (⟨ws, 4 * f.js.length, f.js, [], []⟩ : RS) (f.rs.flatMap (rwd (f.js.map J.name)) ++ rest)) : tailR ws (ws.length + 1) ⟨ws, 4 * f.js.length, f.js, [], []⟩ = tailR ws (ws.length + 1 - f.rs.length) ⟨ws, 4 * f.js.length + 5 * f.rs.length, f.js, f.rs, []⟩ ∧ At (⟨ws, 4 * f.js.length + 5 * f.rs.length, f.js, f.rs, []⟩ : RS) rest := by
  obtain ⟨e3, a3⟩ := rods_loop f.rs ⟨ws, 4 * f.js.length, f.js, [], []⟩ (ws.length + 1 - f.rs.length) _ hA T.nd T.ro T.rd (by have := T.rl; simp; exact this)
  rw [show f.rs.length + (ws.length + 1 - f.rs.length) = ws.length + 1 by omega] at e3
  have hS : adv (⟨ws, 4 * f.js.length, f.js, [], []⟩ : RS) (5 * f.rs.length) [] f.rs [] = ⟨ws, 4 * f.js.length + 5 * f.rs.length, f.js, f.rs, []⟩ := by simp [adv]
  rw [hS] at e3 a3
  refine ⟨?_, a3⟩
  unfold tailR
  rw [e3]
theorem tailR_stop {ws : List Str} {S : RS} {n : Nat} (h : S.cur = some ("rod" : Str) → S.starts = []) : tailR ws n S = tailH ws (ws.length + 1) S := by
  unfold tailR
  rw [loop_stop (fun c => by unfold okR; rw [h c]; rfl)]
  rfl
theorem tail_H {f : Fm} (T : TF f) {rest ws : List Str} {a : Nat} (hl : f.hs.length ≤ ws.length) (hA : At (⟨ws, a, f.js, f.rs, []⟩ : RS) (f.hs.flatMap (hwd (f.js.map J.name)) ++ rest)) : tailH ws (ws.length + 1) ⟨ws, a, f.js, f.rs, []⟩ = tailH ws (ws.length + 1 - f.hs.length) ⟨ws, a + 3 * f.hs.length, f.js, f.rs, f.hs⟩ ∧ At (⟨ws, a + 3 * f.hs.length, f.js, f.rs, f.hs⟩ : RS) rest := by
  obtain ⟨e3, a3⟩ := holds_loop f.hs ⟨ws, a, f.js, f.rs, []⟩ (ws.length + 1 - f.hs.length) _ hA T.nd T.ho T.hd
  rw [show f.hs.length + (ws.length + 1 - f.hs.length) = ws.length + 1 by omega] at e3
  have hS : adv (⟨ws, a, f.js, f.rs, []⟩ : RS) (3 * f.hs.length) [] [] f.hs = ⟨ws, a + 3 * f.hs.length, f.js, f.rs, f.hs⟩ := by simp [adv]
  rw [hS] at e3 a3
  refine ⟨?_, a3⟩
  unfold tailH
  rw [e3]
theorem tailH_stop {ws : List Str} {S : RS} {n : Nat} (h : S.cur = some ("hold" : Str) → S.loose = []) (h2 : S.cur ≠ none) : tailH ws n S = .error S.at' ∨ ws ≠ S.ws := by
  unfold tailH
  rw [loop_stop (fun c => by unfold okH; rw [h c]; rfl)]
  simp only [eb_ok]
  by_cases e : ws = S.ws
  · left
    obtain ⟨w, hw⟩ := Option.ne_none_iff_exists'.mp h2
    have := cur_lt hw
    rw [if_neg (by rw [e]; omega)]
  · exact .inr e
theorem headA {A B : List Str} {w : Str} (h : (A ++ B).head? = some w) : A.head? = some w ∨ A = [] ∧ B.head? = some w := by
  cases A with
  | nil => exact .inr ⟨rfl, h⟩
  | cons a A => exact .inl h
theorem head_rods {ns : List Str} {rs : List R4} {w : Str} (h : (rs.flatMap (rwd ns)).head? = some w) : w = ("rod" : Str) := by
  cases rs with
  | nil => cases h
  | cons r rs => rw [List.flatMap_cons] at h; cases h; rfl
theorem head_holds {ns : List Str} {hs : List (Int × Int)} {w : Str} (h : (hs.flatMap (hwd ns)).head? = some w) : w = ("hold" : Str) := by
  cases hs with
  | nil => cases h
  | cons r rs => rw [List.flatMap_cons] at h; cases h; rfl
theorem flat_nil {α : Type} {g : α → List Str} {xs : List α} {k : Nat} (hk : 0 < k) (hg : ∀ a, (g a).length = k) (h : xs.flatMap g = []) : xs = [] := by
  have := flat_len hg xs
  rw [h] at this
  cases xs with
  | nil => rfl
  | cons x xs =>
    simp only [List.length_nil, List.length_cons, Nat.mul_add, Nat.mul_one] at this
    omega
/-- what stands behind a frame's words -/
structure Beyond (f : Fm) (rest : List Str) : Prop where
  J : rest.head? = some ("joint" : Str) → f.rs = [] → f.hs = [] → 12 ≤ f.js.length
  R : rest.head? = some ("rod" : Str) → f.hs = []
theorem read_beyond {f : Fm} (T : TF f) {rest : List Str} (B : Beyond f rest) : ∃ n, 0 < n ∧ rRead (fwords f ++ rest) = tailR (fwords f ++ rest) n ⟨fwords f ++ rest, 4 * f.js.length + 5 * f.rs.length, f.js, f.rs, []⟩ ∧ At (⟨fwords f ++ rest, 4 * f.js.length + 5 * f.rs.length, f.js, f.rs, []⟩ : RS) (f.hs.flatMap (hwd (f.js.map J.name)) ++ rest) := by
  have hlen := fwords_len f
  have hws : fwords f ++ rest = f.js.flatMap jw ++ (f.rs.flatMap (rwd (f.js.map J.name)) ++ (f.hs.flatMap (hwd (f.js.map J.name)) ++ rest)) := by
    unfold fwords
    simp only [List.append_assoc]
  obtain ⟨e1, a1⟩ := read_J T hws (fun c => by
    rcases headA c with c | ⟨c1, c⟩
    · exact absurd (head_rods c).symm kw_ne.1
    rcases headA c with c | ⟨c2, c⟩
    · exact absurd (head_holds c).symm kw_ne.2.1
    exact B.J c (flat_nil (k := 5) (by decide) (fun _ => rfl) c1) (flat_nil (k := 3) (by decide) (fun _ => rfl) c2))
  obtain ⟨e2, a2⟩ := tail_R T (by rw [List.length_append]; omega) a1
  exact ⟨(fwords f ++ rest).length + 1 - f.rs.length, by rw [List.length_append]; omega, e1.trans e2, a2⟩
def stR (ws : List Str) (f : Fm) : RS := ⟨ws, 4 * f.js.length + 5 * f.rs.length, f.js, f.rs, []⟩
def stH (ws : List Str) (f : Fm) : RS := ⟨ws, (fwords f).length, f.js, f.rs, f.hs⟩
theorem read_beyondH {f : Fm} (T : TF f) {rest : List Str} (B : Beyond f rest) (stop : rest.head? = some ("rod" : Str) → (stR [] f).starts = []) : ∃ n, 0 < n ∧ rRead (fwords f ++ rest) = tailH (fwords f ++ rest) n (stH (fwords f ++ rest) f) ∧ At (stH (fwords f ++ rest) f) rest := by
  obtain ⟨n, _, e, a⟩ := read_beyond T B
  have hlen := fwords_len f
  rw [e, tailR_stop (fun c => by
    rw [cur_head a] at c
    rcases headA c with c | ⟨c1, c⟩
    · exact absurd (head_holds c) kw_ne.2.2.symm
    · exact stop c)]
  obtain ⟨e2, a2⟩ := tail_H T (by rw [List.length_append]; omega) a
  have hS : (⟨fwords f ++ rest, 4 * f.js.length + 5 * f.rs.length + 3 * f.hs.length, f.js, f.rs, f.hs⟩ : RS) = stH (fwords f ++ rest) f := by
    unfold stH
    rw [hlen, Nat.add_assoc]
  rw [hS] at e2 a2
  exact ⟨_, by rw [List.length_append]; omega, e2, a2⟩
/-- words that fit nowhere behind a frame's words -/
theorem read_stop {f : Fm} (T : TF f) {rest : List Str} (B : Beyond f rest) (h0 : rest ≠ []) (sR : rest.head? = some ("rod" : Str) → (stR [] f).starts = []) (sH : rest.head? = some ("hold" : Str) → (stH [] f).loose = []) : rRead (fwords f ++ rest) = .error (fwords f).length := by
  obtain ⟨n, _, e, a⟩ := read_beyondH T B sR
  rw [e]
  rcases tailH_stop (ws := fwords f ++ rest) (S := stH (fwords f ++ rest) f) (n := n) (fun c => by rw [cur_head a] at c; exact sH c) (by
    rw [cur_head a]
    cases rest with
    | nil => exact absurd rfl h0
    | cons w r => simp) with h | h
  · exact h
  · exact absurd rfl h
theorem rod_bad {S : RS} {k : Nat} {rest : List Str} (h : At S (("rod" : Str) :: S.nm k :: rest)) (hn : S.names.Nodup) (hk : k < S.js.length) (h2 : k ∉ S.starts) : rRod S = .error (S.at' + 1) := by
  have h2' : k ∉ S.nx.starts := h2
  have c2 : S.nx.cur = some (S.nx.nm k) := cur_of (at_nx h)
  unfold rRod
  rw [take_of (cur_of h) (List.mem_singleton.mpr rfl)]
  simp only [eb_ok]
  rw [one_no c2 h2' hn hk (fun g hg => (mem_starts.mp hg).2.1)]
  rfl
theorem hold_bad {S : RS} {k : Nat} {rest : List Str} (h : At S (("hold" : Str) :: S.nm k :: rest)) (hn : S.names.Nodup) (hk : k < S.js.length) (h2 : k ∉ S.loose) : rHold S = .error (S.at' + 1) := by
  have h2' : k ∉ S.nx.loose := h2
  have c2 : S.nx.cur = some (S.nx.nm k) := cur_of (at_nx h)
  unfold rHold
  rw [take_of (cur_of h) (List.mem_singleton.mpr rfl)]
  simp only [eb_ok]
  rw [one_no c2 h2' hn hk (fun g hg => (mem_loose.mp hg).1)]
  rfl
/-- a rod that begins at a joint that has them all -/
theorem read_badrod {f : Fm} (T : TF f) {rest : List Str} {k : Nat} (hf : f.hs = []) (hk : k < f.js.length) (h1 : (stR [] f).starts ≠ []) (h2 : k ∉ (stR [] f).starts) : rRead (fwords f ++ (("rod" : Str) :: nmA (f.js.map J.name) (k : Nat) :: rest)) = .error ((fwords f).length + 1) := by
  obtain ⟨n, hn, e, a⟩ := read_beyond T (rest := ("rod" : Str) :: nmA (f.js.map J.name) (k : Nat) :: rest) ⟨fun c => absurd (Option.some.inj c) kw_ne.1, fun _ => hf⟩
  rw [e]
  have hlen := fwords_len f
  rw [hf] at a hlen
  simp only [List.flatMap_nil, List.nil_append] at a
  unfold tailR
  obtain ⟨m, rfl⟩ : ∃ m, n = m + 1 := ⟨n - 1, by omega⟩
  rw [loopR, if_pos ⟨cur_of a, decide_eq_true h1⟩, rod_bad a T.nd hk h2]
  simp only [eb_err]
  congr 1
  simp at hlen
  omega
theorem read_badhold {f : Fm} (T : TF f) {rest : List Str} {k : Nat} (hk : k < f.js.length) (h1 : (stH [] f).loose ≠ []) (h2 : k ∉ (stH [] f).loose) : rRead (fwords f ++ (("hold" : Str) :: nmA (f.js.map J.name) (k : Nat) :: rest)) = .error ((fwords f).length + 1) := by
  obtain ⟨n, hn, e, a⟩ := read_beyondH T (rest := ("hold" : Str) :: nmA (f.js.map J.name) (k : Nat) :: rest) ⟨fun c => absurd (Option.some.inj c) kw_ne.2.1, fun c => absurd (Option.some.inj c) kw_ne.2.2⟩ (fun c => absurd (Option.some.inj c) kw_ne.2.2)
  rw [e]
  unfold tailH
  obtain ⟨m, rfl⟩ : ∃ m, n = m + 1 := ⟨n - 1, by omega⟩
  rw [loopR, if_pos ⟨cur_of a, decide_eq_true h1⟩, hold_bad a T.nd hk h2]
  rfl
end Z

namespace Z
open PySem L2
open RS
/-! ### what was read is what is written -/
theorem inv1 : ∀ a < 10, iW (a : Nat) = wd [48 + a] := by decide +kernel
theorem inv2 : ∀ a < 10, ∀ b < 10, a = 0 ∨ iW ((10 * a + b : Nat) : Int) = wd [48 + a, 48 + b] := by decide +kernel
theorem inv3 : ∀ a < 10, ∀ b < 10, ∀ c < 10, a = 0 ∨ iW ((100 * a + 10 * b + c : Nat) : Int) = wd [48 + a, 48 + b, 48 + c] := by decide +kernel
theorem inv4 : ∀ n : Nat, n < 1000 → n = 0 ∨ iW (-(n : Int)) = ("-" : Str) ++ iW n := by decide +kernel
theorem num_inv {w : Str} {i : Int} (h : numOf w = some i) : w = iW i := by
  unfold numOf at h
  split at h
  · rename_i hc
    split at h
    · cases h
    · rename_i hz
      obtain ⟨h1, h2, h3⟩ := hc
      have hw : w.length = w.cps.toList.length := by simp [Str.length]
      have e : w = wd w.cps.toList := by cases w; simp [wd]
      rw [hw] at h1 h2 hz
      rw [e] at h ⊢
      generalize w.cps.toList = cs at h h1 h2 h3 hz
      match cs, h1, h2, h3, hz, h with
      | [a], _, _, h3, hz, h =>
        simp only [List.all_cons, List.all_nil, Bool.and_true, digB, decide_eq_true_eq] at h3
        have := num1 (a - 48) (by omega)
        have iv := inv1 (a - 48) (by omega)
        rw [show 48 + (a - 48) = a by omega] at this iv
        rw [h] at this
        cases this; rw [iv]
      | [a, b], _, _, h3, hz, h =>
        simp only [List.all_cons, List.all_nil, Bool.and_true, digB, Bool.and_eq_true, decide_eq_true_eq] at h3
        have ha : a ≠ 48 := fun e => hz ⟨by simp [e], by simp⟩
        have := num2 (a - 48) (by omega) (b - 48) (by omega)
        have iv := (inv2 (a - 48) (by omega) (b - 48) (by omega)).resolve_left (by omega)
        rw [show 48 + (a - 48) = a by omega, show 48 + (b - 48) = b by omega] at this iv
        rw [h] at this
        cases this; rw [iv]
      | [a, b, c], _, _, h3, hz, h =>
        simp only [List.all_cons, List.all_nil, Bool.and_true, digB, Bool.and_eq_true, decide_eq_true_eq] at h3
        have ha : a ≠ 48 := fun e => hz ⟨by simp [e], by simp⟩
        have := num3 (a - 48) (by omega) (b - 48) (by omega) (c - 48) (by omega)
        have iv := (inv3 (a - 48) (by omega) (b - 48) (by omega) (c - 48) (by omega)).resolve_left (by omega)
        rw [show 48 + (a - 48) = a by omega, show 48 + (b - 48) = b by omega, show 48 + (c - 48) = c by omega] at this iv
        rw [h] at this
        cases this; rw [iv]
  · cases h
theorem cut_cat (w : Str) : w = cutS w none (some 1) ++ cutS w (some 1) none := by
  have e1 : cutS w none (some 1) = wd (w.cps.toList.take 1) := by
    show wd _ = _
    congr 1
    by_cases h : w.length = 0
    · have : w.cps.toList = [] := by
        have : w.length = w.cps.toList.length := by simp [Str.length]
        exact List.length_eq_zero_iff.mp (by omega)
      rw [this]; simp
    · have h1 : HT.sIx w.length w.length (some 1) = 1 := by simp [HT.sIx]; omega
      rw [h1]
      simp [HT.sIx]
  have e2 : cutS w (some 1) none = wd (w.cps.toList.drop 1) := by
    show wd _ = _
    congr 1
    by_cases h : w.length = 0
    · have : w.cps.toList = [] := by
        have : w.length = w.cps.toList.length := by simp [Str.length]
        exact List.length_eq_zero_iff.mp (by omega)
      rw [this]; simp
    · have h1 : HT.sIx w.length 0 (some 1) = 1 := by simp [HT.sIx]; omega
      rw [h1]
      simp only [HT.sIx]
      refine List.take_of_length_le ?_
      simp [Str.length]
  rw [e1, e2]
  apply TL.ext_tl
  rw [TL.tl_append]
  show w.cps.toList = w.cps.toList.take 1 ++ w.cps.toList.drop 1
  rw [List.take_append_drop]
theorem whole_inv {w : Str} {i : Int} (h : wholeOf w = some i) : w = iW i := by
  unfold wholeOf at h
  split at h
  · exact num_inv h
  · rename_i hm
    split at h
    · cases h
    · rename_i v hv
      split at h
      · cases h
      · rename_i hv0
        cases h
        have hm : cutS w none (some 1) = ("-" : Str) := Classical.not_not.mp hm
        have hl := numOf_low hv
        have e := num_inv hv
        have := (inv4 v.toNat (by omega)).resolve_left (by omega)
        rw [Int.toNat_of_nonneg hl.1] at this
        rw [cut_cat w, hm, e, Int.zero_sub, this]
section
variable {S S' : RS} {w : Str}
theorem cur_at (h : S.cur = some w) : S.ws.drop S.at' = w :: S.nx.ws.drop S.nx.at' := by
  obtain ⟨h1, h2⟩ := List.getElem?_eq_some_iff.mp h
  rw [List.drop_eq_getElem_cons h1, h2]; rfl
def restOf (S : RS) : List Str := S.ws.drop S.at'
theorem joint_inv (h : rJoint S = .ok S') : ∃ j, S' = addJ S.nx.nx.nx.nx j ∧ restOf S = jw j ++ restOf S' := by
  obtain ⟨⟨_, _⟩, a1, h⟩ := eb_eq_ok h
  obtain ⟨c1, c2, rfl⟩ := take_ok a1
  obtain ⟨⟨n, _⟩, a2, h⟩ := eb_eq_ok h
  obtain ⟨c3, c4, c5, rfl⟩ := name_okS a2
  obtain ⟨⟨x, _⟩, a3, h⟩ := eb_eq_ok h
  obtain ⟨w3, c6, c7, rfl⟩ := whole_okS a3
  obtain ⟨⟨y, _⟩, a4, h⟩ := eb_eq_ok h
  obtain ⟨w4, c8, c9, c10, rfl⟩ := y_okS a4
  cases h
  rw [List.mem_singleton.mp c2] at c1
  rw [whole_inv c7] at c6
  rw [whole_inv c9] at c8
  refine ⟨_, rfl, ?_⟩
  unfold restOf
  rw [cur_at c1, cur_at c3, cur_at c6, cur_at c8]
  rfl
theorem st_inv {o : Option Int} (h : w = ("any" : Str) ∧ o = none ∨ w ≠ ("any" : Str) ∧ numOf w = o ∧ o ≠ none) : w = stW o := by
  rcases h with ⟨h1, h2⟩ | ⟨_, h2, h3⟩
  · rw [h1, h2]; rfl
  · cases o with
    | none => exact absurd rfl h3
    | some v => exact num_inv h2
theorem nm_A {k : Nat} : S.nm k = nmA S.names (k : Nat) := rfl
theorem rod_inv (hn : S.names.Nodup) (h : rRod S = .ok S') : ∃ r, S' = addR S.nx.nx.nx.nx.nx r ∧ restOf S = rwd S.names r ++ restOf S' := by
  obtain ⟨⟨_, _⟩, a1, h⟩ := eb_eq_ok h
  obtain ⟨c1, c2, rfl⟩ := take_ok a1
  obtain ⟨⟨a, _⟩, a2, h⟩ := eb_eq_ok h
  obtain ⟨w2, c3, c4, c5, rfl⟩ := one_okS a2
  obtain ⟨⟨b, _⟩, a3, h⟩ := eb_eq_ok h
  obtain ⟨w3, c6, c7, c8, rfl⟩ := one_okS a3
  obtain ⟨⟨p, _⟩, a4, h⟩ := eb_eq_ok h
  obtain ⟨w4, c9, rfl, c10⟩ := str_okS a4
  obtain ⟨⟨q, _⟩, a5, h⟩ := eb_eq_ok h
  obtain ⟨w5, c11, rfl, c12⟩ := str_okS a5
  cases h
  simp only at c5 c8 c10 c12
  have m1 := (one_mem (S := S.nx) hn (fun g hg => (mem_starts.mp hg).2.1) c4).2
  rw [← c5] at m1
  have m2 := (one_mem (S := S.nx.nx) hn (fun g hg => (mem_openE.mp hg).2.1) c7).2
  rw [← c8] at m2
  rw [List.mem_singleton.mp c2] at c1
  rw [← m1] at c3
  rw [← m2] at c6
  rw [st_inv c10] at c9
  rw [st_inv c12] at c11
  refine ⟨_, rfl, ?_⟩
  unfold restOf
  rw [cur_at c1, cur_at c3, cur_at c6, cur_at c9, cur_at c11]
  rfl
theorem hold_inv (hn : S.names.Nodup) (h : rHold S = .ok S') : ∃ p, S' = addH S.nx.nx.nx p ∧ restOf S = hwd S.names p ++ restOf S' := by
  obtain ⟨⟨_, _⟩, a1, h⟩ := eb_eq_ok h
  obtain ⟨c1, c2, rfl⟩ := take_ok a1
  obtain ⟨⟨a, _⟩, a2, h⟩ := eb_eq_ok h
  obtain ⟨w2, c3, c4, c5, rfl⟩ := one_okS a2
  obtain ⟨⟨b, _⟩, a3, h⟩ := eb_eq_ok h
  obtain ⟨c6, c7, rfl⟩ := take_ok a3
  cases h
  simp only at c5 c6 c7
  have m1 := (one_mem (S := S.nx) hn (fun g hg => (mem_loose.mp hg).1) c4).2
  rw [← c5] at m1
  obtain ⟨x, hx, rfl⟩ := List.mem_map.mp c7
  obtain ⟨hx1, hx2⟩ := mem_openA.mp hx
  rw [List.mem_singleton.mp c2] at c1
  rw [← m1] at c3
  refine ⟨_, rfl, ?_⟩
  unfold restOf
  rw [cur_at c1, cur_at c3, cur_at c6]
  have e : axW (axI (axW x)).toNat = axW x := by rw [axI_W hx1]; rfl
  show _ = [("hold" : Str), nmA S.names (a : Nat), axW (axI (axW x)).toNat] ++ _
  rw [e]
  rfl
/-- loops keep what is written -/
theorem loopJ_inv : ∀ (n : Nat) (S S' : RS), RInv S → loopR ("joint" : Str) okJ rJoint n S = .ok S' → RInv S' ∧ S'.rs = S.rs ∧ S'.hs = S.hs ∧ S'.ws = S.ws ∧ ∃ js, S'.js = S.js ++ js ∧ restOf S = js.flatMap jw ++ restOf S'
  | 0, S, S', I, h => by cases h; exact ⟨I, rfl, rfl, rfl, [], by simp, rfl⟩
  | n + 1, S, S', I, h => by
    unfold loopR at h
    split at h
    · rename_i hc
      obtain ⟨S1, h1, h2⟩ := eb_eq_ok h
      obtain ⟨I1, _, _⟩ := joint_okS I (of_decide_eq_true hc.2) h1
      obtain ⟨j, rfl, e⟩ := joint_inv h1
      obtain ⟨I2, a1, a2, a3, js, a4, a5⟩ := loopJ_inv n _ _ I1 h2
      refine ⟨I2, a1, a2, a3, j :: js, by rw [a4]; simp [addJ, RS.nx], ?_⟩
      rw [e, a5, List.flatMap_cons, List.append_assoc]
    · cases h; exact ⟨I, rfl, rfl, rfl, [], by simp, rfl⟩
theorem loopR_inv : ∀ (n : Nat) (S S' : RS), RInv S → loopR ("rod" : Str) okR rRod n S = .ok S' → RInv S' ∧ S'.js = S.js ∧ S'.hs = S.hs ∧ S'.ws = S.ws ∧ ∃ rs, S'.rs = S.rs ++ rs ∧ restOf S = rs.flatMap (rwd S.names) ++ restOf S'
  | 0, S, S', I, h => by cases h; exact ⟨I, rfl, rfl, rfl, [], by simp, rfl⟩
  | n + 1, S, S', I, h => by
    unfold loopR at h
    split at h
    · rename_i hc
      obtain ⟨S1, h1, h2⟩ := eb_eq_ok h
      obtain ⟨I1, _, _⟩ := rod_okS I h1
      obtain ⟨j, rfl, e⟩ := rod_inv I.nd h1
      obtain ⟨I2, a1, a2, a3, js, a4, a5⟩ := loopR_inv n _ _ I1 h2
      refine ⟨I2, a1, a2, a3, j :: js, by rw [a4]; simp [addR, RS.nx], ?_⟩
      rw [e, a5, List.flatMap_cons, List.append_assoc]; rfl
    · cases h; exact ⟨I, rfl, rfl, rfl, [], by simp, rfl⟩
theorem loopH_inv : ∀ (n : Nat) (S S' : RS), RInv S → loopR ("hold" : Str) okH rHold n S = .ok S' → RInv S' ∧ S'.js = S.js ∧ S'.rs = S.rs ∧ S'.ws = S.ws ∧ ∃ hs, S'.hs = S.hs ++ hs ∧ restOf S = hs.flatMap (hwd S.names) ++ restOf S'
  | 0, S, S', I, h => by cases h; exact ⟨I, rfl, rfl, rfl, [], by simp, rfl⟩
  | n + 1, S, S', I, h => by
    unfold loopR at h
    split at h
    · rename_i hc
      obtain ⟨S1, h1, h2⟩ := eb_eq_ok h
      obtain ⟨I1, _, _⟩ := hold_okS I h1
      obtain ⟨j, rfl, e⟩ := hold_inv I.nd h1
      obtain ⟨I2, a1, a2, a3, js, a4, a5⟩ := loopH_inv n _ _ I1 h2
      refine ⟨I2, a1, a2, a3, j :: js, by rw [a4]; simp [addH, RS.nx], ?_⟩
      rw [e, a5, List.flatMap_cons, List.append_assoc]; rfl
    · cases h; exact ⟨I, rfl, rfl, rfl, [], by simp, rfl⟩
theorem RInv.tf (I : RInv S) (h : 1 ≤ S.js.length) : TF ⟨S.js, S.rs, S.hs⟩ := ⟨h, I.jl, I.jn, I.jx, I.nd, I.sd, I.rl, I.rd, I.ro, I.hd, I.ho⟩
theorem read_inv {ws : List Str} (hw : ws.length ≤ 5000) (hz : ∀ w ∈ ws, w.length ≤ 1000) (h : rRead ws = .ok S) : RInv S ∧ TF ⟨S.js, S.rs, S.hs⟩ ∧ ws = fwords ⟨S.js, S.rs, S.hs⟩ := by
  have I0 : RInv ⟨ws, 0, [], [], []⟩ := ⟨hw, hz, Nat.zero_le _, by simp, by simp, by simp, by simp [RS.names], by simp, by simp, by simp, by simp, by simp, by simp⟩
  obtain ⟨S1, e1, h⟩ := eb_eq_ok h
  obtain ⟨S2, e2, h⟩ := eb_eq_ok h
  obtain ⟨S3, e3, h⟩ := eb_eq_ok h
  obtain ⟨S4, e4, h⟩ := eb_eq_ok h
  split at h
  · rename_i hlen
    cases h
    obtain ⟨I1, _, w1⟩ := joint_okS I0 (by simp) e1
    obtain ⟨j, rfl, q1⟩ := joint_inv e1
    obtain ⟨I2, r2, s2, w2, js, q2, q2'⟩ := loopJ_inv _ _ _ I1 e2
    obtain ⟨I3, j3, s3, w3, rs, q3, q3'⟩ := loopR_inv _ _ _ I2 e3
    obtain ⟨I4, j4, r4, w4, hs, q4, q4'⟩ := loopH_inv _ _ _ I3 e4
    have hj : S.js = j :: js := by rw [j4, j3, q2]; rfl
    have hr : S.rs = rs := by rw [r4, q3, r2]; rfl
    have hh : S.hs = hs := by rw [q4, s3, s2]; rfl
    have n2 : S2.names = S.js.map J.name := by unfold RS.names; rw [j4, j3]
    have n3 : S3.names = S.js.map J.name := by unfold RS.names; rw [j4]
    refine ⟨I4, I4.tf (by rw [hj]; simp), ?_⟩
    have hw4 : S.ws = ws := by rw [w4, w3, w2, w1]
    have z : restOf S = [] := by
      unfold restOf
      rw [hw4]
      exact List.drop_eq_nil_of_le hlen
    have q1' : ws = jw j ++ restOf (addJ (RS.nx (RS.nx (RS.nx (RS.nx ⟨ws, 0, [], [], []⟩)))) j) := by
      rw [← q1]
      unfold restOf
      simp
    rw [z] at q4'
    rw [q4', n3] at q3'
    rw [q3', n2] at q2'
    rw [q2'] at q1'
    unfold fwords
    rw [hr, hh]
    simp only [hj, List.flatMap_cons] at q1' ⊢
    rw [q1']
    simp only [List.append_nil, List.append_assoc]
  · cases h
end
end Z

namespace K04
open PySem L2 Z
def P : Program := PySem.Challenge.rw_stillframe_k04_bounds_of_texts.prog
def gc_AXES : List Gc := [.str ("x" : Str), .str ("y" : Str)]
def gc_KEYS : List Gc := [.str ("joint" : Str), .str ("rod" : Str), .str ("hold" : Str), .str ("any" : Str)]
def top (i : Nat) : Stmt := PySem.Challenge.pw_stillframe_k04_bounds_of_texts.main.body.getD i (.Pass ⟨0, 0, 0, 0⟩)
abbrev s_ulaw_pool : Stmt := (top 32)
abbrev at_ulaw_pool : Str × Option Str := (("_law_pool" : Str), (none : Option Str))
def d_ulaw_pool : He.DefD := ⟨at_ulaw_pool, "_law_pool", "_law_pool", defArgs s_ulaw_pool, defBody s_ulaw_pool, defScope s_ulaw_pool, [], []⟩
abbrev s_ulaw_draw : Stmt := (top 33)
abbrev at_ulaw_draw : Str × Option Str := (("_law_draw" : Str), (none : Option Str))
def d_ulaw_draw : He.DefD := ⟨at_ulaw_draw, "_law_draw", "_law_draw", defArgs s_ulaw_draw, defBody s_ulaw_draw, defScope s_ulaw_draw, [], []⟩
abbrev s_ulaw_name_of : Stmt := (top 35)
abbrev at_ulaw_name_of : Str × Option Str := (("_law_name_of" : Str), (none : Option Str))
def d_ulaw_name_of : He.DefD := ⟨at_ulaw_name_of, "_law_name_of", "_law_name_of", defArgs s_ulaw_name_of, defBody s_ulaw_name_of, defScope s_ulaw_name_of, [], []⟩
abbrev s_ulaw_joints : Stmt := (top 37)
abbrev at_ulaw_joints : Str × Option Str := (("_law_joints" : Str), (none : Option Str))
def d_ulaw_joints : He.DefD := ⟨at_ulaw_joints, "_law_joints", "_law_joints", defArgs s_ulaw_joints, defBody s_ulaw_joints, defScope s_ulaw_joints, [], []⟩
abbrev s_ulaw_same : Stmt := (top 34)
abbrev at_ulaw_same : Str × Option Str := (("_law_same" : Str), (none : Option Str))
def d_ulaw_same : He.DefD := ⟨at_ulaw_same, "_law_same", "_law_same", defArgs s_ulaw_same, defBody s_ulaw_same, defScope s_ulaw_same, [], []⟩
abbrev s_ulaw_due : Stmt := (top 38)
abbrev at_ulaw_due : Str × Option Str := (("_law_due" : Str), (none : Option Str))
def d_ulaw_due : He.DefD := ⟨at_ulaw_due, "_law_due", "_law_due", defArgs s_ulaw_due, defBody s_ulaw_due, defScope s_ulaw_due, [], []⟩
abbrev s_strength_word : Stmt := (top 29)
abbrev at_strength_word : Str × Option Str := (("strength_word" : Str), (none : Option Str))
def d_strength_word : He.DefD := ⟨at_strength_word, "strength_word", "strength_word", defArgs s_strength_word, defBody s_strength_word, defScope s_strength_word, [], []⟩
abbrev s_frame_text : Stmt := (top 30)
abbrev at_frame_text : Str × Option Str := (("frame_text" : Str), (none : Option Str))
def d_frame_text : He.DefD := ⟨at_frame_text, "frame_text", "frame_text", defArgs s_frame_text, defBody s_frame_text, defScope s_frame_text, [], []⟩
abbrev s_Cursor___init__ : Stmt := (inClass (top 14) 0)
abbrev at_Cursor___init__ : Str × Option Str := (("Cursor" : Str), some ("__init__" : Str))
def d_Cursor___init__ : He.DefD := ⟨at_Cursor___init__, "__init__", "Cursor.__init__", defArgs s_Cursor___init__, defBody s_Cursor___init__, defScope s_Cursor___init__, [], []⟩
abbrev s_words_of : Stmt := (top 9)
abbrev at_words_of : Str × Option Str := (("words_of" : Str), (none : Option Str))
def d_words_of : He.DefD := ⟨at_words_of, "words_of", "words_of", defArgs s_words_of, defBody s_words_of, defScope s_words_of, [], []⟩
abbrev s_Reader___init__ : Stmt := (inClass (top 27) 0)
abbrev at_Reader___init__ : Str × Option Str := (("Reader" : Str), some ("__init__" : Str))
def d_Reader___init__ : He.DefD := ⟨at_Reader___init__, "__init__", "Reader.__init__", defArgs s_Reader___init__, defBody s_Reader___init__, defScope s_Reader___init__, [], []⟩
abbrev s_Cursor_next_word : Stmt := (inClass (top 14) 1)
abbrev at_Cursor_next_word : Str × Option Str := (("Cursor" : Str), some ("next_word" : Str))
def d_Cursor_next_word : He.DefD := ⟨at_Cursor_next_word, "next_word", "Cursor.next_word", defArgs s_Cursor_next_word, defBody s_Cursor_next_word, defScope s_Cursor_next_word, [], []⟩
abbrev s_Cursor_take : Stmt := (inClass (top 14) 3)
abbrev at_Cursor_take : Str × Option Str := (("Cursor" : Str), some ("take" : Str))
def d_Cursor_take : He.DefD := ⟨at_Cursor_take, "take", "Cursor.take", defArgs s_Cursor_take, defBody s_Cursor_take, defScope s_Cursor_take, [], []⟩
abbrev s_is_name : Stmt := (top 10)
abbrev at_is_name : Str × Option Str := (("is_name" : Str), (none : Option Str))
def d_is_name : He.DefD := ⟨at_is_name, "is_name", "is_name", defArgs s_is_name, defBody s_is_name, defScope s_is_name, [], []⟩
abbrev s_Reader_names : Stmt := (inClass (top 27) 1)
abbrev at_Reader_names : Str × Option Str := (("Reader" : Str), some ("names" : Str))
def d_Reader_names : He.DefD := ⟨at_Reader_names, "names", "Reader.names", defArgs s_Reader_names, defBody s_Reader_names, defScope s_Reader_names, [], []⟩
abbrev s_Cursor_refuse : Stmt := (inClass (top 14) 2)
abbrev at_Cursor_refuse : Str × Option Str := (("Cursor" : Str), some ("refuse" : Str))
def d_Cursor_refuse : He.DefD := ⟨at_Cursor_refuse, "refuse", "Cursor.refuse", defArgs s_Cursor_refuse, defBody s_Cursor_refuse, defScope s_Cursor_refuse, [], []⟩
abbrev s_Cursor_skip : Stmt := (inClass (top 14) 4)
abbrev at_Cursor_skip : Str × Option Str := (("Cursor" : Str), some ("skip" : Str))
def d_Cursor_skip : He.DefD := ⟨at_Cursor_skip, "skip", "Cursor.skip", defArgs s_Cursor_skip, defBody s_Cursor_skip, defScope s_Cursor_skip, [], []⟩
abbrev s_plain_number : Stmt := (top 11)
abbrev at_plain_number : Str × Option Str := (("plain_number" : Str), (none : Option Str))
def d_plain_number : He.DefD := ⟨at_plain_number, "plain_number", "plain_number", defArgs s_plain_number, defBody s_plain_number, defScope s_plain_number, [], []⟩
abbrev s_number_of : Stmt := (top 12)
abbrev at_number_of : Str × Option Str := (("number_of" : Str), (none : Option Str))
def d_number_of : He.DefD := ⟨at_number_of, "number_of", "number_of", defArgs s_number_of, defBody s_number_of, defScope s_number_of, [], []⟩
abbrev s_whole_of : Stmt := (top 13)
abbrev at_whole_of : Str × Option Str := (("whole_of" : Str), (none : Option Str))
def d_whole_of : He.DefD := ⟨at_whole_of, "whole_of", "whole_of", defArgs s_whole_of, defBody s_whole_of, defScope s_whole_of, [], []⟩
abbrev s_Reader_whole : Stmt := (inClass (top 27) 6)
abbrev at_Reader_whole : Str × Option Str := (("Reader" : Str), some ("whole" : Str))
def d_Reader_whole : He.DefD := ⟨at_Reader_whole, "whole", "Reader.whole", defArgs s_Reader_whole, defBody s_Reader_whole, defScope s_Reader_whole, [], []⟩
abbrev s_Reader_joint : Stmt := (inClass (top 27) 7)
abbrev at_Reader_joint : Str × Option Str := (("Reader" : Str), some ("joint" : Str))
def d_Reader_joint : He.DefD := ⟨at_Reader_joint, "joint", "Reader.joint", defArgs s_Reader_joint, defBody s_Reader_joint, defScope s_Reader_joint, [], []⟩
abbrev s_Reader_open_ends : Stmt := (inClass (top 27) 2)
abbrev at_Reader_open_ends : Str × Option Str := (("Reader" : Str), some ("open_ends" : Str))
def d_Reader_open_ends : He.DefD := ⟨at_Reader_open_ends, "open_ends", "Reader.open_ends", defArgs s_Reader_open_ends, defBody s_Reader_open_ends, defScope s_Reader_open_ends, [], []⟩
abbrev s_Reader_starts : Stmt := (inClass (top 27) 4)
abbrev at_Reader_starts : Str × Option Str := (("Reader" : Str), some ("starts" : Str))
def d_Reader_starts : He.DefD := ⟨at_Reader_starts, "starts", "Reader.starts", defArgs s_Reader_starts, defBody s_Reader_starts, defScope s_Reader_starts, [], []⟩
abbrev s_Reader_one_of : Stmt := (inClass (top 27) 8)
abbrev at_Reader_one_of : Str × Option Str := (("Reader" : Str), some ("one_of" : Str))
def d_Reader_one_of : He.DefD := ⟨at_Reader_one_of, "one_of", "Reader.one_of", defArgs s_Reader_one_of, defBody s_Reader_one_of, defScope s_Reader_one_of, [], []⟩
abbrev s_Reader_strength : Stmt := (inClass (top 27) 9)
abbrev at_Reader_strength : Str × Option Str := (("Reader" : Str), some ("strength" : Str))
def d_Reader_strength : He.DefD := ⟨at_Reader_strength, "strength", "Reader.strength", defArgs s_Reader_strength, defBody s_Reader_strength, defScope s_Reader_strength, [], []⟩
abbrev s_Reader_rod : Stmt := (inClass (top 27) 10)
abbrev at_Reader_rod : Str × Option Str := (("Reader" : Str), some ("rod" : Str))
def d_Reader_rod : He.DefD := ⟨at_Reader_rod, "rod", "Reader.rod", defArgs s_Reader_rod, defBody s_Reader_rod, defScope s_Reader_rod, [], []⟩
abbrev s_Reader_open_axes : Stmt := (inClass (top 27) 3)
abbrev at_Reader_open_axes : Str × Option Str := (("Reader" : Str), some ("open_axes" : Str))
def d_Reader_open_axes : He.DefD := ⟨at_Reader_open_axes, "open_axes", "Reader.open_axes", defArgs s_Reader_open_axes, defBody s_Reader_open_axes, defScope s_Reader_open_axes, [], []⟩
abbrev s_Reader_loose : Stmt := (inClass (top 27) 5)
abbrev at_Reader_loose : Str × Option Str := (("Reader" : Str), some ("loose" : Str))
def d_Reader_loose : He.DefD := ⟨at_Reader_loose, "loose", "Reader.loose", defArgs s_Reader_loose, defBody s_Reader_loose, defScope s_Reader_loose, [], []⟩
abbrev s_Reader_hold : Stmt := (inClass (top 27) 11)
abbrev at_Reader_hold : Str × Option Str := (("Reader" : Str), some ("hold" : Str))
def d_Reader_hold : He.DefD := ⟨at_Reader_hold, "hold", "Reader.hold", defArgs s_Reader_hold, defBody s_Reader_hold, defScope s_Reader_hold, [], []⟩
abbrev s_Cursor_ended : Stmt := (inClass (top 14) 5)
abbrev at_Cursor_ended : Str × Option Str := (("Cursor" : Str), some ("ended" : Str))
def d_Cursor_ended : He.DefD := ⟨at_Cursor_ended, "ended", "Cursor.ended", defArgs s_Cursor_ended, defBody s_Cursor_ended, defScope s_Cursor_ended, [], []⟩
abbrev s_uchecked_joints : Stmt := (top 19)
abbrev at_uchecked_joints : Str × Option Str := (("_checked_joints" : Str), (none : Option Str))
def d_uchecked_joints : He.DefD := ⟨at_uchecked_joints, "_checked_joints", "_checked_joints", defArgs s_uchecked_joints, defBody s_uchecked_joints, defScope s_uchecked_joints, [], []⟩
abbrev s_uweak : Stmt := (top 20)
abbrev at_uweak : Str × Option Str := (("_weak" : Str), (none : Option Str))
def d_uweak : He.DefD := ⟨at_uweak, "_weak", "_weak", defArgs s_uweak, defBody s_uweak, defScope s_uweak, [], []⟩
abbrev s_uchecked_rods : Stmt := (top 21)
abbrev at_uchecked_rods : Str × Option Str := (("_checked_rods" : Str), (none : Option Str))
def d_uchecked_rods : He.DefD := ⟨at_uchecked_rods, "_checked_rods", "_checked_rods", defArgs s_uchecked_rods, defBody s_uchecked_rods, defScope s_uchecked_rods, [], []⟩
abbrev s_uchecked_holds : Stmt := (top 22)
abbrev at_uchecked_holds : Str × Option Str := (("_checked_holds" : Str), (none : Option Str))
def d_uchecked_holds : He.DefD := ⟨at_uchecked_holds, "_checked_holds", "_checked_holds", defArgs s_uchecked_holds, defBody s_uchecked_holds, defScope s_uchecked_holds, [], []⟩
abbrev s_Frame___init__ : Stmt := (inClass (top 18) 0)
abbrev at_Frame___init__ : Str × Option Str := (("Frame" : Str), some ("__init__" : Str))
def d_Frame___init__ : He.DefD := ⟨at_Frame___init__, "__init__", "Frame.__init__", defArgs s_Frame___init__, defBody s_Frame___init__, defScope s_Frame___init__, [], []⟩
abbrev s_read_frame : Stmt := (top 28)
abbrev at_read_frame : Str × Option Str := (("read_frame" : Str), (none : Option Str))
def d_read_frame : He.DefD := ⟨at_read_frame, "read_frame", "read_frame", defArgs s_read_frame, defBody s_read_frame, defScope s_read_frame, [], []⟩
abbrev s_ulaw_told : Stmt := (top 36)
abbrev at_ulaw_told : Str × Option Str := (("_law_told" : Str), (none : Option Str))
def d_ulaw_told : He.DefD := ⟨at_ulaw_told, "_law_told", "_law_told", defArgs s_ulaw_told, defBody s_ulaw_told, defScope s_ulaw_told, [], []⟩
abbrev s_ulaw_numbers_near : Stmt := (top 43)
abbrev at_ulaw_numbers_near : Str × Option Str := (("_law_numbers_near" : Str), (none : Option Str))
def d_ulaw_numbers_near : He.DefD := ⟨at_ulaw_numbers_near, "_law_numbers_near", "_law_numbers_near", defArgs s_ulaw_numbers_near, defBody s_ulaw_numbers_near, defScope s_ulaw_numbers_near, [], []⟩
abbrev s_ulaw_pairs_of : Stmt := (top 39)
abbrev at_ulaw_pairs_of : Str × Option Str := (("_law_pairs_of" : Str), (none : Option Str))
def d_ulaw_pairs_of : He.DefD := ⟨at_ulaw_pairs_of, "_law_pairs_of", "_law_pairs_of", defArgs s_ulaw_pairs_of, defBody s_ulaw_pairs_of, defScope s_ulaw_pairs_of, [], []⟩
abbrev s_ulaw_many_rods : Stmt := (top 40)
abbrev at_ulaw_many_rods : Str × Option Str := (("_law_many_rods" : Str), (none : Option Str))
def d_ulaw_many_rods : He.DefD := ⟨at_ulaw_many_rods, "_law_many_rods", "_law_many_rods", defArgs s_ulaw_many_rods, defBody s_ulaw_many_rods, defScope s_ulaw_many_rods, [], []⟩
abbrev s_ulaw_all_rods : Stmt := (top 41)
abbrev at_ulaw_all_rods : Str × Option Str := (("_law_all_rods" : Str), (none : Option Str))
def d_ulaw_all_rods : He.DefD := ⟨at_ulaw_all_rods, "_law_all_rods", "_law_all_rods", defArgs s_ulaw_all_rods, defBody s_ulaw_all_rods, defScope s_ulaw_all_rods, [], []⟩
abbrev s_ulaw_all_holds : Stmt := (top 42)
abbrev at_ulaw_all_holds : Str × Option Str := (("_law_all_holds" : Str), (none : Option Str))
def d_ulaw_all_holds : He.DefD := ⟨at_ulaw_all_holds, "_law_all_holds", "_law_all_holds", defArgs s_ulaw_all_holds, defBody s_ulaw_all_holds, defScope s_ulaw_all_holds, [], []⟩
abbrev s_law : Stmt := (top 44)
abbrev at_law : Str × Option Str := (("law" : Str), (none : Option Str))
def d_law : He.DefD := ⟨at_law, "law", "law", defArgs s_law, defBody s_law, defScope s_law, [], []⟩
abbrev si_BadText : Stmt := (inClass (top 3) 0)
def i_BadText : IniD := ⟨("BadText" : Str), ("at" : Str), si_BadText⟩
abbrev si_BadFrame : Stmt := (inClass (top 4) 0)
def i_BadFrame : IniD := ⟨("BadFrame" : Str), ("what" : Str), si_BadFrame⟩
def ini : List IniD := [i_BadText, i_BadFrame]
def fn : List He.DefD := [d_ulaw_pool, d_ulaw_draw, d_ulaw_name_of, d_ulaw_joints, d_ulaw_same, d_ulaw_due, d_strength_word, d_frame_text, d_Cursor___init__, d_words_of, d_Reader___init__, d_Cursor_next_word, d_Cursor_take, d_is_name, d_Reader_names, d_Cursor_refuse, d_Cursor_skip, d_plain_number, d_number_of, d_whole_of, d_Reader_whole, d_Reader_joint, d_Reader_open_ends, d_Reader_starts, d_Reader_one_of, d_Reader_strength, d_Reader_rod, d_Reader_open_axes, d_Reader_loose, d_Reader_hold, d_Cursor_ended, d_uchecked_joints, d_uweak, d_uchecked_rods, d_uchecked_holds, d_Frame___init__, d_read_frame, d_ulaw_told, d_ulaw_numbers_near, d_ulaw_pairs_of, d_ulaw_many_rods, d_ulaw_all_rods, d_ulaw_all_holds, d_law]
def facts : List Fc := [cFree ("list" : Str),
  cGlo ("_law_pool" : Str),
  cFree ("len" : Str),
  cFree ("int" : Str),
  cGlo ("_law_draw" : Str),
  cFree ("range" : Str),
  cFree ("str" : Str),
  cGlo ("_law_name_of" : Str),
  cGlo ("_law_joints" : Str),
  cFree ("isinstance" : Str),
  cFree ("tuple" : Str),
  cGlo ("_law_same" : Str),
  cFree ("bool" : Str),
  cGlo ("_law_due" : Str),
  cGlo ("strength_word" : Str),
  cGtup ("AXES" : Str) gc_AXES,
  cGlo ("frame_text" : Str),
  cMk ("Cursor" : Str),
  cMet ("Cursor" : Str) ("__init__" : Str),
  cKeep ("Cursor" : Str),
  cGlo ("words_of" : Str),
  cGlo ("Cursor" : Str),
  cMk ("Reader" : Str),
  cMet ("Reader" : Str) ("__init__" : Str),
  cKeep ("Reader" : Str),
  cGlo ("Reader" : Str),
  cMet ("Cursor" : Str) ("next_word" : Str),
  cFree ("super" : Str),
  cGlo ("BadText" : Str),
  cRai ("BadText" : Str),
  cMet ("Cursor" : Str) ("take" : Str),
  cGtup ("KEYS" : Str) gc_KEYS,
  cGstr ("LETTERS" : Str) ("abcdefghijklmnopqrstuvwxyz" : Str),
  cFree ("all" : Str),
  cGlo ("is_name" : Str),
  cMet ("Reader" : Str) ("names" : Str),
  cMet ("Cursor" : Str) ("refuse" : Str),
  cMet ("Cursor" : Str) ("skip" : Str),
  cGstr ("DIGITS" : Str) ("0123456789" : Str),
  cGlo ("plain_number" : Str),
  cGlo ("number_of" : Str),
  cGlo ("whole_of" : Str),
  cMet ("Reader" : Str) ("whole" : Str),
  cMet ("Reader" : Str) ("joint" : Str),
  cGint ("MOST_JOINTS_frametext" : Str) 12,
  cGint ("MOST_RODS_frametext" : Str) 30,
  cMet ("Reader" : Str) ("open_ends" : Str),
  cMet ("Reader" : Str) ("starts" : Str),
  cMet ("Reader" : Str) ("one_of" : Str),
  cMet ("Reader" : Str) ("strength" : Str),
  cMet ("Reader" : Str) ("rod" : Str),
  cMet ("Reader" : Str) ("open_axes" : Str),
  cMet ("Reader" : Str) ("loose" : Str),
  cGtupN ("AXES" : Str) [("x" : Str), ("y" : Str)],
  cMet ("Reader" : Str) ("hold" : Str),
  cMet ("Cursor" : Str) ("ended" : Str),
  cGint ("MOST_JOINTS_frame" : Str) 40,
  cGlo ("BadFrame" : Str),
  cRai ("BadFrame" : Str),
  cFree ("enumerate" : Str),
  cGlo ("_checked_joints" : Str),
  cGint ("MOST_RODS_frame" : Str) 120,
  cGlo ("_weak" : Str),
  cGlo ("_checked_rods" : Str),
  cGlo ("_checked_holds" : Str),
  cMk ("Frame" : Str),
  cMet ("Frame" : Str) ("__init__" : Str),
  cKeep ("Frame" : Str),
  cGlo ("Frame" : Str),
  cGlo ("read_frame" : Str),
  cExm ("BadFrame" : Str) ("BadText" : Str) false,
  cExm ("BadText" : Str) ("BadText" : Str) true,
  cGlo ("_law_told" : Str),
  cGlo ("_law_numbers_near" : Str),
  cGlo ("_law_pairs_of" : Str),
  cGlo ("_law_many_rods" : Str),
  cGlo ("_law_all_rods" : Str),
  cGlo ("_law_all_holds" : Str),
  cCls ("Frame" : Str),
  cNo ("Frame" : Str) ("joints" : Str),
  cNo ("Frame" : Str) ("rods" : Str),
  cNo ("Frame" : Str) ("holds" : Str),
  cIns ("Frame" : Str),
  cCls ("Reader" : Str),
  cNo ("Reader" : Str) ("cursor" : Str),
  cNo ("Reader" : Str) ("joints" : Str),
  cNo ("Reader" : Str) ("rods" : Str),
  cNo ("Reader" : Str) ("holds" : Str),
  cIns ("Reader" : Str),
  cCls ("Cursor" : Str),
  cNo ("Cursor" : Str) ("words" : Str),
  cNo ("Cursor" : Str) ("at" : Str),
  cIns ("Cursor" : Str),
  cExi ("BadFrame" : Str),
  cExi ("BadText" : Str),
  cGlo ("law" : Str),
  cNo ("BadFrame" : Str) ("at" : Str),
  cNo ("BadText" : Str) ("at" : Str),
  cIni P.main.file ("BadText" : Str) ("at" : Str),
  cIni P.main.file ("BadFrame" : Str) ("what" : Str)]
def clsNm : Nat → Str
  | 0 => "FrameError"
  | 1 => "BadText"
  | 2 => "BadFrame"
  | 21 => "Frame"
  | 22 => "Cursor"
  | 23 => "Reader"
  | _ => ""
def tx (K : PySem.W.Frag) : Tx := { K := K, cls := fun n => He.ga K (clsNm n), has := fun n => [21, 23, 22].contains n, hasX := fun n => [2, 1].contains n, fnA := fun _ => 0, exc := none }
abbrev TT (K : PySem.W.Frag) (mg : Str → Option Value) : Prop := TxtI facts fn ini K mg
/-! ### the plain readings -/
noncomputable def m_ulaw_pool : MF := mFun 2 (sRet (mLst false (mCons (mCallL true fList (mCons (mVar 0) mNil)) (mCons (mC (.int 0)) (mCons (mC (.int 0)) (mCons (mC (.int 1)) (mCons (mC (.int 0)) (mCons (mVar 1) mNil))))))))
noncomputable def m_ulaw_draw : MF := mFun 4 (sSeq (sIf (mAnd (mCmp cLe (mIx (mVar 0) (mC (.int 2))) (mC (.int 0))) (mAnd (mCmp cLe (mIx (mVar 0) (mC (.int 4))) (mC (.int 0))) (mCmp cLt (mIx (mVar 0) (mC (.int 1))) (mCallF fLen (mCons (mIx (mVar 0) (mC (.int 0))) mNil))))) (sSeq (sAsg 2 (mIx (mIx (mVar 0) (mC (.int 0))) (mIx (mVar 0) (mC (.int 1)))))
    (sSeq (sSub (mVar 0) (mC (.int 1)) (mBin bAdd (mIx (mVar 0) (mC (.int 1))) (mC (.int 1))))
    (sSeq (sSub (mVar 0) (mC (.int 3)) (mBin bMod (mCallF fInt (mCons (mBin bAdd (mBin bMul (mIx (mVar 0) (mC (.int 3))) (mC (.int 31))) (mVar 2)) mNil)) (mC (.int 2147483647))))
    (sSeq (sSub (mVar 0) (mC (.int 4)) (mC (.int 7)))
    (sIf (mCmp cGe (mVar 2) (mBin bPow (mC (.int 10)) (mC (.int 18)))) (sSub (mVar 0) (mC (.int 2)) (mVar 2)) sNil))))) sNil)
    (sSeq (sIf (mCmp cGt (mIx (mVar 0) (mC (.int 2))) (mC (.int 0))) (sSeq (sAsg 3 (mBin bMod (mCallF fInt (mCons (mIx (mVar 0) (mC (.int 2))) mNil)) (mVar 1)))
    (sSeq (sSub (mVar 0) (mC (.int 2)) (mBin bDiv (mIx (mVar 0) (mC (.int 2))) (mVar 1)))
    (sSeq (sSub (mVar 0) (mC (.int 4)) (mC (.int 0)))
    (sRet (mVar 3))))) sNil)
    (sSeq (sSub (mVar 0) (mC (.int 4)) (mBin bSub (mIx (mVar 0) (mC (.int 4))) (mC (.int 1))))
    (sSeq (sSub (mVar 0) (mC (.int 3)) (mBin bMod (mCallF fInt (mCons (mBin bAdd (mBin bMul (mIx (mVar 0) (mC (.int 3))) (mC (.int 48271))) (mC (.int 12345))) mNil)) (mC (.int 2147483647))))
    (sRet (mBin bMod (mBin bMod (mCallF fInt (mCons (mBin bAdd (mBin bMul (mIx (mVar 0) (mC (.int 3))) (mC (.int 69621))) (mC (.int 7919))) mNil)) (mC (.int 2147483647))) (mVar 1)))))))
noncomputable def m_ulaw_name_of : MF := mFun 2 (sSeq (sAsg 1 (mC (.str ("abcdefghijklmnopqrstuvwxyz" : Str))))
    (sSeq (sIf (mCmp cLt (mVar 0) (mC (.int 26))) (sRet (mIx (mVar 1) (mVar 0))) sNil)
    (sRet (mBin bAdd (mIx (mVar 1) (mBin bDiv (mVar 0) (mC (.int 26)))) (mIx (mVar 1) (mBin bMod (mCallF fInt (mCons (mVar 0) mNil)) (mC (.int 26))))))))
noncomputable def m_ulaw_joints : MF := mFun 5 (sSeq (sAsg 2 (mLst true mNil))
    (sSeq (sAsg 3 (mCall m_ulaw_draw (mCons (mVar 0) (mCons (mC (.int 900)) mNil))))
    (sSeq (sFor (miRange (mVar 1)) (tgName 4) (sAsg 2 (mBin bAdd (mVar 2) (mLst true (mCons (mC (.str ("joint" : Str))) (mCons (mCall m_ulaw_name_of (mCons (mVar 4) mNil)) (mCons (mCall (strM []) (mCons (mBin bAdd (mVar 3) (mVar 4)) mNil)) (mCons (mCall (strM []) (mCons (mBin bSub (mC (.int 0)) (mVar 4)) mNil)) mNil))))))))
    (sRet (mVar 2)))))
noncomputable def m_ulaw_same : Nat → MF
  | 0 => fun _ _ => .bad
  | n + 1 => mFun 3 (sSeq (sIf (mOr (mTru (mIsi isTup (mVar 1))) (mTru (mIsi isLst (mVar 1)))) (sSeq (sIf (mOr (mCmp cNe (mIsi isTup (mVar 1)) (mIsi isTup (mVar 0))) (mCmp cNe (mIsi isLst (mVar 1)) (mIsi isLst (mVar 0)))) (sRet (mC (.bl false))) sNil)
    (sSeq (sIf (mCmp cNe (mCallF fLen (mCons (mVar 0) mNil)) (mCallF fLen (mCons (mVar 1) mNil))) (sRet (mC (.bl false))) sNil)
    (sSeq (sFor (miRange (mCallF fLen (mCons (mVar 1) mNil))) (tgName 2) (sIf (mNot (mTru (mCall (m_ulaw_same n) (mCons (mIx (mVar 0) (mVar 2)) (mCons (mIx (mVar 1) (mVar 2)) mNil))))) (sRet (mC (.bl false))) sNil))
    (sRet (mC (.bl true)))))) sNil)
    (sSeq (sIf (mOr (mCmp cIs (mVar 1) (mC .non)) (mTru (mIsi isBl (mVar 1)))) (sRet (mAndV (mV (mCmp cEq (mV (mCmp cIs (mVar 0) (mC .non))) (mV (mCmp cIs (mVar 1) (mC .non))))) (mAndV (mOrV (mV (mCmp cIs (mVar 1) (mC .non))) (mIsi isBl (mVar 0))) (mV (mCmp cEq (mVar 0) (mVar 1)))))) sNil)
    (sSeq (sIf (mTru (mIsi isInt (mVar 1))) (sRet (mAndV (mIsi isInt (mVar 0)) (mAndV (mNotV (mIsi isBl (mVar 0))) (mV (mCmp cEq (mVar 0) (mVar 1)))))) sNil)
    (sRet (mAndV (mIsi isStr (mVar 0)) (mV (mCmp cEq (mVar 0) (mVar 1))))))))
noncomputable def m_ulaw_due : MF := mFun 2 (sSeq (sIf (mCmp cIs (mVar 1) (mC .non)) (sRet (mTup (mCons (mC (.str ("read" : Str))) (mCons (mMB isSt fJoin (mC (.str (" " : Str))) (mCons (mVar 0) mNil)) mNil)))) sNil)
    (sRet (mTup (mCons (mC (.str ("refused" : Str))) (mCons (mVar 1) mNil)))))
noncomputable def m_strength_word : MF := mFun 1 (sSeq (sIf (mCmp cIs (mVar 0) (mC .non)) (sRet (mC (.str ("any" : Str)))) sNil)
    (sRet (mCall (strM []) (mCons (mVar 0) mNil))))
noncomputable def m_frame_text : MF := mFun 11 (sSeq (sAsg 1 (mLst false mNil))
    (sSeq (sFor (miSeq (mFld 4 (mVar 0))) (tgTup 3 (tgCons (tgName 2) (tgCons (tgName 3) (tgCons (tgName 4) tgNil)))) (sExpr (mMB isLs fExtend (mVar 1) (mCons (mLst true (mCons (mC (.str ("joint" : Str))) (mCons (mVar 2) (mCons (mCall (strM []) (mCons (mVar 3) mNil)) (mCons (mCall (strM []) (mCons (mVar 4) mNil)) mNil))))) mNil))))
    (sSeq (sFor (miSeq (mFld 5 (mVar 0))) (tgTup 4 (tgCons (tgName 5) (tgCons (tgName 6) (tgCons (tgName 7) (tgCons (tgName 8) tgNil))))) (sExpr (mMB isLs fExtend (mVar 1) (mCons (mLst true (mCons (mC (.str ("rod" : Str))) (mCons (mIx (mIx (mFld 4 (mVar 0)) (mVar 5)) (mC (.int 0))) (mCons (mIx (mIx (mFld 4 (mVar 0)) (mVar 6)) (mC (.int 0))) (mCons (mCall m_strength_word (mCons (mVar 7) mNil)) (mCons (mCall m_strength_word (mCons (mVar 8) mNil)) mNil)))))) mNil))))
    (sSeq (sFor (miSeq (mFld 6 (mVar 0))) (tgTup 2 (tgCons (tgName 9) (tgCons (tgName 10) tgNil))) (sExpr (mMB isLs fExtend (mVar 1) (mCons (mLst true (mCons (mC (.str ("hold" : Str))) (mCons (mIx (mIx (mFld 4 (mVar 0)) (mVar 9)) (mC (.int 0))) (mCons (mIx (mC (.tup (gc_AXES.map Gc.m))) (mVar 10)) mNil)))) mNil))))
    (sRet (mMB isSt fJoin (mC (.str (" " : Str))) (mCons (mVar 1) mNil)))))))
noncomputable def m_Cursor___init__ : MF := mFun 2 (sSeq (sFldM 7 (mVar 0) (mCallL true fList (mCons (mVar 1) mNil)))
    (sFldM 0 (mVar 0) (mC (.int 0))))
noncomputable def m_words_of : MF := mFun 1 (sSeq (sIf (mCmp cEq (mVar 0) (mC (.str ("" : Str)))) (sRet (mLst true mNil)) sNil)
    (sRet (mMB isSt (fSplit true) (mVar 0) (mCons (mC (.str (" " : Str))) mNil))))
noncomputable def m_Reader___init__ : MF := mFun 2 (sSeq (sFldM 8 (mVar 0) (mCall (newC 22 m_Cursor___init__) (mCons (mCall m_words_of (mCons (mVar 1) mNil)) mNil)))
    (sSeq (sFldM 4 (mVar 0) (mLst false mNil))
    (sSeq (sFldM 5 (mVar 0) (mLst false mNil))
    (sFldM 6 (mVar 0) (mLst false mNil)))))
noncomputable def m_Cursor_next_word : MF := mFun 1 (sSeq (sIf (mCmp cLt (mFld 0 (mVar 0)) (mCallF fLen (mCons (mFld 7 (mVar 0)) mNil))) (sRet (mIx (mFld 7 (mVar 0)) (mFld 0 (mVar 0)))) sNil)
    (sRet (mC .non)))
noncomputable def m_Cursor_take : MF := mFun 3 (sSeq (sAsg 2 (mMeth [(22, m_Cursor_next_word)] (mVar 0) mNil))
    (sSeq (sIf (mOr (mCmp cIs (mVar 2) (mC .non)) (mCmp cNin (mVar 2) (mVar 1))) (sRaiseA 1 0 (mFld 0 (mVar 0))) sNil)
    (sSeq (sFldM 0 (mVar 0) (mBin bAdd (mFld 0 (mVar 0)) (mC (.int 1))))
    (sRet (mVar 2)))))
noncomputable def m_is_name : MF := mFun 2 (sSeq (sIf (mOr (mNot (mChain cLe cLe (mC (.int 1)) (mCallF fLen (mCons (mVar 0) mNil)) (mC (.int 8)))) (mCmp cIn (mVar 0) (mC (.tup (gc_KEYS.map Gc.m))))) (sRet (mC (.bl false))) sNil)
    (sRet (mCallF fAll (mCons (mLc true (miStr (mVar 0)) (tgName 1) mYes (mV (mCmp cIn (mVar 1) (mC (.str ("abcdefghijklmnopqrstuvwxyz" : Str))))) [1]) mNil))))
noncomputable def m_Reader_names : MF := mFun 2 (sRet (mLc true (miSeq (mFld 4 (mVar 0))) (tgName 1) mYes (mIx (mVar 1) (mC (.int 0))) [1]))
noncomputable def m_Cursor_refuse : MF := mFun 1 (sRaiseA 1 0 (mFld 0 (mVar 0)))
noncomputable def m_Cursor_skip : MF := mFun 1 (sFldM 0 (mVar 0) (mBin bAdd (mFld 0 (mVar 0)) (mC (.int 1))))
noncomputable def m_plain_number : MF := mFun 3 (sSeq (sIf (mOr (mNot (mChain cLe cLe (mC (.int 1)) (mCallF fLen (mCons (mVar 0) mNil)) (mVar 1))) (mNot (mTru (mCallF fAll (mCons (mLc true (miStr (mVar 0)) (tgName 2) mYes (mV (mCmp cIn (mVar 2) (mC (.str ("0123456789" : Str))))) [2]) mNil))))) (sRet (mC .non)) sNil)
    (sSeq (sIf (mAnd (mCmp cEq (mIx (mVar 0) (mC (.int 0))) (mC (.str ("0" : Str)))) (mCmp cGt (mCallF fLen (mCons (mVar 0) mNil)) (mC (.int 1)))) (sRet (mC .non)) sNil)
    (sRet (mCallF fIntT (mCons (mVar 0) mNil)))))
noncomputable def m_number_of : MF := mFun 1 (sRet (mCall m_plain_number (mCons (mVar 0) (mCons (mC (.int 3)) mNil))))
noncomputable def m_whole_of : MF := mFun 2 (sSeq (sIf (mCmp cNe (mSl true (mVar 0) mNoPart (mPart (mC (.int 1)))) (mC (.str ("-" : Str)))) (sRet (mCall m_number_of (mCons (mVar 0) mNil))) sNil)
    (sSeq (sAsg 1 (mCall m_number_of (mCons (mSl true (mVar 0) (mPart (mC (.int 1))) mNoPart) mNil)))
    (sSeq (sIf (mOr (mCmp cIs (mVar 1) (mC .non)) (mCmp cEq (mVar 1) (mC (.int 0)))) (sRet (mC .non)) sNil)
    (sRet (mBin bSub (mC (.int 0)) (mVar 1))))))
noncomputable def m_Reader_whole : MF := mFun 2 (sSeq (sAsg 1 (mMeth [(22, m_Cursor_next_word)] (mFld 8 (mVar 0)) mNil))
    (sSeq (sIf (mOr (mCmp cIs (mVar 1) (mC .non)) (mCmp cIs (mCall m_whole_of (mCons (mVar 1) mNil)) (mC .non))) (sExpr (mMeth [(22, m_Cursor_refuse)] (mFld 8 (mVar 0)) mNil)) sNil)
    (sSeq (sExpr (mMeth [(22, m_Cursor_skip)] (mFld 8 (mVar 0)) mNil))
    (sRet (mCall m_whole_of (mCons (mVar 1) mNil))))))
noncomputable def m_Reader_joint : MF := mFun 5 (sSeq (sExpr (mMeth [(22, m_Cursor_take)] (mFld 8 (mVar 0)) (mCons (mLst true (mCons (mC (.str ("joint" : Str))) mNil)) mNil)))
    (sSeq (sAsg 1 (mMeth [(22, m_Cursor_next_word)] (mFld 8 (mVar 0)) mNil))
    (sSeq (sIf (mOr (mCmp cIs (mVar 1) (mC .non)) (mOr (mNot (mTru (mCall m_is_name (mCons (mVar 1) mNil)))) (mCmp cIn (mVar 1) (mMeth [(23, m_Reader_names)] (mVar 0) mNil)))) (sExpr (mMeth [(22, m_Cursor_refuse)] (mFld 8 (mVar 0)) mNil)) sNil)
    (sSeq (sExpr (mMeth [(22, m_Cursor_skip)] (mFld 8 (mVar 0)) mNil))
    (sSeq (sAsg 2 (mMeth [(23, m_Reader_whole)] (mVar 0) mNil))
    (sSeq (sAsg 3 (mMeth [(22, m_Cursor_next_word)] (mFld 8 (mVar 0)) mNil))
    (sSeq (sIf (mAnd (mCmp cNot (mVar 3) (mC .non)) (mCmp cIn (mTup (mCons (mVar 2) (mCons (mCall m_whole_of (mCons (mVar 3) mNil)) mNil))) (mLc true (miSeq (mFld 4 (mVar 0))) (tgName 4) mYes (mSl true (mVar 4) (mPart (mC (.int 1))) mNoPart) [4]))) (sExpr (mMeth [(22, m_Cursor_refuse)] (mFld 8 (mVar 0)) mNil)) sNil)
    (sExpr (mMB isLs fAppend (mFld 4 (mVar 0)) (mCons (mTup (mCons (mVar 1) (mCons (mVar 2) (mCons (mMeth [(23, m_Reader_whole)] (mVar 0) mNil) mNil)))) mNil))))))))))
noncomputable def m_Reader_open_ends : MF := mFun 5 (sSeq (sAsg 2 (mLc true (miSeq (mFld 5 (mVar 0))) (tgName 3) mYes (mSl true (mVar 3) mNoPart (mPart (mC (.int 2)))) [3]))
    (sRet (mLc true (miRange2 (mBin bAdd (mVar 1) (mC (.int 1))) (mCallF fLen (mCons (mFld 4 (mVar 0)) mNil))) (tgName 4) (mCmp cNin (mTup (mCons (mVar 1) (mCons (mVar 4) mNil))) (mVar 2)) (mVar 4) [4])))
noncomputable def m_Reader_starts : MF := mFun 2 (sSeq (sIf (mCmp cEq (mCallF fLen (mCons (mFld 5 (mVar 0)) mNil)) (mC (.int 30))) (sRet (mLst true mNil)) sNil)
    (sRet (mLc true (miRange (mCallF fLen (mCons (mFld 4 (mVar 0)) mNil))) (tgName 1) (mTru (mMeth [(23, m_Reader_open_ends)] (mVar 0) (mCons (mVar 1) mNil))) (mVar 1) [1])))
noncomputable def m_Reader_one_of : MF := mFun 4 (sSeq (sAsg 2 (mMeth [(23, m_Reader_names)] (mVar 0) mNil))
    (sRet (mMB isLs fIndex (mVar 2) (mCons (mMeth [(22, m_Cursor_take)] (mFld 8 (mVar 0)) (mCons (mLc true (miSeq (mVar 1)) (tgName 3) mYes (mIx (mVar 2) (mVar 3)) [3]) mNil)) mNil))))
noncomputable def m_Reader_strength : MF := mFun 2 (sSeq (sAsg 1 (mMeth [(22, m_Cursor_next_word)] (mFld 8 (mVar 0)) mNil))
    (sSeq (sIf (mCmp cEq (mVar 1) (mC (.str ("any" : Str)))) (sSeq (sExpr (mMeth [(22, m_Cursor_skip)] (mFld 8 (mVar 0)) mNil))
    (sRet (mC .non))) sNil)
    (sSeq (sIf (mOr (mCmp cIs (mVar 1) (mC .non)) (mCmp cIs (mCall m_number_of (mCons (mVar 1) mNil)) (mC .non))) (sExpr (mMeth [(22, m_Cursor_refuse)] (mFld 8 (mVar 0)) mNil)) sNil)
    (sSeq (sExpr (mMeth [(22, m_Cursor_skip)] (mFld 8 (mVar 0)) mNil))
    (sRet (mCall m_number_of (mCons (mVar 1) mNil)))))))
noncomputable def m_Reader_rod : MF := mFun 4 (sSeq (sExpr (mMeth [(22, m_Cursor_take)] (mFld 8 (mVar 0)) (mCons (mLst true (mCons (mC (.str ("rod" : Str))) mNil)) mNil)))
    (sSeq (sAsg 1 (mMeth [(23, m_Reader_one_of)] (mVar 0) (mCons (mMeth [(23, m_Reader_starts)] (mVar 0) mNil) mNil)))
    (sSeq (sAsg 2 (mMeth [(23, m_Reader_one_of)] (mVar 0) (mCons (mMeth [(23, m_Reader_open_ends)] (mVar 0) (mCons (mVar 1) mNil)) mNil)))
    (sSeq (sAsg 3 (mMeth [(23, m_Reader_strength)] (mVar 0) mNil))
    (sExpr (mMB isLs fAppend (mFld 5 (mVar 0)) (mCons (mTup (mCons (mVar 1) (mCons (mVar 2) (mCons (mVar 3) (mCons (mMeth [(23, m_Reader_strength)] (mVar 0) mNil) mNil))))) mNil)))))))
noncomputable def m_Reader_open_axes : MF := mFun 3 (sRet (mLc true (miSeq (mTup (mCons (mC (.int 0)) (mCons (mC (.int 1)) mNil)))) (tgName 2) (mCmp cNin (mTup (mCons (mVar 1) (mCons (mVar 2) mNil))) (mFld 6 (mVar 0))) (mVar 2) [2]))
noncomputable def m_Reader_loose : MF := mFun 2 (sRet (mLc true (miRange (mCallF fLen (mCons (mFld 4 (mVar 0)) mNil))) (tgName 1) (mTru (mMeth [(23, m_Reader_open_axes)] (mVar 0) (mCons (mVar 1) mNil))) (mVar 1) [1]))
noncomputable def m_Reader_hold : MF := mFun 3 (sSeq (sExpr (mMeth [(22, m_Cursor_take)] (mFld 8 (mVar 0)) (mCons (mLst true (mCons (mC (.str ("hold" : Str))) mNil)) mNil)))
    (sSeq (sAsg 1 (mMeth [(23, m_Reader_one_of)] (mVar 0) (mCons (mMeth [(23, m_Reader_loose)] (mVar 0) mNil) mNil)))
    (sSeq (sAsg 2 (mMeth [(22, m_Cursor_take)] (mFld 8 (mVar 0)) (mCons (mLc true (miSeq (mMeth [(23, m_Reader_open_axes)] (mVar 0) (mCons (mVar 1) mNil))) (tgName 2) mYes (mIx (mC (.tup (gc_AXES.map Gc.m))) (mVar 2)) [2]) mNil)))
    (sExpr (mMB isLs fAppend (mFld 6 (mVar 0)) (mCons (mTup (mCons (mVar 1) (mCons (mGidx [("x" : Str), ("y" : Str)] (mCons (mVar 2) mNil)) mNil))) mNil))))))
noncomputable def m_Cursor_ended : MF := mFun 1 (sRet (mV (mCmp cGe (mFld 0 (mVar 0)) (mCallF fLen (mCons (mFld 7 (mVar 0)) mNil)))))
noncomputable def m_uchecked_joints : MF := mFun 7 (sSeq (sIf (mNot (mChain cLe cLe (mC (.int 1)) (mCallF fLen (mCons (mVar 0) mNil)) (mC (.int 40)))) (sRaiseA 2 1 (mC (.str ("joints" : Str)))) sNil)
    (sSeq (sAsg 1 (mLc true (miSeq (mVar 0)) (tgName 6) mYes (mIx (mVar 6) (mC (.int 0))) [6]))
    (sSeq (sFor (miEnum (mVar 1)) (tgTup 2 (tgCons (tgName 2) (tgCons (tgName 3) tgNil))) (sIf (mOr (mNot (mTru (mCall m_is_name (mCons (mVar 3) mNil)))) (mCmp cIn (mVar 3) (mSl true (mVar 1) mNoPart (mPart (mVar 2))))) (sRaiseA 2 1 (mC (.str ("names" : Str)))) sNil))
    (sSeq (sAsg 4 (mLc true (miSeq (mVar 0)) (tgName 6) mYes (mSl true (mVar 6) (mPart (mC (.int 1))) mNoPart) [6]))
    (sFor (miEnum (mVar 4)) (tgTup 2 (tgCons (tgName 2) (tgCons (tgName 5) tgNil))) (sIf (mCmp cIn (mVar 5) (mSl true (mVar 4) mNoPart (mPart (mVar 2)))) (sRaiseA 2 1 (mC (.str ("places" : Str)))) sNil))))))
noncomputable def m_uweak : MF := mFun 1 (sRet (mAndV (mV (mCmp cNot (mVar 0) (mC .non))) (mV (mCmp cLt (mVar 0) (mC (.int 0))))))
noncomputable def m_uchecked_rods : MF := mFun 5 (sSeq (sIf (mCmp cGt (mCallF fLen (mCons (mVar 0) mNil)) (mC (.int 120))) (sRaiseA 2 1 (mC (.str ("rods" : Str)))) sNil)
    (sSeq (sAsg 2 (mLc true (miSeq (mVar 0)) (tgName 4) mYes (mSl true (mVar 4) mNoPart (mPart (mC (.int 2)))) [4]))
    (sFor (miEnum (mVar 0)) (tgTup 2 (tgCons (tgName 3) (tgCons (tgName 4) tgNil))) (sSeq (sIf (mOr (mNot (mChain3 cLe cLt cLt (mC (.int 0)) (mIx (mVar 4) (mC (.int 0))) (mIx (mVar 4) (mC (.int 1))) (mVar 1))) (mCmp cIn (mSl true (mVar 4) mNoPart (mPart (mC (.int 2)))) (mSl true (mVar 2) mNoPart (mPart (mVar 3))))) (sRaiseA 2 1 (mC (.str ("rods" : Str)))) sNil)
    (sIf (mOr (mTru (mCall m_uweak (mCons (mIx (mVar 4) (mC (.int 2))) mNil))) (mTru (mCall m_uweak (mCons (mIx (mVar 4) (mC (.int 3))) mNil)))) (sRaiseA 2 1 (mC (.str ("rods" : Str)))) sNil)))))
noncomputable def m_uchecked_holds : MF := mFun 4 (sFor (miEnum (mVar 0)) (tgTup 2 (tgCons (tgName 2) (tgCons (tgName 3) tgNil))) (sIf (mOr (mNot (mChain cLe cLt (mC (.int 0)) (mIx (mVar 3) (mC (.int 0))) (mVar 1))) (mOr (mCmp cNin (mIx (mVar 3) (mC (.int 1))) (mTup (mCons (mC (.int 0)) (mCons (mC (.int 1)) mNil)))) (mCmp cIn (mVar 3) (mSl true (mVar 0) mNoPart (mPart (mVar 2)))))) (sRaiseA 2 1 (mC (.str ("holds" : Str)))) sNil))
noncomputable def m_Frame___init__ : MF := mFun 7 (sSeq (sFldM 4 (mVar 0) (mCallF fTuple (mCons (mLc true (miSeq (mVar 1)) (tgName 4) mYes (mCallF fTuple (mCons (mVar 4) mNil)) [4]) mNil)))
    (sSeq (sFldM 5 (mVar 0) (mCallF fTuple (mCons (mLc true (miSeq (mVar 2)) (tgName 5) mYes (mCallF fTuple (mCons (mVar 5) mNil)) [5]) mNil)))
    (sSeq (sFldM 6 (mVar 0) (mCallF fTuple (mCons (mLc true (miSeq (mVar 3)) (tgName 6) mYes (mCallF fTuple (mCons (mVar 6) mNil)) [6]) mNil)))
    (sSeq (sExpr (mCall m_uchecked_joints (mCons (mFld 4 (mVar 0)) mNil)))
    (sSeq (sExpr (mCall m_uchecked_rods (mCons (mFld 5 (mVar 0)) (mCons (mCallF fLen (mCons (mFld 4 (mVar 0)) mNil)) mNil))))
    (sExpr (mCall m_uchecked_holds (mCons (mFld 6 (mVar 0)) (mCons (mCallF fLen (mCons (mFld 4 (mVar 0)) mNil)) mNil)))))))))
noncomputable def m_read_frame : MF := mFun 2 (sSeq (sAsg 1 (mCall (newC 23 m_Reader___init__) (mCons (mVar 0) mNil)))
    (sSeq (sExpr (mMeth [(23, m_Reader_joint)] (mVar 1) mNil))
    (sSeq (sWhile (mAnd (mCmp cEq (mMeth [(22, m_Cursor_next_word)] (mFld 8 (mVar 1)) mNil) (mC (.str ("joint" : Str)))) (mCmp cLt (mCallF fLen (mCons (mFld 4 (mVar 1)) mNil)) (mC (.int 12)))) (sExpr (mMeth [(23, m_Reader_joint)] (mVar 1) mNil)))
    (sSeq (sWhile (mAnd (mCmp cEq (mMeth [(22, m_Cursor_next_word)] (mFld 8 (mVar 1)) mNil) (mC (.str ("rod" : Str)))) (mTru (mMeth [(23, m_Reader_starts)] (mVar 1) mNil))) (sExpr (mMeth [(23, m_Reader_rod)] (mVar 1) mNil)))
    (sSeq (sWhile (mAnd (mCmp cEq (mMeth [(22, m_Cursor_next_word)] (mFld 8 (mVar 1)) mNil) (mC (.str ("hold" : Str)))) (mTru (mMeth [(23, m_Reader_loose)] (mVar 1) mNil))) (sExpr (mMeth [(23, m_Reader_hold)] (mVar 1) mNil)))
    (sSeq (sIf (mNot (mTru (mMeth [(22, m_Cursor_ended)] (mFld 8 (mVar 1)) mNil))) (sExpr (mMeth [(22, m_Cursor_refuse)] (mFld 8 (mVar 1)) mNil)) sNil)
    (sRet (mCall (mPure (newC 21 m_Frame___init__)) (mCons (mFld 4 (mVar 1)) (mCons (mFld 5 (mVar 1)) (mCons (mFld 6 (mVar 1)) mNil)))))))))))
noncomputable def m_ulaw_told : MF := mFun 2 (sTry 1 1 (sRet (mTup (mCons (mC (.str ("read" : Str))) (mCons (mCall m_frame_text (mCons (mCall m_read_frame (mCons (mMB isSt fJoin (mC (.str (" " : Str))) (mCons (mVar 0) mNil)) mNil)) mNil)) mNil)))) (fun c fs => (sRet (mTup (mCons (mC (.str ("refused" : Str))) (mCons (mExcF 1 0 fs) mNil))))))
noncomputable def m_ulaw_numbers_near : MF := mFun 8 (sSeq (sAsg 1 (mIx (mTup (mCons (mC (.str ("999" : Str))) (mCons (mC (.str ("1000" : Str))) (mCons (mC (.str ("998" : Str))) (mCons (mC (.str ("0" : Str))) (mCons (mC (.str ("-0" : Str))) (mCons (mC (.str ("00" : Str))) (mCons (mC (.str ("-1" : Str))) (mCons (mC (.str ("-999" : Str))) (mCons (mC (.str ("-1000" : Str))) (mCons (mC (.str ("0999" : Str))) (mCons (mC (.str ("1" : Str))) (mCons (mC (.str ("" : Str))) mNil))))))))))))) (mCall m_ulaw_draw (mCons (mVar 0) (mCons (mC (.int 12)) mNil)))))
    (sSeq (sAsg 2 (mV (mCmp cIn (mVar 1) (mTup (mCons (mC (.str ("999" : Str))) (mCons (mC (.str ("998" : Str))) (mCons (mC (.str ("0" : Str))) (mCons (mC (.str ("1" : Str))) (mCons (mC (.str ("-1" : Str))) (mCons (mC (.str ("-999" : Str))) mNil))))))))))
    (sSeq (sAsg 3 (mBin bAdd (mC (.int 2)) (mCall m_ulaw_draw (mCons (mVar 0) (mCons (mC (.int 2)) mNil)))))
    (sSeq (sAsg 4 (mLst false (mCons (mC (.str ("joint" : Str))) (mCons (mC (.str ("any" : Str))) (mCons (mC (.str ("5" : Str))) (mCons (mC (.str ("6" : Str))) mNil))))))
    (sSeq (sSub (mVar 4) (mC (.int 1)) (mIx (mTup (mCons (mC (.str ("a" : Str))) (mCons (mC (.str ("x" : Str))) (mCons (mC (.str ("joints" : Str))) (mCons (mC (.str ("abcdefgh" : Str))) mNil))))) (mCall m_ulaw_draw (mCons (mVar 0) (mCons (mC (.int 4)) mNil)))))
    (sSeq (sSub (mVar 4) (mVar 3) (mVar 1))
    (sSeq (sAsg 5 (mC .non))
    (sSeq (sIf (mNot (mTru (mVar 2))) (sAsg 5 (mVar 3)) sNil)
    (sSeq (sIf (mNot (mTru (mCall (m_ulaw_same 6) (mCons (mCall m_ulaw_told (mCons (mVar 4) mNil)) (mCons (mCall m_ulaw_due (mCons (mVar 4) (mCons (mVar 5) mNil))) mNil))))) (sRet (mC (.bl false))) sNil)
    (sSeq (sAsg 6 (mLst false (mCons (mC (.str ("joint" : Str))) (mCons (mC (.str ("a" : Str))) (mCons (mC (.str ("0" : Str))) (mCons (mC (.str ("0" : Str))) (mCons (mC (.str ("joint" : Str))) (mCons (mC (.str ("b" : Str))) (mCons (mC (.str ("1" : Str))) (mCons (mC (.str ("0" : Str))) (mCons (mC (.str ("rod" : Str))) (mCons (mC (.str ("a" : Str))) (mCons (mC (.str ("b" : Str))) (mCons (mC (.str ("any" : Str))) (mCons (mC (.str ("any" : Str))) mNil)))))))))))))))
    (sSeq (sAsg 7 (mBin bAdd (mC (.int 11)) (mCall m_ulaw_draw (mCons (mVar 0) (mCons (mC (.int 2)) mNil)))))
    (sSeq (sSub (mVar 6) (mVar 7) (mVar 1))
    (sSeq (sAsg 5 (mVar 7))
    (sSeq (sIf (mAnd (mTru (mVar 2)) (mCmp cNe (mSl true (mVar 1) mNoPart (mPart (mC (.int 1)))) (mC (.str ("-" : Str))))) (sAsg 5 (mC .non)) sNil)
    (sRet (mCall (m_ulaw_same 6) (mCons (mCall m_ulaw_told (mCons (mVar 6) mNil)) (mCons (mCall m_ulaw_due (mCons (mVar 6) (mCons (mVar 5) mNil))) mNil))))))))))))))))))
noncomputable def m_ulaw_pairs_of : MF := mFun 4 (sSeq (sAsg 1 (mLst true mNil))
    (sSeq (sFor (miRange (mVar 0)) (tgName 2) (sAsg 1 (mBinM catC (mVar 1) (mLc true (miRange2 (mBin bAdd (mVar 2) (mC (.int 1))) (mVar 0)) (tgName 3) mYes (mTup (mCons (mVar 2) (mCons (mVar 3) mNil))) [3]))))
    (sRet (mVar 1))))
noncomputable def m_ulaw_many_rods : MF := mFun 6 (sSeq (sAsg 1 (mCall m_ulaw_joints (mCons (mVar 0) (mCons (mC (.int 12)) mNil))))
    (sSeq (sAsg 2 (mCall m_ulaw_pairs_of (mCons (mC (.int 12)) mNil)))
    (sSeq (sAsg 3 (mC .non))
    (sSeq (sFor (miRange (mBin bAdd (mC (.int 29)) (mCall m_ulaw_draw (mCons (mVar 0) (mCons (mC (.int 3)) mNil))))) (tgName 4) (sSeq (sIf (mCmp cEq (mVar 4) (mC (.int 30))) (sAsg 3 (mCallF fLen (mCons (mVar 1) mNil))) sNil)
    (sSeq (sAsg 5 (mMB isLs fPopAt (mVar 2) (mCons (mCall m_ulaw_draw (mCons (mVar 0) (mCons (mCallF fLen (mCons (mVar 2) mNil)) mNil))) mNil)))
    (sAsg 1 (mBin bAdd (mVar 1) (mLst true (mCons (mC (.str ("rod" : Str))) (mCons (mCall m_ulaw_name_of (mCons (mIx (mVar 5) (mC (.int 0))) mNil)) (mCons (mCall m_ulaw_name_of (mCons (mIx (mVar 5) (mC (.int 1))) mNil)) (mCons (mCall (strM []) (mCons (mCall m_ulaw_draw (mCons (mVar 0) (mCons (mC (.int 1000)) mNil))) mNil)) (mCons (mC (.str ("any" : Str))) mNil)))))))))))
    (sRet (mCall (m_ulaw_same 6) (mCons (mCall m_ulaw_told (mCons (mVar 1) mNil)) (mCons (mCall m_ulaw_due (mCons (mVar 1) (mCons (mVar 3) mNil))) mNil))))))))
noncomputable def m_ulaw_all_rods : MF := mFun 12 (sSeq (sAsg 1 (mBin bAdd (mC (.int 2)) (mCall m_ulaw_draw (mCons (mVar 0) (mCons (mC (.int 6)) mNil)))))
    (sSeq (sAsg 2 (mCall m_ulaw_joints (mCons (mVar 0) (mCons (mVar 1) mNil))))
    (sSeq (sAsg 3 (mCall m_ulaw_pairs_of (mCons (mVar 1) mNil)))
    (sSeq (sAsg 4 (mCall m_ulaw_draw (mCons (mVar 0) (mCons (mCallF fLen (mCons (mVar 3) mNil)) mNil))))
    (sSeq (sAsg 5 (mLc true (miRange (mCallF fLen (mCons (mVar 3) mNil))) (tgName 11) (mCmp cNe (mVar 11) (mVar 4)) (mIx (mVar 3) (mVar 11)) [11]))
    (sSeq (sFor (miSeq (mVar 5)) (tgTup 2 (tgCons (tgName 6) (tgCons (tgName 7) tgNil))) (sAsg 2 (mBin bAdd (mVar 2) (mLst true (mCons (mC (.str ("rod" : Str))) (mCons (mCall m_ulaw_name_of (mCons (mVar 6) mNil)) (mCons (mCall m_ulaw_name_of (mCons (mVar 7) mNil)) (mCons (mC (.str ("any" : Str))) (mCons (mC (.str ("0" : Str))) mNil)))))))))
    (sSeq (sIf (mNot (mTru (mCall (m_ulaw_same 6) (mCons (mCall m_ulaw_told (mCons (mVar 2) mNil)) (mCons (mCall m_ulaw_due (mCons (mVar 2) (mCons (mC .non) mNil))) mNil))))) (sRet (mC (.bl false))) sNil)
    (sSeq (sAsg 6 (mCall m_ulaw_draw (mCons (mVar 0) (mCons (mVar 1) mNil))))
    (sSeq (sAsg 8 (mBin bAdd (mVar 2) (mLst true (mCons (mC (.str ("rod" : Str))) (mCons (mCall m_ulaw_name_of (mCons (mVar 6) mNil)) (mCons (mCall m_ulaw_name_of (mCons (mIx (mIx (mVar 3) (mVar 4)) (mC (.int 1))) mNil)) (mCons (mC (.str ("3" : Str))) (mCons (mC (.str ("4" : Str))) mNil))))))))
    (sSeq (sAsg 9 (mC .non))
    (sSeq (sIf (mCmp cNe (mVar 6) (mIx (mIx (mVar 3) (mVar 4)) (mC (.int 0)))) (sAsg 9 (mBin bAdd (mCallF fLen (mCons (mVar 2) mNil)) (mC (.int 1)))) sNil)
    (sSeq (sIf (mNot (mTru (mCall (m_ulaw_same 6) (mCons (mCall m_ulaw_told (mCons (mVar 8) mNil)) (mCons (mCall m_ulaw_due (mCons (mVar 8) (mCons (mVar 9) mNil))) mNil))))) (sRet (mC (.bl false))) sNil)
    (sSeq (sAsg 10 (mBin bAdd (mVar 2) (mLst true (mCons (mC (.str ("rod" : Str))) (mCons (mCall m_ulaw_name_of (mCons (mIx (mIx (mVar 3) (mVar 4)) (mC (.int 0))) mNil)) (mCons (mCall m_ulaw_name_of (mCons (mIx (mIx (mVar 3) (mVar 4)) (mC (.int 1))) mNil)) (mCons (mC (.str ("3" : Str))) (mCons (mC (.str ("4" : Str))) mNil))))))))
    (sSeq (sAsg 8 (mBin bAdd (mVar 10) (mLst true (mCons (mC (.str ("rod" : Str))) (mCons (mC (.str ("a" : Str))) (mCons (mC (.str ("b" : Str))) (mCons (mC (.str ("any" : Str))) (mCons (mC (.str ("any" : Str))) mNil))))))))
    (sRet (mCall (m_ulaw_same 6) (mCons (mCall m_ulaw_told (mCons (mVar 8) mNil)) (mCons (mTup (mCons (mC (.str ("refused" : Str))) (mCons (mCallF fLen (mCons (mVar 10) mNil)) mNil))) mNil))))))))))))))))))
noncomputable def m_ulaw_all_holds : MF := mFun 11 (sSeq (sAsg 1 (mBin bAdd (mC (.int 1)) (mCall m_ulaw_draw (mCons (mVar 0) (mCons (mC (.int 12)) mNil)))))
    (sSeq (sAsg 2 (mCall m_ulaw_joints (mCons (mVar 0) (mCons (mVar 1) mNil))))
    (sSeq (sAsg 3 (mLst true mNil))
    (sSeq (sFor (miRange (mVar 1)) (tgName 4) (sAsg 3 (mBin bAdd (mVar 3) (mLst true (mCons (mTup (mCons (mVar 4) (mCons (mC (.str ("x" : Str))) mNil))) (mCons (mTup (mCons (mVar 4) (mCons (mC (.str ("y" : Str))) mNil))) mNil))))))
    (sSeq (sAsg 5 (mCall m_ulaw_draw (mCons (mVar 0) (mCons (mCallF fLen (mCons (mVar 3) mNil)) mNil))))
    (sSeq (sFor (miRange (mCallF fLen (mCons (mVar 3) mNil))) (tgName 6) (sIf (mCmp cNe (mVar 6) (mVar 5)) (sAsg 2 (mBin bAdd (mVar 2) (mLst true (mCons (mC (.str ("hold" : Str))) (mCons (mCall m_ulaw_name_of (mCons (mIx (mIx (mVar 3) (mVar 6)) (mC (.int 0))) mNil)) (mCons (mIx (mIx (mVar 3) (mVar 6)) (mC (.int 1))) mNil)))))) sNil))
    (sSeq (sIf (mNot (mTru (mCall (m_ulaw_same 6) (mCons (mCall m_ulaw_told (mCons (mVar 2) mNil)) (mCons (mCall m_ulaw_due (mCons (mVar 2) (mCons (mC .non) mNil))) mNil))))) (sRet (mC (.bl false))) sNil)
    (sSeq (sAsg 7 (mCall m_ulaw_draw (mCons (mVar 0) (mCons (mVar 1) mNil))))
    (sSeq (sAsg 8 (mBin bAdd (mVar 2) (mLst true (mCons (mC (.str ("hold" : Str))) (mCons (mCall m_ulaw_name_of (mCons (mVar 7) mNil)) (mCons (mIx (mIx (mVar 3) (mVar 5)) (mC (.int 1))) mNil))))))
    (sSeq (sAsg 9 (mC .non))
    (sSeq (sIf (mCmp cNe (mVar 7) (mIx (mIx (mVar 3) (mVar 5)) (mC (.int 0)))) (sAsg 9 (mBin bAdd (mCallF fLen (mCons (mVar 2) mNil)) (mC (.int 1)))) sNil)
    (sSeq (sIf (mNot (mTru (mCall (m_ulaw_same 6) (mCons (mCall m_ulaw_told (mCons (mVar 8) mNil)) (mCons (mCall m_ulaw_due (mCons (mVar 8) (mCons (mVar 9) mNil))) mNil))))) (sRet (mC (.bl false))) sNil)
    (sSeq (sAsg 10 (mBin bAdd (mVar 2) (mLst true (mCons (mC (.str ("hold" : Str))) (mCons (mCall m_ulaw_name_of (mCons (mIx (mIx (mVar 3) (mVar 5)) (mC (.int 0))) mNil)) (mCons (mIx (mIx (mVar 3) (mVar 5)) (mC (.int 1))) mNil))))))
    (sRet (mCall (m_ulaw_same 6) (mCons (mCall m_ulaw_told (mCons (mBin bAdd (mVar 10) (mLst true (mCons (mC (.str ("hold" : Str))) (mCons (mC (.str ("a" : Str))) (mCons (mC (.str ("x" : Str))) mNil))))) mNil)) (mCons (mTup (mCons (mC (.str ("refused" : Str))) (mCons (mCallF fLen (mCons (mVar 10) mNil)) mNil))) mNil)))))))))))))))))
noncomputable def m_law : MF := mFun 5 (sSeq (sAsg 1 (mCall m_ulaw_pool (mCons (mVar 0) (mCons (mC (.int 0)) mNil))))
    (sSeq (sAsg 2 (mBin bAdd (mC (.int 11)) (mCall m_ulaw_draw (mCons (mVar 1) (mCons (mC (.int 3)) mNil)))))
    (sSeq (sAsg 3 (mCall m_ulaw_joints (mCons (mVar 1) (mCons (mVar 2) mNil))))
    (sSeq (sAsg 4 (mC .non))
    (sSeq (sIf (mCmp cEq (mVar 2) (mC (.int 13))) (sAsg 4 (mC (.int 48))) sNil)
    (sSeq (sIf (mOr (mNot (mTru (mCall (m_ulaw_same 6) (mCons (mCall m_ulaw_told (mCons (mVar 3) mNil)) (mCons (mCall m_ulaw_due (mCons (mVar 3) (mCons (mVar 4) mNil))) mNil))))) (mNot (mTru (mCall m_ulaw_numbers_near (mCons (mVar 1) mNil))))) (sRet (mC (.bl false))) sNil)
    (sRet (mAndV (mCall m_ulaw_many_rods (mCons (mVar 1) mNil)) (mAndV (mCall m_ulaw_all_rods (mCons (mVar 1) mNil)) (mCall m_ulaw_all_holds (mCons (mVar 1) mNil)))))))))))
end K04

namespace K04
open PySem L2 Z
/-! ### what is drawn -/
def PoolC : Cell → Prop := fun c => ∃ (ns : List Int) (a g x l b : Int), c = .lst [.lst (ns.map .int), .int a, .int g, .int x, .int l, .int b] ∧ 0 ≤ a ∧ (∀ k ∈ ns, nb k ≤ 1048576) ∧ nb g ≤ 1048576 ∧ 0 ≤ x ∧ x < 2147483647
theorem blws_ints (n : Nat) : ∀ ns : List Int, blws n (ns.map .int) = true
  | [] => rfl
  | k :: ns => by
    show (true && blws n (ns.map .int)) = true
    rw [blws_ints n ns]; rfl
theorem poolB (n : Nat) (c : Cell) (h : PoolC c) : cellB n c = true := by
  obtain ⟨ns, a, g, x, l, b, rfl, _⟩ := h
  show (blws n (ns.map .int) && _) = true
  rw [blws_ints]; rfl
theorem draw_wp {st : Sto} {L : Heapy} {r : Nat} {Q : MV → Sto → Prop} {X : Nat → List (Nat × MV) → Sto → Prop} {size : Int} (h : Has st L) (m : (r, PoolC) ∈ L) (h0 : 0 < size) (h1 : size ≤ 1000000000000000000000000000000) (k : ∀ v t, 0 ≤ v → v < size → Has t L → Fr r st t → Q (.int v) t) : Wp Q X (m_ulaw_draw [.ref r, .int size] st) := by
  obtain ⟨c, e, ns, a, g, x, l, b, rfl, ha, hn, hg, hx, hx2⟩ := h.get m
  have hr := h.lt m
  have K : ∀ (v : Int) (ns : List Int) (a g x l b : Int), 0 ≤ v → v < size → 0 ≤ a → (∀ k ∈ ns, nb k ≤ 1048576) → nb g ≤ 1048576 → 0 ≤ x → x < 2147483647 → Q (.int v) (st.set r (.lst [.lst (ns.map .int), .int a, .int g, .int x, .int l, .int b])) := fun v ns a g x l b q1 q2 q3 q4 q5 q6 q7 =>
    k v _ q1 q2 (h.fr m ⟨_, List.getElem?_set_self hr, ns, a, g, x, l, b, rfl, q3, q4, q5, q6, q7⟩ .set) .set
  rw [← set_self e]
  unfold m_ulaw_draw
  simp -dsimp [-sIf_run]
  refine WpS.cut (fun e t => Seal (∃ (ns : List Int) (a g x l b : Int) (e2 : Option MV), e = [some (.ref r), some (.int size), e2, none] ∧ t = st.set r (.lst [.lst (ns.map .int), .int a, .int g, .int x, .int l, .int b]) ∧ 0 ≤ a ∧ (∀ k ∈ ns, nb k ≤ 1048576) ∧ nb g ≤ 1048576 ∧ 0 ≤ x ∧ x < 2147483647) ()) ?_ ?_
  · have stay : Seal (∃ (ns' : List Int) (a' g' x' l' b' : Int) (e2 : Option MV), [some (MV.ref r), some (.int size), none, none] = [some (.ref r), some (.int size), e2, none] ∧ st.set r (.lst [.lst (ns.map .int), .int a, .int g, .int x, .int l, .int b]) = st.set r (.lst [.lst (ns'.map .int), .int a', .int g', .int x', .int l', .int b']) ∧ 0 ≤ a' ∧ (∀ k ∈ ns', nb k ≤ 1048576) ∧ nb g' ≤ 1048576 ∧ 0 ≤ x' ∧ x' < 2147483647) () := sl ⟨ns, a, g, x, l, b, _, rfl, rfl, ha, hn, hg, hx, hx2⟩
    simp -dsimp [-sIf_run, wps_sif, ix_set hr]
    refine ⟨fun c1 => ⟨fun c2 => ⟨fun c3 => ?_, fun _ => stay⟩, fun _ => stay⟩, fun _ => stay⟩
    obtain ⟨cell, hc, mc⟩ := get_some (xs := ns) (i := a.toNat) (by omega)
    have hcell : ixF (st.set r (.lst [.lst (ns.map .int), .int a, .int g, .int x, .int l, .int b])) (.lst (ns.map .int)) (.int a) = some (.int cell) := by
      rw [Z.ix_lst, ix_m1 _ _ ha, List.getElem?_map, hc]; rfl
    have hb31 : SzM x 31 := SzM.sm (by omega) (by omega)
    simp -dsimp [-sIf_run, wps_sif, ix_set hr, hcell, setL_set hr, hb31]
    have q0 : 0 ≤ (x * 31 + cell) % 2147483647 := Int.emod_nonneg _ (by omega)
    have q1 : (x * 31 + cell) % 2147483647 < 2147483647 := Int.emod_lt_of_pos _ (by omega)
    exact ⟨fun _ => sl ⟨ns, a + 1, cell, _, 7, b, _, rfl, rfl, by omega, hn, hn cell mc, q0, q1⟩, fun _ => sl ⟨ns, a + 1, g, _, 7, b, _, rfl, rfl, by omega, hn, hg, q0, q1⟩⟩
  · rintro _ _ ⟨ns, a, g, x, l, b, e2, rfl, rfl, ha, hn, hg, hx, hx2⟩
    have m0 : ∀ y : Int, 0 ≤ y % size ∧ y % size < size := fun y => ⟨Int.emod_nonneg _ (by omega), Int.emod_lt_of_pos _ h0⟩
    have sz1 : SzM x 48271 := SzM.sm (by omega) (by omega)
    have z0 : 0 ≤ (x * 48271 + 12345) % 2147483647 := Int.emod_nonneg _ (by omega)
    have z1 : (x * 48271 + 12345) % 2147483647 < 2147483647 := Int.emod_lt_of_pos _ (by omega)
    have sz2 : SzM ((x * 48271 + 12345) % 2147483647) 69621 := SzM.sm (by omega) (by omega)
    have dv : ∀ s : Sto, bDiv s (.int g) (.int size) = some (.int (g / size)) := fun s => divS (m := 200) h0 (nb_lt (by omega)) (by decide)
    simp -dsimp [-sIf_run, wps_sif, ix_set hr, setL_set hr, mod_i h0, dv, sz1, sz2]
    refine ⟨fun hgp => ?_, fun hgp => ?_⟩
    · exact K _ ns a _ x _ b (m0 g).1 (m0 g).2 ha hn (nb_div hg h0) hx hx2
    · exact K _ ns a g _ _ b (m0 _).1 (m0 _).2 ha hn hg z0 z1
section
variable {st : Sto}
theorem name_ok {n : Nat} (h : n < 676) : m_ulaw_name_of [.int n] st = .ok (.str (nameOf n)) st := by
  have q : Wp (fun v t => v = .str (nameOf n) ∧ t = st) noX (m_ulaw_name_of [.int n] st) := by
    unfold m_ulaw_name_of
    simp -dsimp [-sIf_run, wps_sif]
    refine ⟨fun h1 => ?_, fun h1 => ?_⟩
    · rw [ix_abc (by omega)]
      simp -dsimp [-sIf_run]
      unfold nameOf
      rw [if_pos (by omega)]
    · rw [show (n : Int) / 26 = ((n / 26 : Nat) : Int) by omega, ix_abc (by omega)]
      simp -dsimp [-sIf_run]
      rw [show (n : Int) % 26 = ((n % 26 : Nat) : Int) by omega, ix_abc (by omega)]
      simp -dsimp [-sIf_run]
      rw [cat_s (by show 1 + 1 ≤ 100000; omega)]
      simp -dsimp [-sIf_run]
      unfold nameOf
      rw [if_neg (by omega)]
  obtain ⟨v, t, e, rfl, rfl⟩ := q.out
  exact e
end
end K04

namespace K04
open PySem L2 Z
/-! ### Frame(joints, rods, holds) -/
section
variable {st : Sto} {Q : MV → Sto → Prop} {X : Nat → List (Nat × MV) → Sto → Prop}
theorem in_keys {w : Str} (h : sok w = true) {s : Sto} : cIn s (.str w) (.tup [.str ("joint" : Str), .str ("rod" : Str), .str ("hold" : Str), .str ("any" : Str)]) = some (decide (w ∈ keysL)) := by
  have q : WpO (fun b => b = decide (w ∈ keysL)) (cIn s (.str w) (.tup (keysL.map MV.str))) := wpo_inE enc_w rfl h sok_keys (fun z => (decide_eq_true z).symm) fun z => (decide_eq_false z).symm
  exact WpO.get q
theorem is_name_ok {w : Str} (h : sok w = true) (hl : w.length ≤ 100) : m_is_name [.str w] st = .ok (.bl (isNm w)) st := by
  have q : Wp (fun v t => v = .bl (isNm w) ∧ t = st) noX (m_is_name [.str w] st) := by
    unfold m_is_name
    have hk : ∀ s : Sto, cIn s (.str w) (.tup (gc_KEYS.map Gc.m)) = some (decide (w ∈ keysL)) := fun s => in_keys h
    have hl2 : fLen st [.str w] = some (.int w.length) := len_str (by omega)
    simp -dsimp [-sIf_run, wps_sif, hk, hl2]
    refine ⟨fun h1 => ⟨fun h2 => ?_, fun h2 => ⟨fun h3 => ?_, fun h3 => ?_⟩⟩, fun h1 => ?_⟩
    · unfold isNm
      rw [decide_eq_false (fun z => by omega), Bool.false_and]
    · unfold isNm
      rw [decide_eq_false (fun z => z.2.2 h3), Bool.false_and]
    · have c := lc_allW (env := [some (.str w), none]) (s := st) (f := fun c : Nat => MV.str ⟨#[c]⟩) (ys := w.cps.toList) (ok := fun _ => True) (mi := miStr (mVar 0)) (g := tgName 1) (me := mV (mCmp cIn (mVar 1) (mC (.str ("abcdefghijklmnopqrstuvwxyz" : Str))))) (vs := [1]) (fun c => .bl (decide (97 ≤ c ∧ c ≤ 122)))
        rfl (fun y hy a => by simp -dsimp [-sIf_run, wipeM, in_abc]) (fun a => trivial) (by
          have : w.length = w.cps.toList.length := by simp [Str.length]
          omega) (fun y _ a => rfl)
      rw [c]
      simp -dsimp [-sIf_run, all_map]
      unfold isNm
      rw [decide_eq_true (by exact ⟨by omega, by omega, h3⟩), Bool.true_and]
      simp
    · unfold isNm
      rw [decide_eq_false (fun z => by omega), Bool.false_and]
  obtain ⟨v, t, e, rfl, rfl⟩ := q.out
  exact e
def jok (j : J) : Prop := sok j.name = true ∧ j.name.length ≤ 100
theorem weak_ok {o : Option Int} : m_uweak [oM o] st = .ok (.bl (weak o)) st := by
  have q : Wp (fun v t => v = .bl (weak o) ∧ t = st) noX (m_uweak [oM o] st) := by
    unfold m_uweak
    cases o with
    | none => simp -dsimp [-sIf_run, oM, weak]
    | some v => simp -dsimp [-sIf_run, oM, weak]
  obtain ⟨v, t, e, rfl, rfl⟩ := q.out
  exact e
theorem sz_names {s : Sto} : smM (.str ("names" : Str)) = true ∧ smM (.str ("joints" : Str)) = true ∧ smM (.str ("places" : Str)) = true ∧ smM (.str ("rods" : Str)) = true ∧ smM (.str ("holds" : Str)) = true := by decide +kernel
theorem checked_joints {js : List J} (hj : ∀ j ∈ js, jok j) (hn : js.length ≤ 1000) (k1 : dueJ js = none → Q .non st) (k0 : ∀ w, dueJ js = some w → X 2 [(1, .str w)] st) : Wp Q X (m_uchecked_joints [.tup (js.map jM)] st) := by
  unfold m_uchecked_joints
  obtain ⟨s1, s2, s3, s4, s5⟩ := sz_names (s := st)
  have hl : fLen st [.tup (js.map jM)] = some (.int js.length) := by simp
  simp -dsimp [-sIf_run, wps_sif, s1, s2, s3]
  refine ⟨fun h1 => ⟨fun h2 => k0 _ (dueJ_joints (by omega)), fun h2 => ?_⟩, fun h1 => k0 _ (dueJ_joints (by omega))⟩
  have c1 := lc_allW (env := [some (.tup (js.map jM)), none, none, none, none, none, none]) (s := st) (f := jM) (ys := js) (ok := fun _ => True) (mi := miSeq (mVar 0)) (g := tgName 6) (me := mIx (mVar 6) (mC (.int 0))) (vs := [6]) (fun j => .str j.name)
    (by simp [miSeq, M.bnd]) (fun y hy a => by simp -dsimp [-sIf_run, wipeM, jM]) (fun a => trivial) (by omega) (fun y _ a => rfl)
  rw [c1]
  simp -dsimp [-sIf_run]
  have inn : ∀ (i : Nat) (j : J) (s : Sto), js[i]? = some j → cIn s (.str j.name) (.lst ((js.map fun j => MV.str j.name).take i)) = some (decide (j.name ∈ (js.map J.name).take i)) := fun i j s hi => by
    have e1 : ((js.map fun j => MV.str j.name).take i) = ((js.map J.name).take i).map MV.str := by simp [List.map_take, Function.comp_def]
    rw [e1]
    have hm : j ∈ js := List.mem_of_getElem? hi
    exact WpO.get (wpo_inE enc_w rfl (hj j hm).1 (fun x hx => by
      obtain ⟨j', hj', rfl⟩ := List.mem_map.mp (List.mem_of_mem_take hx)
      exact (hj j' hj').1) (fun z => (decide_eq_true z).symm) fun z => (decide_eq_false z).symm)
  refine wp_forE (f := fun j : J => MV.str j.name) (fun i e t => Seal (∃ e2 e3, t = st ∧ (∀ k j, k < i → js[k]? = some j → isNm j.name = true ∧ j.name ∉ (js.map J.name).take k) ∧ e = [some (.tup (js.map jM)), some (.lst (js.map fun j => MV.str j.name)), e2, e3, none, none, none]) ()) ⟨_, _, rfl, (fun k j h => by omega), rfl⟩ (fun _ _ _ _ => trivial) ?_ ?_
  · rintro i j _ _ hi ⟨e2, e3, rfl, hk, rfl⟩
    have hm : j ∈ js := List.mem_of_getElem? hi
    simp -dsimp [-sIf_run, wps_sif, is_name_ok (hj j hm).1 (hj j hm).2, cut_hiI, inn i j _ hi, s1]
    refine ⟨fun g => k0 _ (dueJ_names (by omega) (.inl ⟨j, hm, g⟩)), fun g => ⟨fun g2 => k0 _ (dueJ_names (by omega) (.inr fun z => ?_)), fun g2 => sl ⟨_, _, rfl, fun k j' hk2 hj' => ?_, rfl⟩⟩⟩
    · exact nodup_take.mp z i j.name (by simp [hi]) g2
    · by_cases hki : k = i
      · subst hki
        rw [hi] at hj'
        cases hj'
        exact ⟨g, g2⟩
      · exact hk k j' (by omega) hj'
  · rintro _ t ⟨e2, e3, rfl, hk, rfl⟩
    have hnm : ∀ j ∈ js, isNm j.name = true := fun j hm => by
      obtain ⟨k, hk'⟩ := List.mem_iff_getElem?.mp hm
      exact (hk k j (List.getElem?_eq_some_iff.mp hk').1 hk').1
    have hnd : (js.map J.name).Nodup := nodup_take.mpr fun i x hx => by
      rw [List.getElem?_map] at hx
      obtain ⟨j, hj', rfl⟩ := Option.map_eq_some_iff.mp hx
      exact (hk i j (List.getElem?_eq_some_iff.mp hj').1 hj').2
    simp -dsimp [-sIf_run]
    have c2 := lc_allW (env := [some (.tup (js.map jM)), some (.lst (js.map fun j => MV.str j.name)), e2, e3, none, none, none]) (s := t) (f := jM) (ys := js) (ok := fun _ => True) (mi := miSeq (mVar 0)) (g := tgName 6) (me := mSl true (mVar 6) (mPart (mC (.int 1))) mNoPart) (vs := [6]) (fun j => prM j.spot)
      (by simp [miSeq, M.bnd]) (fun y hy a => by simp -dsimp [-sIf_run, wipeM, jM, cut_loI, prM, J.spot]) (fun a => trivial) (by omega) (fun y _ a => pl_frz40 (enc_prM.pl12 trivial))
    rw [c2]
    simp -dsimp [-sIf_run]
    have ins : ∀ (i : Nat) (j : J) (s : Sto), js[i]? = some j → cIn s (prM j.spot) (.lst ((js.map fun j => prM j.spot).take i)) = some (decide (j.spot ∈ (js.map J.spot).take i)) := fun i j s hi => by
      have e1 : ((js.map fun j => prM j.spot).take i) = ((js.map J.spot).take i).map prM := by simp [List.map_take, Function.comp_def]
      rw [e1]
      exact WpO.get (wpo_inE enc_prM rfl trivial (fun x hx => trivial) (fun z => (decide_eq_true z).symm) fun z => (decide_eq_false z).symm)
    refine wp_forE (f := fun j : J => prM j.spot) (fun i e u => Seal (∃ e2 e5, u = t ∧ (∀ k j, k < i → js[k]? = some j → j.spot ∉ (js.map J.spot).take k) ∧ e = [some (.tup (js.map jM)), some (.lst (js.map fun j => MV.str j.name)), e2, e3, some (.lst (js.map fun j => prM j.spot)), e5, none]) ()) ⟨_, _, rfl, (fun k j h => by omega), rfl⟩ (fun _ _ _ _ => trivial) ?_ ?_
    · rintro i j _ _ hi ⟨e2, e5, rfl, hk, rfl⟩
      simp -dsimp [-sIf_run, wps_sif, cut_hiI, ins i j _ hi, s3]
      refine ⟨fun g => k0 _ (dueJ_places (by omega) hnm hnd fun z => ?_), fun g2 => sl ⟨_, _, rfl, fun k j' hk2 hj' => ?_, rfl⟩⟩
      · exact nodup_take.mp z i j.spot (by simp [hi]) g
      · by_cases hki : k = i
        · subst hki
          rw [hi] at hj'
          cases hj'
          exact g2
        · exact hk k j' (by omega) hj'
    · rintro _ _ ⟨e2, e5, rfl, hk, rfl⟩
      refine k1 (dueJ_none (by omega) hnm hnd (nodup_take.mpr fun i x hx => ?_))
      rw [List.getElem?_map] at hx
      obtain ⟨j, hj', rfl⟩ := Option.map_eq_some_iff.mp hx
      exact hk i j (List.getElem?_eq_some_iff.mp hj').1 hj'
theorem checked_rods {rs : List R4} {n : Nat} (hn : rs.length ≤ 1000) (k1 : dueR n rs = none → Q .non st) (k0 : ∀ w, dueR n rs = some w → X 2 [(1, .str w)] st) : Wp Q X (m_uchecked_rods [.tup (rs.map rM), .int n] st) := by
  unfold m_uchecked_rods
  obtain ⟨s1, s2, s3, s4, s5⟩ := sz_names (s := st)
  have k0 : (120 < rs.length ∨ ¬ (rs.map R4.ends).Nodup ∨ ∃ r ∈ rs, badR n r) → X 2 [(1, .str ("rods" : Str))] st := fun h => k0 _ (by rw [dueR, if_pos h])
  have k1 : ¬ (120 < rs.length ∨ ¬ (rs.map R4.ends).Nodup ∨ ∃ r ∈ rs, badR n r) → Q .non st := fun h => k1 (by rw [dueR, if_neg h])
  simp -dsimp [-sIf_run, wps_sif, s4]
  refine ⟨fun h => k0 (.inl (by omega)), fun h => ?_⟩
  have c1 := lc_allW (env := [some (.tup (rs.map rM)), some (.int n), none, none, none]) (s := st) (f := rM) (ys := rs) (ok := fun _ => True) (mi := miSeq (mVar 0)) (g := tgName 4) (me := mSl true (mVar 4) mNoPart (mPart (mC (.int 2)))) (vs := [4]) (fun r => prM r.ends)
    (by simp [miSeq, M.bnd]) (fun y hy a => by simp -dsimp [-sIf_run, wipeM, rM, cut_hiI, prM, R4.ends]) (fun a => trivial) (by omega) (fun y _ a => pl_frz40 (enc_prM.pl12 trivial))
  rw [c1]
  simp -dsimp [-sIf_run]
  have ins : ∀ (i : Nat) (r : R4) (s : Sto), rs[i]? = some r → cIn s (.tup [.int r.i, .int r.j]) (.lst ((rs.map fun r => prM r.ends).take i)) = some (decide (r.ends ∈ (rs.map R4.ends).take i)) := fun i r s hi => by
    have e1 : ((rs.map fun r => prM r.ends).take i) = ((rs.map R4.ends).take i).map prM := by simp [List.map_take, Function.comp_def]
    rw [e1]
    exact WpO.get (wpo_inE (a := r.ends) enc_prM rfl trivial (fun x hx => trivial) (fun z => (decide_eq_true z).symm) fun z => (decide_eq_false z).symm)
  refine wp_forE (f := rM) (fun i e t => Seal (∃ e3 e4, t = st ∧ (∀ k r, k < i → rs[k]? = some r → ¬ badR n r ∧ r.ends ∉ (rs.map R4.ends).take k) ∧ e = [some (.tup (rs.map rM)), some (.int n), some (.lst (rs.map fun r => prM r.ends)), e3, e4]) ()) ⟨_, _, rfl, (fun k j h => by omega), rfl⟩ (fun _ _ _ _ => trivial) ?_ ?_
  · rintro i r _ st hi ⟨e3, e4, rfl, hk, rfl⟩
    have hm : r ∈ rs := List.mem_of_getElem? hi
    simp -dsimp [-sIf_run, wps_sif, rM, cut_hiI, ins i r _ hi, s4, weak_ok]
    have bad : ¬ (0 ≤ r.i ∧ r.i < r.j ∧ r.j < n) → X 2 [(1, .str ("rods" : Str))] st := fun z => k0 (.inr (.inr ⟨r, hm, .inl z⟩))
    refine ⟨fun g1 => ⟨fun g2 => ⟨fun g3 => bad (by omega), fun g3 => ⟨fun g4 => k0 (.inr (.inl fun z => nodup_take.mp z i r.ends (by simp [hi]) g4)), fun g4 => ?_⟩⟩, fun g2 => bad (by omega)⟩, fun g1 => bad (by omega)⟩
    refine ⟨fun g5 => k0 (.inr (.inr ⟨r, hm, .inr (.inl g5)⟩)), fun g5 => ⟨fun g6 => k0 (.inr (.inr ⟨r, hm, .inr (.inr g6)⟩)), fun g6 => sl ⟨_, _, rfl, fun k r' hk2 hr' => ?_, rfl⟩⟩⟩
    by_cases hki : k = i
    · subst hki
      rw [hi] at hr'
      cases hr'
      refine ⟨?_, g4⟩
      rintro (z | z | z)
      · exact z (by omega)
      · rw [g5] at z; cases z
      · rw [g6] at z; cases z
    · exact hk k r' (by omega) hr'
  · rintro _ _ ⟨e3, e4, rfl, hk, rfl⟩
    refine k1 ?_
    rintro (h2 | h2 | ⟨r, hr, hb⟩)
    · omega
    · refine h2 (nodup_take.mpr fun i x hx => ?_)
      rw [List.getElem?_map] at hx
      obtain ⟨j, hj', rfl⟩ := Option.map_eq_some_iff.mp hx
      exact (hk i j (List.getElem?_eq_some_iff.mp hj').1 hj').2
    · obtain ⟨k, hk'⟩ := List.mem_iff_getElem?.mp hr
      exact (hk k r (List.getElem?_eq_some_iff.mp hk').1 hk').1 hb
theorem checked_holds {hs : List (Int × Int)} {n : Nat} (hn : hs.length ≤ 1000) (k1 : dueH n hs = none → Q .non st) (k0 : ∀ w, dueH n hs = some w → X 2 [(1, .str w)] st) : Wp Q X (m_uchecked_holds [.tup (hs.map prM), .int n] st) := by
  unfold m_uchecked_holds
  obtain ⟨s1, s2, s3, s4, s5⟩ := sz_names (s := st)
  have k0 : ((∃ h ∈ hs, badH n h) ∨ ¬ hs.Nodup) → X 2 [(1, .str ("holds" : Str))] st := fun h => k0 _ (by rw [dueH, if_pos h])
  have k1 : ¬ ((∃ h ∈ hs, badH n h) ∨ ¬ hs.Nodup) → Q .non st := fun h => k1 (by rw [dueH, if_neg h])
  simp -dsimp [-sIf_run]
  have ins : ∀ (i : Nat) (h : Int × Int) (s : Sto), hs[i]? = some h → cIn s (.tup [.int h.1, .int h.2]) (.tup ((hs.map prM).take i)) = some (decide (h ∈ hs.take i)) := fun i r s hi => by
    rw [← List.map_take]
    exact WpO.get (wpo_inE (a := r) enc_prM rfl trivial (fun x hx => trivial) (fun z => (decide_eq_true z).symm) fun z => (decide_eq_false z).symm)
  have nin : ∀ (v : Int) (s : Sto), cNin s (.int v) (.tup [.int 0, .int 1]) = some (decide (¬ (v = 0 ∨ v = 1))) := fun v s => by
    refine WpO.get (wpo_nin rfl rfl (fun z hz => ?_) (fun z => ?_) fun z => ?_)
    · rcases List.mem_cons.mp hz with rfl | hz
      · rfl
      · rw [List.mem_singleton.mp hz]; rfl
    · have : v = 0 ∨ v = 1 := by simpa using z
      rw [decide_eq_false (fun c => c this)]
    · have : ¬ (v = 0 ∨ v = 1) := by simpa using z
      rw [decide_eq_true this]
  refine wp_forE (f := prM) (fun i e t => Seal (∃ e2 e3, t = st ∧ (∀ k h, k < i → hs[k]? = some h → ¬ badH n h ∧ h ∉ hs.take k) ∧ e = [some (.tup (hs.map prM)), some (.int n), e2, e3]) ()) ⟨_, _, rfl, (fun k j h => by omega), rfl⟩ (fun _ _ _ _ => trivial) ?_ ?_
  · rintro i h _ st hi ⟨e2, e3, rfl, hk, rfl⟩
    have hm : h ∈ hs := List.mem_of_getElem? hi
    simp -dsimp [-sIf_run, wps_sif, prM, cut_hiI, ins i h _ hi, s5, nin]
    have bad : badH n h → X 2 [(1, .str ("holds" : Str))] st := fun z => k0 (.inl ⟨h, hm, z⟩)
    refine ⟨fun g1 => ⟨fun g2 => bad (.inl (by omega)), fun g2 => ⟨fun g3 g4 => bad (.inr (by omega)), fun g3 => ⟨fun g4 => k0 (.inr fun z => nodup_take.mp z i h hi g4), fun g4 => sl ⟨_, _, rfl, fun k h' hk2 hh' => ?_, rfl⟩⟩⟩⟩, fun g1 => bad (.inl (by omega))⟩
    by_cases hki : k = i
    · subst hki
      rw [hi] at hh'
      cases hh'
      refine ⟨?_, g4⟩
      rintro (z | z)
      · exact z (by omega)
      · exact z (by omega)
    · exact hk k h' (by omega) hh'
  · rintro _ _ ⟨e2, e3, rfl, hk, rfl⟩
    refine k1 ?_
    rintro (⟨r, hr, hb⟩ | h2)
    · obtain ⟨k, hk'⟩ := List.mem_iff_getElem?.mp hr
      exact (hk k r (List.getElem?_eq_some_iff.mp hk').1 hk').1 hb
    · exact h2 (nodup_take.mpr fun i x hx => (hk i x (List.getElem?_eq_some_iff.mp hx).1 hx).2)
theorem rows_lc {α : Type} {env : Ev} {s : Sto} {x : MV} {f : α → MV} {ys : List α} {i : Nat} {vs : List Nat} {g : MG} {me : Ev → M MV} (e : Sto) (R : RowsA st x f ys) (hs : s = st ++ e) (hx : env.getD i none = some x) (hl : ys.length ≤ 100000) (hf : ∀ y ∈ ys, Pl (f y))
    (h : ∀ z : MV, z ≠ .exc → ∀ y t, fTuple t [z] = some y → Wp (fun e t1 => t1 = t ∧ Wp (fun x t3 => x = y ∧ t3 = t) noX (me e t1)) noX (g z (wipeM env vs) t)) : mLc true (miSeq (mVar i)) g mYes me vs env s = .ok (.lst (ys.map f)) s := by
  obtain ⟨hx2, zs, ok, e1, hit, hok, hz⟩ := R
  have e2 : ys.map f = zs.map fun z => f z.2 := by rw [← e1, List.map_map]; rfl
  rw [e2]
  subst hs
  refine lc_allW (f := fun z : MV × α => z.1) (ys := zs) (ok := ok) (fun z => f z.2) ?_ (fun z hzm a => ?_) (fun a => by rw [List.append_assoc]; exact hok _) (by rw [← e1] at hl; simpa using hl) (fun z hzm a => pl_frz40 (hf _ (by rw [← e1]; exact List.mem_map_of_mem hzm)))
  · unfold miSeq M.bnd
    rw [mVar_ok hx hx2]
    simp only [hit]
    rfl
  · have := h z.1 (hz z hzm).1 (f z.2) ((st ++ e) ++ [.lst a]) (by rw [List.append_assoc]; exact (hz z hzm).2 _)
    exact this
theorem frame_made {a b c : MV} {f : Fm} (R1 : RowsA st a jM f.js) (R2 : RowsA st b rM f.rs) (R3 : RowsA st c prM f.hs) (hj : ∀ j ∈ f.js, jok j) (l1 : f.js.length ≤ 1000) (l2 : f.rs.length ≤ 1000) (l3 : f.hs.length ≤ 1000)
    (k1 : dueF f = none → Q (fmI f) st) (k0 : ∀ w, dueF f = some w → X 2 [(1, .str w)] st) : Wp Q X (mPure (newC 21 m_Frame___init__) [a, b, c] st) := by
  refine wp_make ?_
  unfold m_Frame___init__
  have F : fieldsOf 21 = [4, 5, 6] := by decide
  simp -dsimp [-sIf_run, set_new, F, putN]
  rw [rows_lc (st := st) [.ins 21 []] R1 rfl rfl (by omega) (fun y hy => enc_jM.pl12 (hj y hy).1) (fun z hz y t hy => by simp -dsimp [-sIf_run, wipeM, hz, hy])]
  simp -dsimp [-sIf_run, set_new, F, putN]
  rw [rows_lc (st := st) _ R2 rfl rfl (by omega) (fun y hy => enc_rM.pl12 trivial) (fun z hz y t hy => by simp -dsimp [-sIf_run, wipeM, hz, hy])]
  simp -dsimp [-sIf_run, set_new, F, putN]
  rw [rows_lc (st := st) _ R3 rfl rfl (by omega) (fun y hy => enc_prM.pl12 trivial) (fun z hz y t hy => by simp -dsimp [-sIf_run, wipeM, hz, hy])]
  simp -dsimp [-sIf_run, set_new, F, putN, get_new, lookN]
  refine checked_joints hj l1 (fun d1 => ?_) fun w d => ?_
  · simp -dsimp [-sIf_run, get_new, lookN]
    refine checked_rods l2 (fun d2 => ?_) fun w d => ?_
    · simp -dsimp [-sIf_run, get_new, lookN]
      refine checked_holds l3 (fun d3 => ?_) fun w d => ?_
      · simp -dsimp [-sIf_run]
        rw [frz_new (by simp [F]) (by
          intro v hv
          simp at hv
          rcases hv with rfl | rfl | rfl
          · exact pl_frz39 (enc_jM.tup12 fun y hy => (hj y hy).1)
          · exact pl_frz39 (enc_rM.tup12 fun y hy => trivial)
          · exact pl_frz39 (enc_prM.tup12 fun y hy => trivial))]
        exact k1 (by rw [dueF, d1, d2, d3]; rfl)
      · simp -dsimp [-sIf_run]
        exact k0 w (by rw [dueF, d1, d2, d]; rfl)
    · simp -dsimp [-sIf_run]
      exact k0 w (by rw [dueF, d1, d]; rfl)
  · simp -dsimp [-sIf_run]
    exact k0 w (by rw [dueF, d]; rfl)
end
/-! ### _law_same of what is the same -/
def smB : Nat → MV → Bool
  | 0, _ => false
  | n + 1, .tup xs => decide (xs.length ≤ 1000) && xs.all (smB n)
  | n + 1, .lst xs => decide (xs.length ≤ 1000) && xs.all (smB n)
  | _ + 1, .non => true
  | _ + 1, .bl _ => true
  | _ + 1, .int _ => true
  | _ + 1, .str _ => true
  | _ + 1, _ => false
theorem smB_ne {n : Nat} {x : MV} (h : smB n x = true) : x ≠ .exc := by
  rintro rfl
  cases n <;> cases h
theorem same_refl {st : Sto} : ∀ (n : Nat) (x : MV), smB n x = true → m_ulaw_same n [x, x] st = .ok (.bl true) st := by
  intro n
  induction n with
  | zero => intro x h; cases h
  | succ n ih =>
    intro x h
    have q : Wp (fun v t => v = .bl true ∧ t = st) noX (m_ulaw_same (n + 1) [x, x] st) := by
      unfold m_ulaw_same
      have hne := smB_ne h
      cases x with
      | tup xs =>
        simp only [smB, Bool.and_eq_true, decide_eq_true_eq] at h
        obtain ⟨hl, ha⟩ := h
        simp -dsimp [-sIf_run, wps_sif]
        have hs : small (xs.length : Int) = true := by simp; omega
        refine ⟨by omega, ?_⟩
        refine wp_forR (fun i e t => Seal (∃ e2, t = st ∧ e = [some (.tup xs), some (.tup xs), e2]) ()) ⟨_, rfl, rfl⟩ (fun _ _ _ _ => trivial) ?_ ?_
        · rintro i _ t hi ⟨e2, rfl, rfl⟩
          obtain ⟨y, hy, my⟩ := get_some (xs := xs) (i := i) (by omega)
          have hix : ixF t (.tup xs) (.int (i : Int)) = some y := by rw [Z.ix_tup, ix_m1 _ _ (by omega)]; exact hy
          have hyb := List.all_eq_true.mp ha y my
          have hy2 := smB_ne hyb
          simp -dsimp [-sIf_run, wps_sif, hix, ih y hyb, hy2]
          exact sl ⟨_, rfl, rfl⟩
        · rintro _ t ⟨e2, rfl, rfl⟩
          simp -dsimp [-sIf_run]
      | lst xs =>
        simp only [smB, Bool.and_eq_true, decide_eq_true_eq] at h
        obtain ⟨hl, ha⟩ := h
        simp -dsimp [-sIf_run, wps_sif]
        have hs : small (xs.length : Int) = true := by simp; omega
        refine ⟨by omega, ?_⟩
        refine wp_forR (fun i e t => Seal (∃ e2, t = st ∧ e = [some (.lst xs), some (.lst xs), e2]) ()) ⟨_, rfl, rfl⟩ (fun _ _ _ _ => trivial) ?_ ?_
        · rintro i _ t hi ⟨e2, rfl, rfl⟩
          obtain ⟨y, hy, my⟩ := get_some (xs := xs) (i := i) (by omega)
          have hix : ixF t (.lst xs) (.int (i : Int)) = some y := by rw [Z.ix_lst, ix_m1 _ _ (by omega)]; exact hy
          have hyb := List.all_eq_true.mp ha y my
          have hy2 := smB_ne hyb
          simp -dsimp [-sIf_run, wps_sif, hix, ih y hyb, hy2]
          exact sl ⟨_, rfl, rfl⟩
        · rintro _ t ⟨e2, rfl, rfl⟩
          simp -dsimp [-sIf_run]
      | non =>
        have e1 : cEq st .non .non = some true := rfl
        simp -dsimp [-sIf_run, wps_sif, e1]
      | bl b => simp -dsimp [-sIf_run, wps_sif]
      | int i => simp -dsimp [-sIf_run, wps_sif]
      | str w => simp -dsimp [-sIf_run, wps_sif]
      | _ => cases h
    obtain ⟨v, t, e, rfl, rfl⟩ := q.out
    exact e
theorem smB_maps {α : Type} {f : α → MV} {n : Nat} {xs : List α} (hl : xs.length ≤ 1000) (h : ∀ x ∈ xs, smB n (f x) = true) : smB (n + 1) (.tup (xs.map f)) = true := by
  simp only [smB, Bool.and_eq_true, decide_eq_true_eq, List.length_map]
  exact ⟨hl, List.all_eq_true.mpr fun y hy => by
    obtain ⟨x, hx, rfl⟩ := List.mem_map.mp hy
    exact h x hx⟩
theorem smB_o (o : Option Int) {n : Nat} : smB (n + 1) (oM o) = true := by cases o <;> rfl
theorem smB_f {f : Fm} (l1 : f.js.length ≤ 1000) (l2 : f.rs.length ≤ 1000) (l3 : f.hs.length ≤ 1000) : smB 6 (fM f) = true := by
  have h1 : smB 5 (.tup (f.js.map jM)) = true := smB_maps l1 fun j _ => rfl
  have h2 : smB 5 (.tup (f.rs.map rM)) = true := smB_maps l2 fun r _ => by simp [rM, smB, smB_o]
  have h3 : smB 5 (.tup (f.hs.map prM)) = true := smB_maps l3 fun r _ => rfl
  show (decide (3 ≤ 1000) && ([MV.tup (f.js.map jM), .tup (f.rs.map rM), .tup (f.hs.map prM)].all (smB 5))) = true
  simp only [List.all_cons, h1, h2, h3, List.all_nil]
  rfl
section
variable {st : Sto}
theorem fld4 {s : Sto} {f : Fm} : fldOf s 4 (fmI f) = some (.tup (f.js.map jM)) := by
  show zipLook (Z.fieldsOf 21) _ 4 = _
  rw [show Z.fieldsOf 21 = [4, 5, 6] by decide]; rfl
theorem fld5 {s : Sto} {f : Fm} : fldOf s 5 (fmI f) = some (.tup (f.rs.map rM)) := by
  show zipLook (Z.fieldsOf 21) _ 5 = _
  rw [show Z.fieldsOf 21 = [4, 5, 6] by decide]; rfl
theorem fld6 {s : Sto} {f : Fm} : fldOf s 6 (fmI f) = some (.tup (f.hs.map prM)) := by
  show zipLook (Z.fieldsOf 21) _ 6 = _
  rw [show Z.fieldsOf 21 = [4, 5, 6] by decide]; rfl
@[simp] theorem fmI_ne (f : Fm) : (fmI f = .exc) = False := by simp [fmI]
end
end K04

namespace K04
open PySem L2 Z
/-! ### words -/
section
variable {st : Sto} {Q : MV → Sto → Prop} {X : Nat → List (Nat × MV) → Sto → Prop}
theorem wd_eta (w : Str) : w = wd w.cps.toList := by
  cases w; simp [wd]
theorem wd_len (cs : List Nat) : (wd cs).length = cs.length := by simp [wd, Str.length]
theorem wd_cps (cs : List Nat) : (wd cs).cps.toList = cs := by simp [wd]
theorem is_name_w {w : Str} (hl : w.length ≤ 1000) : m_is_name [.str w] st = .ok (.bl (isNm w)) st := by
  have q : Wp (fun v t => v = .bl (isNm w) ∧ t = st) noX (m_is_name [.str w] st) := by
    unfold m_is_name
    have hk : ∀ s : Sto, cIn s (.str w) (.tup (gc_KEYS.map Gc.m)) = some (decide (w ∈ keysL)) := fun s => in_strs (gs := keysL) rfl
    have hl2 : fLen st [.str w] = some (.int w.length) := len_str (by omega)
    simp -dsimp [-sIf_run, wps_sif, hk, hl2]
    refine ⟨fun h1 => ⟨fun h2 => ?_, fun h2 => ⟨fun h3 => ?_, fun h3 => ?_⟩⟩, fun h1 => ?_⟩
    · unfold isNm
      rw [decide_eq_false (fun z => by omega), Bool.false_and]
    · unfold isNm
      rw [decide_eq_false (fun z => z.2.2 h3), Bool.false_and]
    · have c := lc_allW (env := [some (.str w), none]) (s := st) (f := fun c : Nat => MV.str ⟨#[c]⟩) (ys := w.cps.toList) (ok := fun _ => True) (mi := miStr (mVar 0)) (g := tgName 1) (me := mV (mCmp cIn (mVar 1) (mC (.str ("abcdefghijklmnopqrstuvwxyz" : Str))))) (vs := [1]) (fun c => .bl (decide (97 ≤ c ∧ c ≤ 122)))
        rfl (fun y hy a => by simp -dsimp [-sIf_run, wipeM, in_abc]) (fun a => trivial) (by
          have : w.length = w.cps.toList.length := by simp [Str.length]
          omega) (fun y _ a => rfl)
      rw [c]
      simp -dsimp [-sIf_run, all_map]
      unfold isNm
      rw [decide_eq_true (by exact ⟨by omega, by omega, h3⟩), Bool.true_and]
      simp
    · unfold isNm
      rw [decide_eq_false (fun z => by omega), Bool.false_and]
  obtain ⟨v, t, e, rfl, rfl⟩ := q.out
  exact e
theorem dig_mem {c : Nat} : c ∈ (("0123456789" : Str).cps.toList) ↔ 48 ≤ c ∧ c ≤ 57 := by
  have h : (("0123456789" : Str).cps.toList) = (List.range 10).map (48 + ·) := by decide +kernel
  rw [h, List.mem_map]
  exact ⟨fun ⟨a, h, e⟩ => by have := List.mem_range.mp h; omega, fun h => ⟨c - 48, List.mem_range.mpr (by omega), by omega⟩⟩
theorem in_dig {s : Sto} {c : Nat} : cIn s (.str ⟨#[c]⟩) (.str ("0123456789" : Str)) = some (digB c) := by
  show some (!(Builtin.Str.occurrences ("0123456789" : Str) ⟨#[c]⟩ 0 ("0123456789" : Str).length 1).isEmpty) = _
  rw [StrLaws.found_one]
  simp only [dig_mem, digB]
theorem digB_of {c : Nat} (h : digB c = true) : ∃ a, a < 10 ∧ c = 48 + a := by
  have := of_decide_eq_true h
  exact ⟨c - 48, by omega, by omega⟩
theorem num_wd : ∀ {cs : List Nat}, 1 ≤ cs.length → cs.length ≤ 3 → cs.all digB = true → ∃ n : Nat, n < 1000 ∧ PySem.intText? (wd cs) = some (n : Int)
  | [], h, _, _ => by simp at h
  | [a], _, _, h => by
    simp only [List.all_cons, List.all_nil, Bool.and_true] at h
    obtain ⟨a, ha, rfl⟩ := digB_of h
    exact ⟨a, by omega, num1 a ha⟩
  | [a, b], _, _, h => by
    simp only [List.all_cons, List.all_nil, Bool.and_true, Bool.and_eq_true] at h
    obtain ⟨a, ha, rfl⟩ := digB_of h.1
    obtain ⟨b, hb, rfl⟩ := digB_of h.2
    exact ⟨10 * a + b, by omega, num2 a ha b hb⟩
  | [a, b, c], _, _, h => by
    simp only [List.all_cons, List.all_nil, Bool.and_true, Bool.and_eq_true] at h
    obtain ⟨a, ha, rfl⟩ := digB_of h.1
    obtain ⟨b, hb, rfl⟩ := digB_of h.2.1
    obtain ⟨c, hc, rfl⟩ := digB_of h.2.2
    exact ⟨100 * a + 10 * b + c, by omega, num3 a ha b hb c hc⟩
  | _ :: _ :: _ :: _ :: _, _, h, _ => by simp at h
theorem ix_first {s : Sto} {w : Str} {c : Nat} {cs : List Nat} (e : w.cps.toList = c :: cs) (hl : w.length ≤ 100000) : ixF s (.str w) (.int 0) = some (.str ⟨#[c]⟩) := by
  show (if w.length ≤ line then (atI w.cps.toList (0 : Int)).map fun c => MV.str ⟨#[c]⟩ else none) = _
  rw [if_pos (by exact hl), e, ix_m1 _ _ (by omega)]; rfl
theorem number_ok {w : Str} (hl : w.length ≤ 1000) : m_number_of [.str w] st = .ok (oM (numOf w)) st := by
  have hw : w.length = w.cps.toList.length := by simp [Str.length]
  have q : Wp (fun v t => v = oM (numOf w) ∧ t = st) noX (m_number_of [.str w] st) := by
    unfold m_number_of
    simp -dsimp [-sIf_run]
    unfold m_plain_number
    have hl2 : fLen st [.str w] = some (.int w.length) := len_str (by omega)
    simp -dsimp [-sIf_run, wps_sif, hl2]
    have c := lc_allW (env := [some (.str w), some (.int 3), none]) (s := st) (f := fun c : Nat => MV.str ⟨#[c]⟩) (ys := w.cps.toList) (ok := fun _ => True) (mi := miStr (mVar 0)) (g := tgName 2) (me := mV (mCmp cIn (mVar 2) (mC (.str ("0123456789" : Str))))) (vs := [2]) (fun c => .bl (digB c))
        rfl (fun y hy a => by simp -dsimp [-sIf_run, wipeM, in_dig]) (fun a => trivial) (by omega) (fun y _ a => rfl)
    refine ⟨fun h1 => ⟨fun h2 => ?_, fun h2 => ?_⟩, fun h1 => ?_⟩
    · unfold numOf
      rw [if_neg (fun z => by omega)]; rfl
    · rw [c]
      by_cases h3 : w.cps.toList.all digB = true
      · have ea : ∀ s : Sto, fAll s [.lst (w.cps.toList.map fun c => MV.bl (digB c))] = some (.bl true) := fun s => by rw [all_map, h3]
        obtain ⟨n, hn, en⟩ := num_wd (cs := w.cps.toList) (by omega) (by omega) h3
        rw [← wd_eta] at en
        obtain ⟨d, ds, ed⟩ : ∃ d ds, w.cps.toList = d :: ds := by
          cases e : w.cps.toList with
          | nil => rw [e] at hw; simp at hw; omega
          | cons d ds => exact ⟨d, ds, rfl⟩
        have hint : fIntT st [.str w] = some (.int (n : Int)) := by
          simp only [fIntT, if_pos (show w.length ≤ 640 by omega), en]; rfl
        have hx : ∀ s : Sto, cEq s (.str ⟨#[d]⟩) (.str ("0" : Str)) = some (decide (d = 48)) := fun s => by
          show some ((⟨#[d]⟩ : Str) == ("0" : Str)) = _
          have e0 : ("0" : Str) = ⟨#[48]⟩ := by decide +kernel
          rw [e0]
          by_cases h : d = 48
          · subst h; simp
          · simp [h]
        have e5 : numOf w = if d = 48 ∧ 1 < w.length then none else some (n : Int) := by
          unfold numOf
          rw [if_pos ⟨by omega, by omega, h3⟩, ed, en]
          simp
        rw [e5]
        simp -dsimp [-sIf_run, wps_sif, ea, ix_first ed (by omega), hx, hint, hl2]
        refine ⟨fun h4 => ⟨fun h5 => ?_, fun h5 => ?_⟩, fun h4 => ?_⟩
        · rw [if_pos ⟨h4, by omega⟩]; rfl
        · rw [if_neg (fun z => by omega)]; rfl
        · rw [if_neg (fun z => h4 z.1)]; rfl
      · have : numOf w = none := by
          unfold numOf
          rw [if_neg (fun z => h3 z.2.2)]
        have h3' : w.cps.toList.all digB = false := by simpa using h3
        have ea : ∀ s : Sto, fAll s [.lst (w.cps.toList.map fun c => MV.bl (digB c))] = some (.bl false) := fun s => by rw [all_map, h3']
        simp -dsimp [-sIf_run, wps_sif, ea, this, oM]
    · unfold numOf
      rw [if_neg (fun z => by omega)]; rfl
  obtain ⟨v, t, e, rfl, rfl⟩ := q.out
  exact e
theorem sl_str {fr : Bool} {z : Str} {lo hi : Option Int} (h : z.length ≤ 100000) : slF fr (.str z) lo hi st = .ok (.str (cutS z lo hi)) st := by
  show (if z.length ≤ line then R.ok (MV.str (cutS z lo hi)) st else .bad) = _
  rw [if_pos (by exact h)]
end
section
variable {st : Sto} {Q : MV → Sto → Prop} {X : Nat → List (Nat × MV) → Sto → Prop}
theorem whole_ok {w : Str} (hl : w.length ≤ 1000) : m_whole_of [.str w] st = .ok (oM (wholeOf w)) st := by
  have q : Wp (fun v t => v = oM (wholeOf w) ∧ t = st) noX (m_whole_of [.str w] st) := by
    unfold m_whole_of
    have h2 : (cutS w (some 1) none).length ≤ 1000 := Nat.le_trans (cutS_length w _ _) hl
    have hl1 : w.length ≤ 100000 := by omega
    simp -dsimp [-sIf_run, wps_sif, sl_str hl1, number_ok hl, number_ok h2]
    refine ⟨fun h => ?_, fun h => ?_⟩
    · unfold wholeOf
      rw [if_pos h]
    · unfold wholeOf
      rw [if_neg (fun z => z h)]
      cases e : numOf (cutS w (some 1) none) with
      | none => simp -dsimp [-sIf_run, oM]
      | some v =>
        simp -dsimp [-sIf_run, oM]
        exact ⟨fun h => by simp [h], fun h => by simp [h]⟩
  obtain ⟨v, t, e, rfl, rfl⟩ := q.out
  exact e
/-! ### the cursor -/
abbrev CurC (ws : List Str) (i : Nat) : Cell → Prop := Is 22 [(7, .lst (ws.map .str)), (0, .int i)]
abbrev curX (ws : List Str) (i : Nat) : Cell := .ins 22 [(7, .lst (ws.map .str)), (0, .int i)]
def woM : Option Str → MV
  | none => .non
  | some w => .str w
@[simp] theorem woM_ne (o : Option Str) : (woM o = .exc) = False := by cases o <;> simp [woM]
variable {u i : Nat} {ws : List Str}
theorem next_ok (h : st[u]? = some (curX ws i)) : m_Cursor_next_word [.ref u] st = .ok (woM ws[i]?) st := by
  have q : Wp (fun v t => v = woM ws[i]? ∧ t = st) noX (m_Cursor_next_word [.ref u] st) := by
    unfold m_Cursor_next_word
    simp -dsimp [-sIf_run, wps_sif, fld_ref h, lookN]
    refine ⟨fun h1 => ?_, fun h1 => ?_⟩
    · rw [List.getElem?_eq_getElem h1]
      simp [woM]
    · rw [List.getElem?_eq_none (by omega)]; rfl
  obtain ⟨v, t, e, rfl, rfl⟩ := q.out
  exact e
theorem fo22 : fieldsOf 22 = [7, 0] := by decide
theorem skip_ok (h : st[u]? = some (curX ws i)) : m_Cursor_skip [.ref u] st = .ok .non (st.set u (curX ws (i + 1))) := by
  have q : Wp (fun v t => v = .non ∧ t = st.set u (curX ws (i + 1))) noX (m_Cursor_skip [.ref u] st) := by
    unfold m_Cursor_skip
    have hs : setFld 0 (.ref u) (.int ((i : Int) + 1)) st = some (st.set u (curX ws (i + 1))) := by
      rw [setFld_ref h (by rw [fo22]; simp) (by simp)]
      rfl
    simp -dsimp [-sIf_run, fld_ref h, lookN, hs]
  obtain ⟨v, t, e, rfl, rfl⟩ := q.out
  exact e
theorem smM_nat {i : Nat} (h : i ≤ 100000) : smM (.int (i : Int)) = true := by
  have : (i : Int).natAbs.log2 < 1920 := by
    rw [Int.natAbs_natCast]
    by_cases h0 : i = 0
    · subst h0; decide
    · exact (Nat.log2_lt h0).mpr (Nat.lt_of_le_of_lt h (Nat.lt_of_lt_of_le (by decide : 100000 < 2 ^ 20) (Nat.pow_le_pow_right (n := 2) (i := 20) (j := 1920) (by decide) (by decide))))
  exact decide_eq_true this
theorem refuse_wp (h : st[u]? = some (curX ws i)) (hi : i ≤ 100000) (k : X 1 [(0, .int i)] st) : Wp Q X (m_Cursor_refuse [.ref u] st) := by
  unfold m_Cursor_refuse
  simp -dsimp [-sIf_run, fld_ref h, lookN, smM_nat hi]
  exact k
theorem ended_ok (h : st[u]? = some (curX ws i)) : m_Cursor_ended [.ref u] st = .ok (.bl (decide (ws.length ≤ i))) st := by
  have q : Wp (fun v t => v = .bl (decide (ws.length ≤ i)) ∧ t = st) noX (m_Cursor_ended [.ref u] st) := by
    unfold m_Cursor_ended
    simp -dsimp [-sIf_run, fld_ref h, lookN]
  obtain ⟨v, t, e, rfl, rfl⟩ := q.out
  exact e
theorem take_wp (h : st[u]? = some (curX ws i)) (hi : i ≤ 100000) {gs : List Str} (k1 : ∀ w, ws[i]? = some w → w ∈ gs → Q (.str w) (st.set u (curX ws (i + 1)))) (k0 : (∀ w, ws[i]? = some w → w ∉ gs) → X 1 [(0, .int i)] st) : Wp Q X (m_Cursor_take [.ref u, .lst (gs.map .str)] st) := by
  unfold m_Cursor_take
  have hs : setFld 0 (.ref u) (.int ((i : Int) + 1)) st = some (st.set u (curX ws (i + 1))) := by
    rw [setFld_ref h (by rw [fo22]; simp) (by simp)]
    rfl
  simp -dsimp [-sIf_run, cls_ref h, next_ok h]
  cases e : ws[i]? with
  | none =>
    simp -dsimp [-sIf_run, wps_sif, woM, fld_ref h, lookN, smM_nat hi]
    exact k0 (fun w hw => by rw [e] at hw; cases hw)
  | some w =>
    have hn : ∀ s : Sto, cNin s (.str w) (.lst (gs.map .str)) = some (!decide (w ∈ gs)) := fun s => nin_strs (gs := gs) rfl
    simp -dsimp [-sIf_run, wps_sif, woM, fld_ref h, lookN, smM_nat hi, hn, hs]
    exact ⟨fun hg => k0 (fun w' hw => by rw [e] at hw; cases hw; exact hg), fun hg => k1 w e hg⟩
end
end K04

namespace K04
open PySem L2 Z
/-! ### the reader -/
structure Ad where
  u : Nat
  n : Nat
  a : Nat
  b : Nat
  c : Nat
abbrev RdC (A : Ad) : Cell → Prop := Is 23 [(8, .ref A.u), (4, .ref A.a), (5, .ref A.b), (6, .ref A.c)]
abbrev RH (A : Ad) (S : RS) (L : Heapy) : Heapy := (A.u, CurC S.ws S.at') :: (A.n, RdC A) :: (A.a, Ls (S.js.map jM)) :: (A.b, Ls (S.rs.map rM)) :: (A.c, Ls (S.hs.map prM)) :: L
theorem itF {env : Ev} {s : Sto} {i f : Nat} {x y : MV} {it : IT} (hx : env.getD i none = some x) (hne : x ≠ .exc) (hf : fldOf s f x = some y) (hi : itOf s y = some it) : miSeq (mFld f (mVar i)) env s = .ok it s := by
  unfold miSeq mFld mUn M.bnd
  simp only [mVar_ok hx hne, hf, hi, M.opt]
theorem find_strs {w : Str} : ∀ {ns : List Str}, w ∈ ns → findM (.str w) (ns.map .str) = some (ns.idxOf w)
  | [], h => by cases h
  | n :: ns, h => by
    unfold findM
    rw [List.map_cons, List.idxOf_cons]
    show (if (n == w) = true then some 0 else _) = _
    by_cases e : n = w
    · simp [e]
    · have h2 : w ∈ ns := by
        rcases List.mem_cons.mp h with rfl | h
        · exact absurd rfl e
        · exact h
      rw [find_strs h2]
      have e2 : (n == w) = false := by simpa using e
      have e3 : flatEq (.str n) (.str w) = false := e2
      simp [e2, e3]
theorem index_strs {s : Sto} {w : Str} {ns : List Str} (h : w ∈ ns) : fIndex (.lst (ns.map .str)) [.str w] s = .ok (.int (ns.idxOf w : Nat)) s := by
  have hf : (flatM (.str w) && (ns.map MV.str).all flatM) = true := by simp [flatM]
  show (if (flatM (.str w) && (ns.map MV.str).all flatM) = true then (match findM (.str w) (ns.map MV.str) with | some j => R.ok (MV.int (j : Nat)) s | none => .bad) else .bad) = _
  rw [if_pos hf, find_strs h]
section
variable {st : Sto} {L : Heapy} {A : Ad} {S : RS} {Q : MV → Sto → Prop} {X : Nat → List (Nat × MV) → Sto → Prop}
abbrev Bad {α : Type} (L : Heapy) (X : Nat → List (Nat × MV) → Sto → Prop) (r : Except Nat α) : Prop := ∀ e, r = .error e → ∀ t, Has t L → X 1 [(0, .int (e : Nat))] t
theorem RH_cu (h : Has st (RH A S L)) : st[A.u]? = some (curX S.ws S.at') := h.is (.head _)
theorem RH_rd (h : Has st (RH A S L)) : st[A.n]? = some (.ins 23 [(8, .ref A.u), (4, .ref A.a), (5, .ref A.b), (6, .ref A.c)]) := h.is (.tail _ (.head _))
theorem RH_js (h : Has st (RH A S L)) : st[A.a]? = some (.lst (S.js.map jM)) := h.ls (.tail _ (.tail _ (.head _)))
theorem RH_rs (h : Has st (RH A S L)) : st[A.b]? = some (.lst (S.rs.map rM)) := h.ls (.tail _ (.tail _ (.tail _ (.head _))))
theorem RH_hs (h : Has st (RH A S L)) : st[A.c]? = some (.lst (S.hs.map prM)) := h.ls (.tail _ (.tail _ (.tail _ (.tail _ (.head _)))))
theorem RH_L (h : Has st (RH A S L)) : Has st L := h.tail.tail.tail.tail.tail
theorem RH_nx (h : Has st (RH A S L)) : Has (st.set A.u (curX S.ws (S.at' + 1))) (RH A S.nx L) := h.upd0 rfl
theorem at5 (I : RInv S) : S.at' ≤ 100000 := by
  have := I.ai; have := I.wl; omega
theorem names_ok (h : Has st (RH A S L)) (I : RInv S) : m_Reader_names [.ref A.n] st = .ok (.lst (S.names.map .str)) st := by
  have q : Wp (fun v t => v = .lst (S.names.map .str) ∧ t = st) noX (m_Reader_names [.ref A.n] st) := by
    unfold m_Reader_names
    simp -dsimp [-sIf_run]
    have c := lc_allW (env := [some (.ref A.n), none]) (s := st) (f := jM) (ys := S.js) (ok := fun t => t[A.a]? = some (.lst (S.js.map jM))) (mi := miSeq (mFld 4 (mVar 0))) (g := tgName 1) (me := mIx (mVar 1) (mC (.int 0))) (vs := [1]) (fun j => .str j.name)
      (itF rfl (by simp) (fld_ref (RH_rd h)) (it_ref (RH_js h))) (fun y hy a => by simp -dsimp [-sIf_run, wipeM, jM]) (fun a => RH_js (h.more _)) (by have := I.jl; omega) (fun y _ a => rfl)
    rw [c]
    simp -dsimp [-sIf_run]
    unfold RS.names
    rw [List.map_map]; rfl
  obtain ⟨v, t, e, rfl, rfl⟩ := q.out
  exact e
theorem openE_ok (h : Has st (RH A S L)) (I : RInv S) {one : Nat} (ho : one ≤ 1000) : m_Reader_open_ends [.ref A.n, .int one] st = .ok (.lst ((S.openE one).map fun k : Nat => .int k)) st := by
  have q : Wp (fun v t => v = .lst ((S.openE one).map fun k : Nat => .int k) ∧ t = st) noX (m_Reader_open_ends [.ref A.n, .int one] st) := by
    unfold m_Reader_open_ends
    simp -dsimp [-sIf_run]
    have c := lc_allW (env := [some (.ref A.n), some (.int one), none, none, none]) (s := st) (f := rM) (ys := S.rs) (ok := fun t => t[A.b]? = some (.lst (S.rs.map rM))) (mi := miSeq (mFld 5 (mVar 0))) (g := tgName 3) (me := mSl true (mVar 3) mNoPart (mPart (mC (.int 2)))) (vs := [3]) (fun r => prM r.ends)
      (itF rfl (by simp) (fld_ref (RH_rd h)) (it_ref (RH_rs h))) (fun y hy a => by simp -dsimp [-sIf_run, wipeM, rM, cut_hiI, prM, R4.ends]) (fun a => RH_rs (h.more _)) (by have := I.rl; omega) (fun y _ a => pl_frz40 (enc_prM.pl12 trivial))
    rw [c]
    simp -dsimp [-sIf_run]
    have hl : fLen st [.ref A.a] = some (.int S.js.length) := by
      rw [len_ref (RH_js h)]; simp
    have hi : miRange2 (mBin bAdd (mVar 1) (mC (.int 1))) (mCallF fLen (mCons (mFld 4 (mVar 0)) mNil)) [some (.ref A.n), some (.int one), some (.lst (S.rs.map fun r => prM r.ends)), none, none] st = .ok ⟨(List.range (S.js.length - (one + 1))).map fun k : Nat => .int ((one : Int) + 1 + k), fun _ => True⟩ st := by
      have q : Wp (fun v t => v = ⟨intsM ((one : Int) + 1) (((S.js.length : Nat) : Int) - ((one : Int) + 1)).toNat, fun _ => True⟩ ∧ t = st) noX (miRange2 (mBin bAdd (mVar 1) (mC (.int 1))) (mCallF fLen (mCons (mFld 4 (mVar 0)) mNil)) [some (.ref A.n), some (.int one), some (.lst (S.rs.map fun r => prM r.ends)), none, none] st) := by
        simp -dsimp [-sIf_run, fld_ref (RH_rd h), lookN, hl]
        have := I.jl
        omega
      obtain ⟨v, t, e, rfl, rfl⟩ := q.out
      rw [e]
      unfold intsM
      rw [show (((S.js.length : Nat) : Int) - ((one : Int) + 1)).toNat = S.js.length - (one + 1) by omega]
    have c2 := lc_mapW (env := [some (.ref A.n), some (.int one), some (.lst (S.rs.map fun r => prM r.ends)), none, none]) (s := st) (f := fun k : Nat => MV.int ((one : Int) + 1 + k)) (ys := List.range (S.js.length - (one + 1))) (ok := fun _ => True) (g := tgName 4) (mt := mCmp cNin (mTup (mCons (mVar 1) (mCons (mVar 4) mNil))) (mVar 2)) (me := mVar 4) (vs := [4]) (fun k => decide (((one : Int), (one : Int) + 1 + (k : Int)) ∉ S.rs.map R4.ends)) (fun k => MV.int ((one : Int) + 1 + k)) hi (fun k hk a => by
        have hn : cNin (st ++ [.lst a]) (.tup [.int one, .int ((one : Int) + 1 + k)]) (.lst (S.rs.map fun r => prM r.ends)) = some (decide (((one : Int), (one : Int) + 1 + (k : Int)) ∉ S.rs.map R4.ends)) := by
          have e1 : (S.rs.map fun r => prM r.ends) = (S.rs.map R4.ends).map prM := by simp [Function.comp_def]
          rw [e1]
          exact WpO.get (wpo_ninE (a := ((one : Int), (one : Int) + 1 + (k : Int))) enc_prM rfl trivial (fun x hx => trivial) (fun z => (decide_eq_false fun w => w z).symm) fun z => (decide_eq_true z).symm)
        simp -dsimp [-sIf_run, wipeM, hn]) (fun a => trivial) (by simp; have := I.jl; omega) (fun y _ _ a => rfl)
    have e3 : ((List.range (S.js.length - (one + 1))).filter fun (k : Nat) => decide (((one : Int), (one : Int) + 1 + (k : Int)) ∉ S.rs.map R4.ends)).map (fun (k : Nat) => MV.int ((one : Int) + 1 + k)) = (S.openE one).map fun k : Nat => .int k := by
      unfold RS.openE
      rw [List.map_map]
      congr 1
    rw [c2, e3]
    simp -dsimp [-sIf_run]
  obtain ⟨v, t, e, rfl, rfl⟩ := q.out
  exact e

theorem starts_ok (h : Has st (RH A S L)) (I : RInv S) : m_Reader_starts [.ref A.n] st = .ok (.lst (S.starts.map fun k : Nat => .int k)) st := by
  have q : Wp (fun v t => v = .lst (S.starts.map fun k : Nat => .int k) ∧ t = st) noX (m_Reader_starts [.ref A.n] st) := by
    unfold m_Reader_starts
    have hl : ∀ e, fLen (st ++ e) [.ref A.a] = some (.int S.js.length) := fun e => by
      rw [len_ref (RH_js (h.more e))]; simp
    have hl0 : fLen st [.ref A.a] = some (.int S.js.length) := by
      rw [len_ref (RH_js h)]; simp
    have hr : fLen st [.ref A.b] = some (.int S.rs.length) := by
      rw [len_ref (RH_rs h)]; simp
    simp -dsimp [-sIf_run, wps_sif, fld_ref (RH_rd h), lookN, hr]
    have hj := I.jl
    refine ⟨fun h1 => ?_, fun h1 => ?_⟩
    · unfold RS.starts
      rw [if_pos (by omega)]
    · have hi : miRange (mCallF fLen (mCons (mFld 4 (mVar 0)) mNil)) [some (.ref A.n), none] st = .ok ⟨(List.range S.js.length).map fun k : Nat => .int k, fun _ => True⟩ st := by
        have q : Wp (fun v t => v = ⟨intsM 0 S.js.length, fun _ => True⟩ ∧ t = st) noX (miRange (mCallF fLen (mCons (mFld 4 (mVar 0)) mNil)) [some (.ref A.n), none] st) := by
          simp -dsimp [-sIf_run, fld_ref (RH_rd h), lookN, hl0]
          omega
        obtain ⟨v, t, e, rfl, rfl⟩ := q.out
        rw [e]
        unfold intsM
        simp
      have c2 := lc_mapW (env := [some (.ref A.n), none]) (s := st) (f := fun k : Nat => MV.int k) (ys := List.range S.js.length) (ok := fun _ => True) (g := tgName 1) (mt := mTru (mMeth [(23, m_Reader_open_ends)] (mVar 0) (mCons (mVar 1) mNil))) (me := mVar 1) (vs := [1]) (fun j => decide (S.openE j ≠ [])) (fun k => MV.int k) hi (fun k hk a => by
          have hk := List.mem_range.mp hk
          simp -dsimp [-sIf_run, wipeM, cls_ref (RH_rd (h.more _)), openE_ok (h.more [.lst a]) I (show k ≤ 1000 by omega)]
          have ht : truOf (st ++ [.lst a]) (.lst ((S.openE k).map fun k : Nat => .int k)) = some (decide (S.openE k ≠ [])) := by
            cases e : S.openE k <;> simp [truOf]
          simp -dsimp [-sIf_run, ht]) (fun a => trivial) (by simp; omega) (fun y _ _ a => rfl)
      rw [c2]
      simp -dsimp [-sIf_run]
      unfold RS.starts
      rw [if_neg (by omega)]
      simp
  obtain ⟨v, t, e, rfl, rfl⟩ := q.out
  exact e
theorem openA_ok (h : Has st (RH A S L)) {j : Nat} : m_Reader_open_axes [.ref A.n, .int j] st = .ok (.lst ((S.openA j).map fun k : Nat => .int k)) st := by
  have q : Wp (fun v t => v = .lst ((S.openA j).map fun k : Nat => .int k) ∧ t = st) noX (m_Reader_open_axes [.ref A.n, .int j] st) := by
    unfold m_Reader_open_axes
    simp -dsimp [-sIf_run]
    have c2 := lc_mapW (env := [some (.ref A.n), some (.int j), none]) (s := st) (f := fun k : Nat => MV.int k) (ys := [0, 1]) (ok := fun _ => True) (mi := miSeq (mTup (mCons (mC (.int 0)) (mCons (mC (.int 1)) mNil)))) (g := tgName 2) (mt := mCmp cNin (mTup (mCons (mVar 1) (mCons (mVar 2) mNil))) (mFld 6 (mVar 0))) (me := mVar 2) (vs := [2]) (fun (a : Nat) => decide (((j : Int), (a : Int)) ∉ S.hs)) (fun k => MV.int k) rfl (fun k hk a => by
        have hn : cNin (st ++ [.lst a]) (.tup [.int j, .int k]) (.ref A.c) = some (decide (((j : Int), (k : Int)) ∉ S.hs)) :=
          WpO.get (wpo_ninE (a := ((j : Int), (k : Int))) enc_prM (seq_ref (RH_hs (h.more _))) trivial (fun x hx => trivial) (fun z => (decide_eq_false fun w => w z).symm) fun z => (decide_eq_true z).symm)
        simp -dsimp [-sIf_run, wipeM, fld_ref (RH_rd (h.more _)), lookN, hn]) (fun a => trivial) (by simp) (fun y _ _ a => rfl)
    rw [c2]
    simp -dsimp [-sIf_run]
    simp [RS.openA, RS.loose]
  obtain ⟨v, t, e, rfl, rfl⟩ := q.out
  exact e
theorem loose_ok (h : Has st (RH A S L)) (I : RInv S) : m_Reader_loose [.ref A.n] st = .ok (.lst (S.loose.map fun k : Nat => .int k)) st := by
  have q : Wp (fun v t => v = .lst (S.loose.map fun k : Nat => .int k) ∧ t = st) noX (m_Reader_loose [.ref A.n] st) := by
    unfold m_Reader_loose
    have hl0 : fLen st [.ref A.a] = some (.int S.js.length) := by
      rw [len_ref (RH_js h)]; simp
    have hj := I.jl
    simp -dsimp [-sIf_run]
    have hi : miRange (mCallF fLen (mCons (mFld 4 (mVar 0)) mNil)) [some (.ref A.n), none] st = .ok ⟨(List.range S.js.length).map fun k : Nat => .int k, fun _ => True⟩ st := by
      have q : Wp (fun v t => v = ⟨intsM 0 S.js.length, fun _ => True⟩ ∧ t = st) noX (miRange (mCallF fLen (mCons (mFld 4 (mVar 0)) mNil)) [some (.ref A.n), none] st) := by
        simp -dsimp [-sIf_run, fld_ref (RH_rd h), lookN, hl0]
        omega
      obtain ⟨v, t, e, rfl, rfl⟩ := q.out
      rw [e]
      unfold intsM
      simp
    have c2 := lc_mapW (env := [some (.ref A.n), none]) (s := st) (f := fun k : Nat => MV.int k) (ys := List.range S.js.length) (ok := fun _ => True) (g := tgName 1) (mt := mTru (mMeth [(23, m_Reader_open_axes)] (mVar 0) (mCons (mVar 1) mNil))) (me := mVar 1) (vs := [1]) (fun j => decide (S.openA j ≠ [])) (fun k => MV.int k) hi (fun k hk a => by
        simp -dsimp [-sIf_run, wipeM, cls_ref (RH_rd (h.more _)), openA_ok (h.more [.lst a])]
        have ht : truOf (st ++ [.lst a]) (.lst ((S.openA k).map fun k : Nat => .int k)) = some (decide (S.openA k ≠ [])) := by
          cases e : S.openA k <;> simp [truOf]
        simp -dsimp [-sIf_run, ht]) (fun a => trivial) (by simp; omega) (fun y _ _ a => rfl)
    rw [c2]
    simp -dsimp [-sIf_run]
    simp [RS.openA, RS.loose]
  obtain ⟨v, t, e, rfl, rfl⟩ := q.out
  exact e
theorem takeR_wp (h : Has st (RH A S L)) (I : RInv S) {gs : List Str} (k1 : ∀ p, rTake S gs = .ok p → ∀ t, Has t (RH A p.2 L) → RInv p.2 → Q (.str p.1) t) (k0 : Bad L X (rTake S gs)) : Wp Q X (m_Cursor_take [.ref A.u, .lst (gs.map .str)] st) := by
  refine take_wp (RH_cu h) (at5 I) (fun w hw hg => ?_) fun hb => ?_
  · have hc : S.cur = some w := hw
    exact k1 (w, S.nx) (by simp only [rTake, hc, if_pos hg]) _ (RH_nx h) (I.nx hc)
  · refine k0 S.at' ?_ _ (RH_L h)
    unfold rTake
    split
    · rename_i w hw
      rw [if_neg (hb w hw)]
    · rfl
theorem whole_wp (h : Has st (RH A S L)) (I : RInv S) (k1 : ∀ p, rWhole S = .ok p → ∀ t, Has t (RH A p.2 L) → RInv p.2 → Q (.int p.1) t) (k0 : Bad L X (rWhole S)) : Wp Q X (m_Reader_whole [.ref A.n] st) := by
  unfold m_Reader_whole
  simp -dsimp [-sIf_run, fld_ref (RH_rd h), lookN, cls_ref (RH_cu h), next_ok (RH_cu h)]
  have hc : S.ws[S.at']? = S.cur := rfl
  rw [hc]
  cases e : S.cur with
  | none =>
    simp -dsimp [-sIf_run, wps_sif, woM, fld_ref (RH_rd h), lookN, cls_ref (RH_cu h)]
    refine refuse_wp (RH_cu h) (at5 I) (k0 _ (by unfold rWhole; rw [e]; rfl) _ (RH_L h))
  | some w =>
    have hw := I.wz w (cur_mem e)
    simp -dsimp [-sIf_run, wps_sif, woM, fld_ref (RH_rd h), lookN, cls_ref (RH_cu h), whole_ok hw]
    cases e2 : wholeOf w with
    | none =>
      simp -dsimp [-sIf_run, wps_sif, oM, fld_ref (RH_rd h), lookN, cls_ref (RH_cu h)]
      refine refuse_wp (RH_cu h) (at5 I) (k0 _ (by unfold rWhole; rw [e, Option.bind_some, e2]) _ (RH_L h))
    | some v =>
      simp -dsimp [-sIf_run, wps_sif, oM, fld_ref (RH_rd h), lookN, cls_ref (RH_cu h), skip_ok (RH_cu h), whole_ok hw, e2]
      exact k1 (v, S.nx) (by unfold rWhole; rw [e, Option.bind_some, e2]) _ (RH_nx h) (I.nx e)
theorem one_wp (h : Has st (RH A S L)) (I : RInv S) {gs : List Nat} (hg : ∀ g ∈ gs, g < S.js.length) (hl : gs.length ≤ 1000) (k1 : ∀ p, rOne S gs = .ok p → ∀ t, Has t (RH A p.2 L) → RInv p.2 → Q (.int (p.1 : Nat)) t) (k0 : Bad L X (rOne S gs)) : Wp Q X (m_Reader_one_of [.ref A.n, .lst (gs.map fun g : Nat => .int g)] st) := by
  unfold m_Reader_one_of
  simp -dsimp [-sIf_run, cls_ref (RH_rd h), names_ok h I, fld_ref (RH_rd h), lookN, cls_ref (RH_cu h)]
  have c := lc_allW (env := [some (.ref A.n), some (.lst (gs.map fun g : Nat => .int g)), some (.lst (S.names.map .str)), none]) (s := st) (f := fun g : Nat => MV.int g) (ys := gs) (ok := fun _ => True) (mi := miSeq (mVar 1)) (g := tgName 3) (me := mIx (mVar 2) (mVar 3)) (vs := [3]) (fun g => .str (S.nm g))
    (by simp [miSeq, M.bnd]) (fun y hy a => by
      have e := (nm_mem (hg y hy)).2
      simp -dsimp [-sIf_run, wipeM, e]) (fun a => trivial) (by omega) (fun y _ a => rfl)
  rw [c]
  have e3 : (gs.map fun g => MV.str (S.nm g)) = (gs.map S.nm).map .str := by rw [List.map_map]; rfl
  rw [e3]
  obtain ⟨ns, hns⟩ : ∃ ns, gs.map S.nm = ns := ⟨_, rfl⟩
  rw [hns]
  have hL : ∀ xs, isLs st (.lst xs) = true := fun _ => rfl
  simp -dsimp [-sIf_run, hL]
  refine takeR_wp h I (fun p hp t ht It => ?_) fun e he t ht => k0 e (by unfold rOne; rw [hns, he]; rfl) t ht
  rw [← hns] at hp
  obtain ⟨_, hm, _⟩ := take_ok hp
  obtain ⟨g, hg1, hg2⟩ := List.mem_map.mp hm
  have hin : p.1 ∈ S.names := by rw [← hg2]; exact (nm_mem (hg g hg1)).1
  simp -dsimp [-sIf_run, index_strs hin]
  exact k1 (S.names.idxOf p.1, p.2) (by unfold rOne; rw [hp]; rfl) t ht It
theorem str_wp (h : Has st (RH A S L)) (I : RInv S) (k1 : ∀ p, rStr S = .ok p → ∀ t, Has t (RH A p.2 L) → RInv p.2 → Q (oM p.1) t) (k0 : Bad L X (rStr S)) : Wp Q X (m_Reader_strength [.ref A.n] st) := by
  unfold m_Reader_strength
  simp -dsimp [-sIf_run, fld_ref (RH_rd h), lookN, cls_ref (RH_cu h), next_ok (RH_cu h)]
  have hc : S.ws[S.at']? = S.cur := rfl
  rw [hc]
  cases e : S.cur with
  | none =>
    have hn : cEq st .non (.str ("any" : Str)) = some false := rfl
    simp -dsimp [-sIf_run, wps_sif, woM, fld_ref (RH_rd h), lookN, cls_ref (RH_cu h), hn]
    refine refuse_wp (RH_cu h) (at5 I) (k0 _ (by unfold rStr; rw [e]) _ (RH_L h))
  | some w =>
    have hw := I.wz w (cur_mem e)
    simp -dsimp [-sIf_run, wps_sif, woM, fld_ref (RH_rd h), lookN, cls_ref (RH_cu h), skip_ok (RH_cu h), number_ok hw]
    refine ⟨fun ha => k1 (none, S.nx) (by unfold rStr; rw [e]; simp only [if_pos ha]) _ (RH_nx h) (I.nx e), fun ha => ?_⟩
    cases e2 : numOf w with
    | none =>
      simp -dsimp [-sIf_run, wps_sif, oM, fld_ref (RH_rd h), lookN, cls_ref (RH_cu h)]
      refine refuse_wp (RH_cu h) (at5 I) (k0 _ (by unfold rStr; rw [e]; simp only [if_neg ha, e2]) _ (RH_L h))
    | some v =>
      simp -dsimp [-sIf_run, wps_sif, oM, fld_ref (RH_rd h), lookN, cls_ref (RH_cu h), skip_ok (RH_cu h), number_ok hw, e2]
      exact k1 (some v, S.nx) (by unfold rStr; rw [e]; simp only [if_neg ha, e2]) _ (RH_nx h) (I.nx e)
end
end K04

namespace K04
open PySem L2 Z
/-! ### joints, rods, holds read -/
section
variable {st : Sto} {L : Heapy} {A : Ad} {S : RS} {Q : MV → Sto → Prop} {X : Nat → List (Nat × MV) → Sto → Prop}
def xoM (p : Int × Option Int) : MV := .tup [.int p.1, oM p.2]
theorem enc_xoM : EncP xoM (fun _ => True) where
  pl a _ := by simp [xoM, plB, pl_oM]
  inj a b h := by
    obtain ⟨a1, a2⟩ := a; obtain ⟨b1, b2⟩ := b
    simp only [xoM, MV.tup.injEq, List.cons.injEq, MV.int.injEq] at h
    rw [h.1, oM_inj h.2.1]
theorem in_spots {s : Sto} {x : Int} {o : Option Int} {js : List J} : cIn s (.tup [.int x, oM o]) (.lst (js.map fun j => prM j.spot)) = some (decide (∃ y, o = some y ∧ (x, y) ∈ js.map J.spot)) := by
  have e1 : (js.map fun j => prM j.spot) = (js.map fun j => (j.x, some j.y)).map xoM := by
    rw [List.map_map]; rfl
  have e2 : ((x, o) ∈ js.map fun j => (j.x, some j.y)) ↔ ∃ y, o = some y ∧ (x, y) ∈ js.map J.spot := by
    constructor
    · intro h
      obtain ⟨j, hj, e⟩ := List.mem_map.mp h
      cases e
      exact ⟨j.y, rfl, List.mem_map.mpr ⟨j, hj, rfl⟩⟩
    · rintro ⟨y, rfl, h⟩
      obtain ⟨j, hj, e⟩ := List.mem_map.mp h
      cases e
      exact List.mem_map.mpr ⟨j, hj, rfl⟩
  rw [e1]
  exact WpO.get (wpo_inE (a := (x, o)) enc_xoM rfl trivial (fun x hx => trivial) (fun z => (decide_eq_true (e2.mp z)).symm) fun z => (decide_eq_false (fun w => z (e2.mpr w))).symm)
theorem RH_addJ {t : Sto} {j : J} (h : Has t (RH A S L)) : Has (t.set A.a (.lst (S.js.map jM ++ [jM j]))) (RH A (addJ S j) L) := by
  refine h.upd2 ?_
  show _ = Cell.lst ((S.js ++ [j]).map jM)
  simp
theorem RH_addR {t : Sto} {r : R4} (h : Has t (RH A S L)) : Has (t.set A.b (.lst (S.rs.map rM ++ [rM r]))) (RH A (addR S r) L) :=
  Has.updM [_, _, _] h (by show _ = Cell.lst ((S.rs ++ [r]).map rM); simp)
theorem RH_addH {t : Sto} {p : Int × Int} (h : Has t (RH A S L)) : Has (t.set A.c (.lst (S.hs.map prM ++ [prM p]))) (RH A (addH S p) L) :=
  Has.updM [_, _, _, _] h (by show _ = Cell.lst ((S.hs ++ [p]).map prM); simp)
theorem joint_wp (h : Has st (RH A S L)) (I : RInv S) (k1 : ∀ S', rJoint S = .ok S' → ∀ t, Has t (RH A S' L) → Q .non t) (k0 : Bad L X (rJoint S)) : Wp Q X (m_Reader_joint [.ref A.n] st) := by
  unfold m_Reader_joint
  simp -dsimp [-sIf_run, fld_ref (RH_rd h), lookN, cls_ref (RH_cu h)]
  refine takeR_wp (gs := [("joint" : Str)]) h I (fun p hp t h I => ?_) fun e he t ht => k0 e (by unfold rJoint; rw [he]; rfl) t ht
  unfold rJoint at k1 k0
  rw [hp] at k1 k0
  simp only [eb_ok] at k1 k0
  clear hp
  obtain ⟨_, S⟩ := p
  simp -dsimp [-sIf_run, fld_ref (RH_rd h), lookN, cls_ref (RH_cu h), next_ok (RH_cu h)]
  have hc : S.ws[S.at']? = S.cur := rfl
  simp only at h I k1 k0
  have hc : S.ws[S.at']? = S.cur := rfl
  rw [hc]
  cases e : S.cur with
  | none =>
    simp -dsimp [-sIf_run, wps_sif, woM, fld_ref (RH_rd h), lookN, cls_ref (RH_cu h)]
    refine refuse_wp (RH_cu h) (at5 I) (k0 _ (by rw [name_no0 e]; rfl) _ (RH_L h))
  | some w =>
    have hw := I.wz w (cur_mem e)
    have hin : ∀ s : Sto, cIn s (.str w) (.lst (S.names.map .str)) = some (decide (w ∈ S.names)) := fun s => in_strs (gs := S.names) rfl
    simp -dsimp [-sIf_run, woM]
    refine WpS.cut (fun e t2 => Seal (t2 = t ∧ e = [some (.ref A.n), some (.str w), none, none, none] ∧ rName S = .ok (w, S.nx)) ()) ?_ ?_
    · have bad : (isNm w = true → w ∈ S.names) → X 1 [(0, .int (S.at' : Nat))] t := fun hb => k0 _ (by rw [name_no e (fun z => z.2 (hb z.1))]; rfl) _ (RH_L h)
      simp -dsimp [-sIf_run, wps_sif, fld_ref (RH_rd h), lookN, cls_ref (RH_cu h), cls_ref (RH_rd h), is_name_w hw, names_ok h I, hin]
      refine ⟨fun h1 => ?_, fun h1 => ⟨fun h2 => ?_, fun h2 => ?_⟩⟩
      · exact refuse_wp (RH_cu h) (at5 I) (bad fun z => by rw [h1] at z; cases z)
      · exact refuse_wp (RH_cu h) (at5 I) (bad fun _ => h2)
      · exact sl ⟨rfl, rfl, name_yes e ⟨h1, h2⟩⟩
    rintro _ _ ⟨rfl, rfl, hn⟩
    rw [hn] at k1 k0
    simp only [eb_ok] at k1 k0
    have I2 := I.nx e
    simp -dsimp [-sIf_run, fld_ref (RH_rd h), lookN, cls_ref (RH_cu h), skip_ok (RH_cu h)]
    have h := RH_nx h
    simp -dsimp [-sIf_run, cls_ref (RH_rd h)]
    refine whole_wp h I2 (fun p hp t h I => ?_) fun e he t ht => k0 e (by rw [he]; rfl) t ht
    rw [hp] at k1 k0
    simp only [eb_ok] at k1 k0
    obtain ⟨x, S3⟩ := p
    simp only at h I k1 k0
    clear hp I2 hin hn
    simp -dsimp [-sIf_run, fld_ref (RH_rd h), lookN, cls_ref (RH_cu h), next_ok (RH_cu h)]
    have hc : S3.ws[S3.at']? = S3.cur := rfl
    rw [hc]
    have hL : ∀ n s, s[n]? = some (.lst (S3.js.map jM)) → isLs s (.ref n) = true := fun n s h => isLs_ref h
    have c1 : ∀ o, mLc true (miSeq (mFld 4 (mVar 0))) (tgName 4) mYes (mSl true (mVar 4) (mPart (mC (.int 1))) mNoPart) [4] [some (.ref A.n), some (.str w), some (.int x), some (woM o), none] t = .ok (.lst (S3.js.map fun j => prM j.spot)) t := fun o =>
      lc_allW (env := [some (.ref A.n), some (.str w), some (.int x), some (woM o), none]) (s := t) (f := jM) (ys := S3.js) (ok := fun t => t[A.a]? = some (.lst (S3.js.map jM))) (mi := miSeq (mFld 4 (mVar 0))) (g := tgName 4) (me := mSl true (mVar 4) (mPart (mC (.int 1))) mNoPart) (vs := [4]) (fun j => prM j.spot)
      (itF rfl (by simp) (fld_ref (RH_rd h)) (it_ref (RH_js h))) (fun y hy a => by simp -dsimp [-sIf_run, wipeM, jM, cut_loI, prM, J.spot]) (fun a => RH_js (h.more _)) (by have := I.jl; omega) (fun y _ a => pl_frz40 (enc_prM.pl12 trivial))
    refine WpS.cut (fun e t2 => Seal (t2 = t ∧ e = [some (.ref A.n), some (.str w), some (.int x), some (woM S3.cur), none] ∧ ∀ y, S3.cur.bind wholeOf = some y → (x, y) ∉ S3.js.map J.spot) ()) ?_ ?_
    · cases e3 : S3.cur with
      | none =>
        simp -dsimp [-sIf_run, wps_sif, woM]
        exact sl ⟨rfl, rfl, fun y hy => by cases hy⟩
      | some w2 =>
        have hw2 := I.wz w2 (cur_mem e3)
        have c1' := c1 (some w2)
        simp -dsimp [-sIf_run, wps_sif, woM, whole_ok hw2]
        simp only [woM] at c1'
        rw [c1']
        simp -dsimp [-sIf_run, wps_sif, in_spots, fld_ref (RH_rd h), lookN, cls_ref (RH_cu h)]
        refine ⟨fun y hy j hj hs => refuse_wp (RH_cu h) (at5 I) (k0 _ ?_ _ (RH_L h)), fun hn => sl ⟨rfl, rfl, fun y hy hm => ?_⟩⟩
        · have : (x, y) ∈ S3.js.map J.spot := List.mem_map.mpr ⟨j, hj, hs⟩
          unfold rY
          rw [e3, Option.bind_some, hy]
          simp only [if_pos this]; rfl
        · obtain ⟨j, hj, hs⟩ := List.mem_map.mp hm
          exact hn y hy j hj hs
    rintro _ t2 ⟨e4, rfl, hy⟩
    subst e4
    simp -dsimp [-sIf_run, fld_ref (RH_rd h), lookN, cls_ref (RH_rd h), hL A.a _ (RH_js h)]
    refine whole_wp h I (fun p hp t h I => ?_) fun e he t ht => k0 e (by unfold rY; unfold rWhole at he; split at he <;> simp_all) t ht
    have hY : rY S3 x = .ok p := by
      obtain ⟨w3, g1, g2, g3⟩ := whole_okS hp
      have := hy p.1 (by rw [g1]; exact g2)
      unfold rY
      rw [g1, Option.bind_some, g2]
      simp only [if_neg this, ← g3]
    rw [hY] at k1
    simp only [eb_ok] at k1
    have hlen : (p.2.js.map jM).length < 100000 := by have := I.jl; simp; omega
    have hap := append_ref (y := .tup [.str w, .int x, .int p.1]) (RH_js h) hlen
    simp -dsimp [-sIf_run, hap]
    exact k1 _ rfl _ (RH_addJ (j := ⟨w, x, p.1⟩) h)
theorem rod_wp (h : Has st (RH A S L)) (I : RInv S) (k1 : ∀ S', rRod S = .ok S' → ∀ t, Has t (RH A S' L) → Q .non t) (k0 : Bad L X (rRod S)) : Wp Q X (m_Reader_rod [.ref A.n] st) := by
  unfold m_Reader_rod
  simp -dsimp [-sIf_run, fld_ref (RH_rd h), lookN, cls_ref (RH_cu h)]
  refine takeR_wp (gs := [("rod" : Str)]) h I (fun p hp t h I => ?_) fun e he t ht => k0 e (by unfold rRod; rw [he]; rfl) t ht
  unfold rRod at k1 k0
  rw [hp] at k1 k0
  simp only [eb_ok] at k1 k0
  clear hp
  obtain ⟨_, S⟩ := p
  simp only at h I k1 k0
  simp -dsimp [-sIf_run, fld_ref (RH_rd h), lookN, cls_ref (RH_rd h), starts_ok h I]
  have hj := I.jl
  refine one_wp h I (fun g hg => (mem_starts.mp hg).2.1) (by
    have : S.starts.length ≤ S.js.length := by
      unfold RS.starts
      split
      · simp
      · exact Nat.le_trans (List.length_filter_le ..) (by simp)
    omega) (fun p hp t h I2 => ?_) fun e he t ht => k0 e (by rw [he]; rfl) t ht
  rw [hp] at k1 k0
  simp only [eb_ok] at k1 k0
  obtain ⟨w2, g1, g2, g3, g4⟩ := one_okS hp
  have hlt : p.1 < S.js.length := by
    have := (one_mem I.nd (fun g hg => (mem_starts.mp hg).2.1) g2).1
    rw [← g3] at this
    exact (mem_starts.mp this).2.1
  rw [g4] at h I2 k1 k0
  clear I
  have I := I2
  clear hp g3 g4
  obtain ⟨a, S3'⟩ := p
  simp only at h I k1 k0 hlt
  have hlt : a < S.nx.js.length := hlt
  generalize S.nx = S3 at h I k1 k0 hlt
  have hj3 := I.jl
  simp -dsimp [-sIf_run, fld_ref (RH_rd h), lookN, cls_ref (RH_rd h), openE_ok h I (show a ≤ 1000 by omega)]
  refine one_wp h I (fun g hg => (mem_openE.mp hg).2.1) (by
    have : (S3.openE a).length ≤ S3.js.length := by
      unfold RS.openE
      rw [List.length_map]
      exact Nat.le_trans (List.length_filter_le ..) (by simp)
    omega) (fun p hp t h I => ?_) fun e he t ht => k0 e (by rw [he]; rfl) t ht
  rw [hp] at k1 k0
  simp only [eb_ok] at k1 k0
  clear hp
  obtain ⟨b, S4⟩ := p
  simp only at h I k1 k0
  simp -dsimp [-sIf_run, fld_ref (RH_rd h), lookN, cls_ref (RH_rd h)]
  refine str_wp h I (fun p hp t h I => ?_) fun e he t ht => k0 e (by rw [he]; rfl) t ht
  rw [hp] at k1 k0
  simp only [eb_ok] at k1 k0
  clear hp
  obtain ⟨c, S5⟩ := p
  simp only at h I k1 k0
  simp -dsimp [-sIf_run, fld_ref (RH_rd h), lookN, cls_ref (RH_rd h), isLs_ref (RH_rs h)]
  refine str_wp h I (fun p hp t h I => ?_) fun e he t ht => k0 e (by rw [he]; rfl) t ht
  rw [hp] at k1 k0
  simp only [eb_ok] at k1 k0
  clear hp
  obtain ⟨d, S6⟩ := p
  simp only at h I k1 k0
  have hlen : (S6.rs.map rM).length < 100000 := by have := I.rl; simp; omega
  have hap := append_ref (y := .tup [.int (a : Nat), .int (b : Nat), oM c, oM d]) (RH_rs h) hlen
  simp -dsimp [-sIf_run, hap]
  exact k1 _ rfl _ (RH_addR (r := ⟨(a : Nat), (b : Nat), c, d⟩) h)
theorem gidx_ax {s : Sto} {a : Nat} (ha : a = 0 ∨ a = 1) : gIdx [("x" : Str), ("y" : Str)] (.str (axW a)) s = .ok (.int (axI (axW a))) s := by
  rcases ha with rfl | rfl
  · rfl
  · rfl
theorem ix_axes {s : Sto} {a : Nat} (ha : a = 0 ∨ a = 1) : ixF s (.tup (gc_AXES.map Gc.m)) (.int a) = some (.str (axW a)) := by
  rcases ha with rfl | rfl
  · rfl
  · rfl
theorem hold_wp (h : Has st (RH A S L)) (I : RInv S) (k1 : ∀ S', rHold S = .ok S' → ∀ t, Has t (RH A S' L) → Q .non t) (k0 : Bad L X (rHold S)) : Wp Q X (m_Reader_hold [.ref A.n] st) := by
  unfold m_Reader_hold
  simp -dsimp [-sIf_run, fld_ref (RH_rd h), lookN, cls_ref (RH_cu h)]
  refine takeR_wp (gs := [("hold" : Str)]) h I (fun p hp t h I => ?_) fun e he t ht => k0 e (by unfold rHold; rw [he]; rfl) t ht
  unfold rHold at k1 k0
  rw [hp] at k1 k0
  simp only [eb_ok] at k1 k0
  clear hp
  obtain ⟨_, S⟩ := p
  simp only at h I k1 k0
  simp -dsimp [-sIf_run, fld_ref (RH_rd h), lookN, cls_ref (RH_rd h), loose_ok h I]
  have hj := I.jl
  refine one_wp h I (fun g hg => (mem_loose.mp hg).1) (by
    have : S.loose.length ≤ S.js.length := Nat.le_trans (List.length_filter_le ..) (by simp)
    omega) (fun p hp t h I => ?_) fun e he t ht => k0 e (by rw [he]; rfl) t ht
  rw [hp] at k1 k0
  simp only [eb_ok] at k1 k0
  clear hp
  obtain ⟨a, S3⟩ := p
  simp only at h I k1 k0
  simp -dsimp [-sIf_run, fld_ref (RH_rd h), lookN, cls_ref (RH_cu h)]
  have c := lc_allW (env := [some (.ref A.n), some (.int (a : Nat)), none]) (s := t) (f := fun g : Nat => MV.int g) (ys := S3.openA a) (ok := fun _ => True) (mi := miSeq (mMeth [(23, m_Reader_open_axes)] (mVar 0) (mCons (mVar 1) mNil))) (g := tgName 2) (me := mIx (mC (.tup (gc_AXES.map Gc.m))) (mVar 2)) (vs := [2]) (fun g => .str (axW g))
    (by
      have q : Wp (fun v t' => v = ⟨(S3.openA a).map fun g : Nat => MV.int g, fun _ => True⟩ ∧ t' = t) noX (miSeq (mMeth [(23, m_Reader_open_axes)] (mVar 0) (mCons (mVar 1) mNil)) [some (.ref A.n), some (.int (a : Nat)), none] t) := by
        simp -dsimp [-sIf_run, cls_ref (RH_rd h), openA_ok h]
      obtain ⟨v, t', e, rfl, rfl⟩ := q.out
      exact e) (fun y hy b => by
      have e := ix_axes (s := t ++ [.lst b]) (mem_openA.mp hy).1
      simp -dsimp [-sIf_run, wipeM, e]) (fun a => trivial) (by
      have : (S3.openA a).length ≤ 2 := List.length_filter_le ..
      omega) (fun y _ a => rfl)
  rw [c]
  have e3 : ((S3.openA a).map fun g => MV.str (axW g)) = ((S3.openA a).map axW).map .str := by rw [List.map_map]; rfl
  rw [e3]
  obtain ⟨ns, hns⟩ : ∃ ns, (S3.openA a).map axW = ns := ⟨_, rfl⟩
  rw [hns] at k1 k0 ⊢
  simp -dsimp [-sIf_run]
  refine takeR_wp h I (fun p hp t h I => ?_) fun e he t ht => k0 e (by rw [he]; rfl) t ht
  rw [hp] at k1 k0
  simp only [eb_ok] at k1 k0
  obtain ⟨_, hm, _⟩ := take_ok hp
  rw [← hns] at hm
  obtain ⟨x, hx, hw⟩ := List.mem_map.mp hm
  have hx1 := (mem_openA.mp hx).1
  clear hp hm
  obtain ⟨w, S4⟩ := p
  simp only at h I k1 k0 hw
  subst hw
  have hlen : (S4.hs.map prM).length < 100000 := by
    have h1 := I.hd
    have : S4.hs.length ≤ 26 := hs_few I
    simp; omega
  have hap := append_ref (y := .tup [.int (a : Nat), .int (axI (axW x))]) (RH_hs h) hlen
  simp -dsimp [-sIf_run, fld_ref (RH_rd h), lookN, isLs_ref (RH_hs h), mGidx, M.bnd, gidx_ax hx1, hap]
  exact k1 _ rfl _ (RH_addH (p := ((a : Nat), axI (axW x))) h)
end
end K04

namespace K04
open PySem L2 Z
/-! ### read_frame -/
def wordsOf (text : Str) : List Str := if text = ("" : Str) then [] else Txt.split text (" " : Str)
section
variable {st : Sto} {L : Heapy} {Q : MV → Sto → Prop} {X : Nat → List (Nat × MV) → Sto → Prop}
theorem words_ok {text : Str} (hl : text.length ≤ 90000) : m_words_of [.str text] st = .ok (.lst ((wordsOf text).map .str)) st := by
  have q : Wp (fun v t => v = .lst ((wordsOf text).map .str) ∧ t = st) noX (m_words_of [.str text] st) := by
    unfold m_words_of
    have hS : isSt st (.str text) = true := rfl
    have hsp : fSplit true (.str text) [.str (" " : Str)] st = .ok (.lst ((Txt.split text (" " : Str)).map .str)) st := by
      show (if ((" " : Str).length == 0) = false ∧ text.length + 2 ≤ line then mkList true ((Txt.split text (" " : Str)).map .str) else fun _ => .bad) st = _
      rw [if_pos ⟨by decide +kernel, by show text.length + 2 ≤ 100000; omega⟩]; rfl
    simp -dsimp [-sIf_run, wps_sif, hS, hsp]
    unfold wordsOf
    exact ⟨fun h => by rw [if_pos h], fun h => by rw [if_neg h]⟩
  obtain ⟨v, t, e, rfl, rfl⟩ := q.out
  exact e
theorem fo23 : fieldsOf 23 = [8, 4, 5, 6] := by decide
theorem set_mid {c f : Nat} {fs : List (Nat × MV)} {v : MV} {e : Sto} (h : f ∈ fieldsOf c) (hl : fs.length < 40) : setFld f (.ref st.length) v (st ++ .ins c fs :: e) = some (st ++ .ins c (putN f v fs) :: e) := by
  simp [setFld, h, hl]
def adOf (n : Nat) : Ad := ⟨n + 1, n, n + 2, n + 3, n + 4⟩
theorem reader_wp {text : Str} (h : Has st L) (hl : text.length ≤ 90000) (k : ∀ t, Has t (RH (adOf st.length) ⟨wordsOf text, 0, [], [], []⟩ L) → Q (.ref st.length) t) : Wp Q X (newC 23 m_Reader___init__ [.str text] st) := by
  refine wp_new ?_
  unfold m_Reader___init__
  simp -dsimp [-sIf_run, words_ok hl]
  refine wp_new ?_
  unfold m_Cursor___init__
  have s1 : ∀ v, setFld 7 (.ref (st.length + 1)) v (st ++ [.ins 23 [], .ins 22 []]) = some (st ++ [.ins 23 [], .ins 22 [(7, v)]]) := fun v => by simp [setFld, fo22, putN]
  have s2 : ∀ v w, setFld 0 (.ref (st.length + 1)) v (st ++ [.ins 23 [], .ins 22 [(7, w)]]) = some (st ++ [.ins 23 [], .ins 22 [(7, w), (0, v)]]) := fun v w => by simp [setFld, fo22, putN]
  simp -dsimp [-sIf_run, s1, s2, set_mid, fo23, putN]
  refine k _ ?_
  have h1 := (h.push (C := RdC (adOf st.length)) (c := .ins 23 [(8, .ref (st.length + 1)), (4, .ref (st.length + 2)), (5, .ref (st.length + 3)), (6, .ref (st.length + 4))]) rfl)
  have h2 := h1.push (C := CurC (wordsOf text) 0) (c := .ins 22 [(7, .lst ((wordsOf text).map .str)), (0, .int (0 : Nat))]) rfl
  have h3 := ((h2.push (C := Ls []) (c := .lst []) rfl).push (C := Ls []) (c := .lst []) rfl).push (C := Ls []) (c := .lst []) rfl
  simp only [List.append_assoc, List.length_append, List.length_cons, List.length_nil, List.cons_append, List.nil_append] at h3
  refine ⟨?_, fun p hp => h3.all p ?_⟩
  · have h4 := h3.nd
    simp only [List.map_cons, List.nodup_cons, List.mem_cons, not_or, adOf] at h4 ⊢
    obtain ⟨⟨a1, a2, a3, a4, a5⟩, ⟨b1, b2, b3, b4⟩, ⟨c1, c2, c3⟩, ⟨d1, d2⟩, e1, e2⟩ := h4
    exact ⟨⟨by omega, by omega, by omega, by omega, d2⟩, ⟨by omega, by omega, by omega, e1⟩, ⟨by omega, by omega, c3⟩, ⟨by omega, b4⟩, a5, e2⟩
  · simp only [List.mem_cons, adOf] at hp ⊢
    rcases hp with h | h | h | h | h | h
    · exact .inr (.inr (.inr (.inl h)))
    · exact .inr (.inr (.inr (.inr (.inl h))))
    · exact .inr (.inr (.inl h))
    · exact .inr (.inl h)
    · exact .inl h
    · exact .inr (.inr (.inr (.inr (.inr h))))
/-! the loops -/
theorem loop_no {kw : Str} {ok : RS → Bool} {step : RS → Except Nat RS} {S : RS} (h : ¬ (S.cur = some kw ∧ ok S = true)) : ∀ n, loopR kw ok step n S = .ok S
  | 0 => rfl
  | n + 1 => by unfold loopR; rw [if_neg h]
theorem loop_yes {kw : Str} {ok : RS → Bool} {step : RS → Except Nat RS} {S : RS} {n : Nat} (h : S.cur = some kw ∧ ok S = true) : loopR kw ok step (n + 1) S = (step S).bind (loopR kw ok step n) := by
  rw [loopR, if_pos h]
theorem dueF_of {S : RS} (I : RInv S) (h : 1 ≤ S.js.length) : dueF ⟨S.js, S.rs, S.hs⟩ = none := by
  have h1 := I.jl
  have h2 := I.rl
  rw [dueF, dueJ_none ⟨h, by omega⟩ I.jn I.nd I.sd]
  have d2 : dueR S.js.length S.rs = none := by
    rw [dueR, if_neg]
    rintro (h | h | ⟨r, hr, hb⟩)
    · omega
    · exact h I.rd
    · obtain ⟨q1, q2, q3, q4, q5⟩ := I.ro r hr
      have w : ∀ o : Option Int, lowI o → weak o = false := fun o ho => by
        cases o with
        | none => rfl
        | some v =>
          have := ho v rfl
          simp [weak]; omega
      rcases hb with hb | hb | hb
      · exact hb ⟨q1, q2, q3⟩
      · rw [w _ q4] at hb; cases hb
      · rw [w _ q5] at hb; cases hb
  have d3 : dueH S.js.length S.hs = none := by
    rw [dueH, if_neg]
    rintro (⟨r, hr, hb⟩ | h)
    · obtain ⟨q1, q2, q3⟩ := I.ho r hr
      rcases hb with hb | hb
      · exact hb ⟨q1, q2⟩
      · exact hb q3
    · exact h I.hd
  simp only [d2, d3]; rfl
theorem joint_some {S S' : RS} (h : rJoint S = .ok S') : 1 ≤ S'.js.length := by
  obtain ⟨p, _, h⟩ := eb_eq_ok h
  obtain ⟨p, _, h⟩ := eb_eq_ok h
  obtain ⟨p, _, h⟩ := eb_eq_ok h
  obtain ⟨p, _, h⟩ := eb_eq_ok h
  cases h
  simp [addJ]
theorem rod_js {S S' : RS} (h : rRod S = .ok S') : S'.js = S.js := by
  obtain ⟨_, a1, h⟩ := eb_eq_ok h
  obtain ⟨_, a2, h⟩ := eb_eq_ok h
  obtain ⟨_, a3, h⟩ := eb_eq_ok h
  obtain ⟨_, a4, h⟩ := eb_eq_ok h
  obtain ⟨_, a5, h⟩ := eb_eq_ok h
  cases h
  obtain ⟨_, _, _, _, e2⟩ := one_okS a2
  obtain ⟨_, _, _, _, e3⟩ := one_okS a3
  obtain ⟨_, _, e4, _⟩ := str_okS a4
  obtain ⟨_, _, e5, _⟩ := str_okS a5
  show _ = _
  rw [show ∀ S r, (addR S r).js = S.js from fun _ _ => rfl, e5, show ∀ S : RS, S.nx.js = S.js from fun _ => rfl, e4, show ∀ S : RS, S.nx.js = S.js from fun _ => rfl, e3, show ∀ S : RS, S.nx.js = S.js from fun _ => rfl, e2, show ∀ S : RS, S.nx.js = S.js from fun _ => rfl, (take_ok a1).2.2]; rfl
theorem hold_js {S S' : RS} (h : rHold S = .ok S') : S'.js = S.js := by
  obtain ⟨_, a1, h⟩ := eb_eq_ok h
  obtain ⟨_, a2, h⟩ := eb_eq_ok h
  obtain ⟨_, a3, h⟩ := eb_eq_ok h
  cases h
  obtain ⟨_, _, _, _, e2⟩ := one_okS a2
  rw [show ∀ S r, (addH S r).js = S.js from fun _ _ => rfl, (take_ok a3).2.2, show ∀ S : RS, S.nx.js = S.js from fun _ => rfl, e2, show ∀ S : RS, S.nx.js = S.js from fun _ => rfl, (take_ok a1).2.2]; rfl
theorem sok_low : ∀ {cs : List Nat}, (∀ c ∈ cs, c < 1000) → sok (wd cs) = true := fun {cs} h => by
  simp only [sok, PyData.canLay0, PyData.strOk, wd, List.all_toArray, List.all_eq_true]
  intro c hc
  have := h c hc
  simp; omega
theorem sok_nm {w : Str} (h : isNm w = true) : sok w = true ∧ w.length ≤ 100 := by
  unfold isNm at h
  obtain ⟨h1, h2⟩ := Bool.and_eq_true_iff.mp h
  have h1 := of_decide_eq_true h1
  refine ⟨?_, by omega⟩
  rw [wd_eta w]
  refine sok_low fun c hc => ?_
  have := of_decide_eq_true (List.all_eq_true.mp h2 c hc)
  omega
theorem rows_ref {α : Type} {st : Sto} {f : α → MV} {ys : List α} {n : Nat} (hs : st[n]? = some (.lst (ys.map f))) (h : ∀ y ∈ ys, ∃ xs, f y = .tup xs) : RowsA st (.ref n) f ys := by
  refine ⟨by simp, ys.map fun y => (f y, y), fun t => t[n]? = some (.lst (ys.map f)), by simp [Function.comp_def], fun e => ?_, fun e => ?_, fun z hz => ?_⟩
  · rw [it_ref (xs := ys.map f) (by rw [List.getElem?_append_left (List.getElem?_eq_some_iff.mp hs).1]; exact hs)]
    simp [Function.comp_def]
  · show (st ++ e)[n]? = _
    rw [List.getElem?_append_left (List.getElem?_eq_some_iff.mp hs).1]; exact hs
  · obtain ⟨y, hy, rfl⟩ := List.mem_map.mp hz
    obtain ⟨xs, e⟩ := h y hy
    refine ⟨by rw [e]; simp, fun s => ?_⟩
    show fTuple _ [f y] = some (f y)
    rw [e]; rfl
theorem read_wp {text : Str} (h : Has st L) (hl : text.length ≤ 90000) (hw : (wordsOf text).length ≤ 5000) (hz : ∀ w ∈ wordsOf text, w.length ≤ 1000) (k1 : ∀ S, rRead (wordsOf text) = .ok S → RInv S → 1 ≤ S.js.length → ∀ t, Has t L → Q (fmI ⟨S.js, S.rs, S.hs⟩) t) (k0 : Bad L X (rRead (wordsOf text))) : Wp Q X (m_read_frame [.str text] st) := by
  unfold m_read_frame
  simp -dsimp [-sIf_run]
  refine reader_wp h hl fun t h => ?_
  generalize hA : adOf st.length = A at h
  have hn : st.length = A.n := by rw [← hA]; rfl
  rw [hn]
  clear hA hn
  generalize hws : wordsOf text = ws at h k1 k0 hw hz
  have I0 : RInv ⟨ws, 0, [], [], []⟩ := ⟨hw, hz, Nat.zero_le _, by simp, by simp, by simp, by simp [RS.names], by simp, by simp, by simp, by simp, by simp, by simp⟩
  unfold rRead at k1 k0
  generalize hS0 : (⟨ws, 0, [], [], []⟩ : RS) = S at h I0 k1 k0
  have hws0 : S.ws = ws := by rw [← hS0]
  have hj0 : S.js.length < 12 := by rw [← hS0]; simp
  clear hS0
  simp -dsimp [-sIf_run, cls_ref (RH_rd h)]
  refine joint_wp h I0 (fun S1 e1 t h => ?_) fun e he t ht => k0 e (by rw [he]; rfl) t ht
  have hs1 := joint_some e1
  obtain ⟨I, _, hws1⟩ := joint_okS I0 hj0 e1
  rw [e1] at k1 k0
  simp only [eb_ok] at k1 k0
  rw [hws0] at hws1
  clear hws0 hj0 I0 e1
  simp -dsimp [-sIf_run]
  -- joint
  generalize hR : loopR ("joint" : Str) okJ rJoint (ws.length + 1) S1 = R at k1 k0
  refine WpS.cut (fun e t => Seal (∃ S, Has t (RH A S L) ∧ RInv S ∧ 1 ≤ S.js.length ∧ S.ws = ws ∧ R = .ok S ∧ e = [some (.str text), some (.ref A.n)]) ()) ?_ ?_
  · refine wp_while (fun m e t => Seal (∃ S, Has t (RH A S L) ∧ RInv S ∧ 1 ≤ S.js.length ∧ S.ws = ws ∧ ws.length < m + S.at' ∧ loopR ("joint" : Str) okJ rJoint m S = R ∧ e = [some (.str text), some (.ref A.n)]) ()) (ws.length + 1) ⟨S1, h, I, hs1, hws1, by omega, hR, rfl⟩ ?_
    rintro m _ t ⟨S, h, I, hs, hw1, hm, hR, rfl⟩
    have hc : S.ws[S.at']? = S.cur := rfl
    have hq : cEq t (woM S.cur) (.str ("joint" : Str)) = some (decide (S.cur = some ("joint" : Str))) := by
      cases e : S.cur with
      | none => rfl
      | some w => show some (w == ("joint" : Str)) = _; by_cases hh : w = ("joint" : Str) <;> simp [hh]
    have hlj : fLen t [.ref A.a] = some (.int S.js.length) := by
      rw [len_ref (RH_js h)]; simp
    simp -dsimp [-sIf_run, fld_ref (RH_rd h), lookN, cls_ref (RH_cu h), next_ok (RH_cu h), hc, hq, hlj]
    refine ⟨fun c1 => ⟨fun c2 => ?_, fun c2 => ?_⟩, fun c => ?_⟩
    · have c3 : okJ S = true := decide_eq_true (by omega)
      have hlt := cur_lt c1
      rw [hw1] at hlt
      cases m with
      | zero => omega
      | succ m =>
        rw [loop_yes ⟨c1, c3⟩] at hR
        simp -dsimp [-sIf_run, cls_ref (RH_rd h)]
        refine joint_wp h I (fun S' e1 t h => ?_) fun e he t ht => k0 e (by rw [← hR, he]; rfl) t ht
        simp -dsimp [-sIf_run]
        rw [e1] at hR
        simp only [eb_ok] at hR
        obtain ⟨I', a1, a2⟩ := joint_okS I (of_decide_eq_true c3) e1
        exact ⟨m, by omega, sl ⟨S', h, I', joint_some e1, by rw [a2]; exact hw1, by omega, hR, rfl⟩⟩
    · exact sl ⟨S, h, I, hs, hw1, by rw [← hR, loop_no (fun z => by simp [okJ] at z; omega)], rfl⟩
    · exact sl ⟨S, h, I, hs, hw1, by rw [← hR, loop_no (fun z => c z.1)], rfl⟩
  clear hs1 I hws1
  rintro _ t ⟨S2, h, I, hs1, hws1, rfl, rfl⟩
  simp only [eb_ok] at k1 k0
  clear hR
  simp -dsimp [-sIf_run]
  -- rod
  generalize hR : loopR ("rod" : Str) okR rRod (ws.length + 1) S2 = R at k1 k0
  refine WpS.cut (fun e t => Seal (∃ S, Has t (RH A S L) ∧ RInv S ∧ 1 ≤ S.js.length ∧ S.ws = ws ∧ R = .ok S ∧ e = [some (.str text), some (.ref A.n)]) ()) ?_ ?_
  · refine wp_while (fun m e t => Seal (∃ S, Has t (RH A S L) ∧ RInv S ∧ 1 ≤ S.js.length ∧ S.ws = ws ∧ ws.length < m + S.at' ∧ loopR ("rod" : Str) okR rRod m S = R ∧ e = [some (.str text), some (.ref A.n)]) ()) (ws.length + 1) ⟨S2, h, I, hs1, hws1, by omega, hR, rfl⟩ ?_
    rintro m _ t ⟨S, h, I, hs, hw1, hm, hR, rfl⟩
    have hc : S.ws[S.at']? = S.cur := rfl
    have hq : cEq t (woM S.cur) (.str ("rod" : Str)) = some (decide (S.cur = some ("rod" : Str))) := by
      cases e : S.cur with
      | none => rfl
      | some w => show some (w == ("rod" : Str)) = _; by_cases hh : w = ("rod" : Str) <;> simp [hh]
    have ht : truOf t (.lst (S.starts.map fun k : Nat => .int k)) = some (decide (S.starts ≠ [])) := by
      cases e : S.starts <;> simp [truOf]
    simp -dsimp [-sIf_run, fld_ref (RH_rd h), lookN, cls_ref (RH_cu h), next_ok (RH_cu h), hc, hq, cls_ref (RH_rd h), starts_ok h I, ht]
    refine ⟨fun c1 => ⟨fun c2 => ?_, fun c2 => ?_⟩, fun c => ?_⟩
    · have c3 : okR S = true := by unfold okR; exact decide_eq_true c2
      have hlt := cur_lt c1
      rw [hw1] at hlt
      cases m with
      | zero => omega
      | succ m =>
        rw [loop_yes ⟨c1, c3⟩] at hR
        refine rod_wp h I (fun S' e1 t h => ?_) fun e he t ht => k0 e (by rw [← hR, he]; rfl) t ht
        simp -dsimp [-sIf_run]
        rw [e1] at hR
        simp only [eb_ok] at hR
        obtain ⟨I', a1, a2⟩ := rod_okS I e1
        exact ⟨m, by omega, sl ⟨S', h, I', by rw [rod_js e1]; exact hs, by rw [a2]; exact hw1, by omega, hR, rfl⟩⟩
    · exact sl ⟨S, h, I, hs, hw1, by rw [← hR, loop_no (fun z => by have := z.2; unfold okR at this; exact of_decide_eq_true this c2)], rfl⟩
    · exact sl ⟨S, h, I, hs, hw1, by rw [← hR, loop_no (fun z => c z.1)], rfl⟩
  clear hs1 I hws1
  rintro _ t ⟨S3, h, I, hs1, hws1, rfl, rfl⟩
  simp only [eb_ok] at k1 k0
  clear hR
  simp -dsimp [-sIf_run]
  -- hold
  generalize hR : loopR ("hold" : Str) okH rHold (ws.length + 1) S3 = R at k1 k0
  refine WpS.cut (fun e t => Seal (∃ S, Has t (RH A S L) ∧ RInv S ∧ 1 ≤ S.js.length ∧ S.ws = ws ∧ R = .ok S ∧ e = [some (.str text), some (.ref A.n)]) ()) ?_ ?_
  · refine wp_while (fun m e t => Seal (∃ S, Has t (RH A S L) ∧ RInv S ∧ 1 ≤ S.js.length ∧ S.ws = ws ∧ ws.length < m + S.at' ∧ loopR ("hold" : Str) okH rHold m S = R ∧ e = [some (.str text), some (.ref A.n)]) ()) (ws.length + 1) ⟨S3, h, I, hs1, hws1, by omega, hR, rfl⟩ ?_
    rintro m _ t ⟨S, h, I, hs, hw1, hm, hR, rfl⟩
    have hc : S.ws[S.at']? = S.cur := rfl
    have hq : cEq t (woM S.cur) (.str ("hold" : Str)) = some (decide (S.cur = some ("hold" : Str))) := by
      cases e : S.cur with
      | none => rfl
      | some w => show some (w == ("hold" : Str)) = _; by_cases hh : w = ("hold" : Str) <;> simp [hh]
    have ht : truOf t (.lst (S.loose.map fun k : Nat => .int k)) = some (decide (S.loose ≠ [])) := by
      cases e : S.loose <;> simp [truOf]
    simp -dsimp [-sIf_run, fld_ref (RH_rd h), lookN, cls_ref (RH_cu h), next_ok (RH_cu h), hc, hq, cls_ref (RH_rd h), loose_ok h I, ht]
    refine ⟨fun c1 => ⟨fun c2 => ?_, fun c2 => ?_⟩, fun c => ?_⟩
    · have c3 : okH S = true := by unfold okH; exact decide_eq_true c2
      have hlt := cur_lt c1
      rw [hw1] at hlt
      cases m with
      | zero => omega
      | succ m =>
        rw [loop_yes ⟨c1, c3⟩] at hR
        refine hold_wp h I (fun S' e1 t h => ?_) fun e he t ht => k0 e (by rw [← hR, he]; rfl) t ht
        simp -dsimp [-sIf_run]
        rw [e1] at hR
        simp only [eb_ok] at hR
        obtain ⟨I', a1, a2⟩ := hold_okS I e1
        exact ⟨m, by omega, sl ⟨S', h, I', by rw [hold_js e1]; exact hs, by rw [a2]; exact hw1, by omega, hR, rfl⟩⟩
    · exact sl ⟨S, h, I, hs, hw1, by rw [← hR, loop_no (fun z => by have := z.2; unfold okH at this; exact of_decide_eq_true this c2)], rfl⟩
    · exact sl ⟨S, h, I, hs, hw1, by rw [← hR, loop_no (fun z => c z.1)], rfl⟩
  clear hs1 I hws1
  rintro _ t ⟨S4, h, I, hs1, hws1, rfl, rfl⟩
  simp only [eb_ok] at k1 k0
  clear hR
  simp -dsimp [-sIf_run]
  simp -dsimp [-sIf_run, wps_sif, fld_ref (RH_rd h), lookN, cls_ref (RH_cu h), ended_ok (RH_cu h)]
  refine ⟨fun c => ?_, fun c => ?_⟩
  · refine refuse_wp (RH_cu h) (at5 I) (k0 _ (by rw [if_neg (by rw [← hws1]; omega)]) _ (RH_L h))
  · rw [if_pos (by rw [← hws1]; exact c)] at k1
    have d := dueF_of I hs1
    have hj := I.jl
    have hr := I.rl
    have hh := hs_few I
    refine frame_made (f := ⟨S4.js, S4.rs, S4.hs⟩) (rows_ref (RH_js h) fun y _ => ⟨_, rfl⟩) (rows_ref (RH_rs h) fun y _ => ⟨_, rfl⟩) (rows_ref (RH_hs h) fun y _ => ⟨_, rfl⟩) (fun j hj => sok_nm (I.jn j hj)) (by show S4.js.length ≤ 1000; omega) (by show S4.rs.length ≤ 1000; omega) (by show S4.hs.length ≤ 1000; omega) (fun _ => ?_) (fun w d' => by rw [d] at d'; cases d')
    exact k1 S4 rfl I hs1 t (RH_L h)
end
end K04

namespace K04
open PySem L2 Z
/-! ### texts of frames -/
def txt (f : Fm) : Str := Txt.join (" " : Str) (fwords f)
theorem str_okI {st : Sto} {i : Int} (h : -10000 < i ∧ i < 10000) : strM [] [.int i] st = .ok (.str (iW i)) st := by
  have : i.natAbs.log2 < 1920 := by
    by_cases h0 : i.natAbs = 0
    · rw [h0]; decide
    · exact (Nat.log2_lt h0).mpr (Nat.lt_of_lt_of_le (by omega : i.natAbs < 2 ^ 14) (Nat.pow_le_pow_right (n := 2) (i := 14) (j := 1920) (by decide) (by decide)))
  show (if i.natAbs.log2 < 1920 then R.ok (MV.str (toString i)) st else .bad) = _
  rw [if_pos this]; rfl
theorem iW_len1 : ∀ n < 1000, (iW (n : Nat)).length ≤ 8 := by decide +kernel
theorem iW_len2 : ∀ n : Nat, n < 1000 → (iW (-(n : Int))).length ≤ 8 := by decide +kernel
theorem iW_len {i : Int} (h : -1000 < i ∧ i < 1000) : (iW i).length ≤ 8 := by
  by_cases h0 : 0 ≤ i
  · have := iW_len1 i.toNat (by omega)
    rwa [Int.toNat_of_nonneg h0] at this
  · have := iW_len2 (-i).toNat (by omega)
    rwa [Int.toNat_of_nonneg (by omega), Int.neg_neg] at this
theorem nm_len {w : Str} (h : isNm w = true) : w.length ≤ 8 := by
  unfold isNm at h
  exact (of_decide_eq_true (Bool.and_eq_true_iff.mp h).1).2.1
theorem stW_len {o : Option Int} (h : lowI o) : (stW o).length ≤ 8 := by
  cases o with
  | none => exact (by decide +kernel : ("any" : Str).length ≤ 8)
  | some v => have := h v rfl; exact iW_len ⟨by omega, by omega⟩
theorem axW_len {a : Nat} : (axW a).length ≤ 8 := by
  unfold axW
  split
  · decide +kernel
  · decide +kernel
theorem nmA_at {f : Fm} {i : Int} (h0 : 0 ≤ i) (h1 : i < f.js.length) : ∃ j ∈ f.js, f.js[i.toNat]? = some j ∧ nmA (f.js.map J.name) i = j.name := by
  obtain ⟨j, hj, mj⟩ := get_some (xs := f.js) (i := i.toNat) (by omega)
  exact ⟨j, mj, hj, by simp [nmA, hj]⟩
theorem fwords_len8 {f : Fm} (T : TF f) : ∀ w ∈ fwords f, w.length ≤ 8 := by
  intro w hw
  unfold fwords at hw
  have n0 : ∀ i : Int, 0 ≤ i → i < f.js.length → (nmA (f.js.map J.name) i).length ≤ 8 := fun i h0 h1 => by
    obtain ⟨j, hj, _, e⟩ := nmA_at h0 h1
    rw [e]; exact nm_len (T.jn j hj)
  rcases List.mem_append.mp hw with hw | hw
  · obtain ⟨j, hj, hw⟩ := List.mem_flatMap.mp hw
    have := T.jx j hj
    simp only [jw, List.mem_cons, List.not_mem_nil, or_false] at hw
    rcases hw with rfl | rfl | rfl | rfl
    · decide +kernel
    · exact nm_len (T.jn j hj)
    · exact iW_len ⟨by omega, by omega⟩
    · exact iW_len ⟨by omega, by omega⟩
  rcases List.mem_append.mp hw with hw | hw
  · obtain ⟨r, hr, hw⟩ := List.mem_flatMap.mp hw
    obtain ⟨a1, a2, a3, a4, a5⟩ := T.ro r hr
    simp only [rwd, List.mem_cons, List.not_mem_nil, or_false] at hw
    rcases hw with rfl | rfl | rfl | rfl | rfl
    · decide +kernel
    · exact n0 _ a1 (by omega)
    · exact n0 _ (by omega) a3
    · exact stW_len a4
    · exact stW_len a5
  · obtain ⟨r, hr, hw⟩ := List.mem_flatMap.mp hw
    obtain ⟨a1, a2, a3⟩ := T.ho r hr
    simp only [hwd, List.mem_cons, List.not_mem_nil, or_false] at hw
    rcases hw with rfl | rfl | rfl
    · decide +kernel
    · exact n0 _ a1 a2
    · exact axW_len
theorem sum_le {ws : List Str} {k : Nat} (h : ∀ w ∈ ws, w.length ≤ k) : (ws.map (·.length)).sum ≤ k * ws.length := by
  induction ws with
  | nil => simp
  | cons w ws ih =>
    have h1 := h w (.head _)
    have h2 := ih fun x hx => h x (.tail _ hx)
    simp only [List.map_cons, List.sum_cons, List.length_cons, Nat.mul_add]
    omega
theorem strsOf_map : ∀ ws : List Str, strsOf (ws.map .str) = some ws
  | [] => rfl
  | w :: ws => by show (strsOf (ws.map .str)).map (w :: ·) = _; rw [strsOf_map ws]; rfl
theorem join_ok {st : Sto} {y : MV} {ws : List Str} (e : seqOf st y = some (ws.map .str)) (h : ∀ w ∈ ws, w.length ≤ 1000) (hl : ws.length ≤ 5000) : fJoin (.str (" " : Str)) [y] st = .ok (.str (Txt.join (" " : Str) ws)) st := by
  have h1 := sum_le h
  have h2 : (" " : Str).length = 1 := by decide +kernel
  simp only [fJoin, e, strsOf_map]
  rw [if_pos (by rw [h2]; omega)]
theorem tf_hs {f : Fm} (T : TF f) : f.hs.length ≤ 26 := hs_few (S := ⟨[], 0, f.js, f.rs, f.hs⟩) ⟨by simp, by simp, Nat.zero_le _, T.jl, T.jn, T.jx, T.nd, T.sd, T.rl, T.rd, T.ro, T.hd, T.ho⟩
theorem fwords_few {f : Fm} (T : TF f) : (fwords f).length ≤ 300 := by
  rw [fwords_len]
  have := tf_hs T
  have := T.jl
  have := T.rl
  omega
theorem txt_len {f : Fm} (T : TF f) : (txt f).length ≤ 90000 := by
  have h1 : ∀ (ws : List Str), (∀ w ∈ ws, w.length ≤ 8) → (Str.join (" " : Str) ws).length ≤ 9 * ws.length := by
    intro ws
    induction ws with
    | nil => intro _; exact (by decide +kernel : (Str.join (" " : Str) []).length ≤ 9 * 0)
    | cons w ws ih =>
      intro h
      have a1 := h w (.head _)
      have a2 := ih fun x hx => h x (.tail _ hx)
      cases ws with
      | nil =>
        show w.length ≤ 9 * 1
        omega
      | cons v vs =>
        show (w ++ (" " : Str) ++ Str.join (" " : Str) (v :: vs)).length ≤ _
        rw [Str.length_append, Str.length_append, show (" " : Str).length = 1 by decide +kernel]
        simp only [List.length_cons] at a2 ⊢
        omega
  unfold txt
  rw [TL.join_eq]
  have := h1 _ (fwords_len8 T)
  have := fwords_few T
  omega
/-! ### frame_text -/
theorem extend_ref {s : Sto} {n : Nat} {xs ys : List MV} (h : s[n]? = some (.lst xs)) (hl : xs.length + ys.length ≤ 100000) : fExtend (.ref n) [.lst ys] s = .ok .non (s.set n (.lst (xs ++ ys))) := by
  have h1 : Z.listOf s (.lst ys) = some ys := rfl
  simp only [fExtend, h1, onLs, h]
  rw [if_pos (by exact hl)]
section
variable {st : Sto} {L : Heapy} {Q : MV → Sto → Prop} {X : Nat → List (Nat × MV) → Sto → Prop} {f : Fm}
theorem ext_s {s : Sto} {n : Nat} {A B : List Str} (h : s[n]? = some (.lst (A.map .str))) (hl : A.length + B.length ≤ 100000) : fExtend (.ref n) [.lst (B.map .str)] s = .ok .non (s.set n (.lst ((A ++ B).map .str))) := by
  rw [extend_ref h (by simpa using hl), List.map_append]
theorem stw_ok {o : Option Int} (h : lowI o) : m_strength_word [oM o] st = .ok (.str (stW o)) st := by
  have q : Wp (fun v t => v = .str (stW o) ∧ t = st) noX (m_strength_word [oM o] st) := by
    unfold m_strength_word
    cases o with
    | none => simp -dsimp [-sIf_run, wps_sif, oM, stW]
    | some v =>
      have := h v rfl
      simp -dsimp [-sIf_run, wps_sif, oM, stW, str_okI (st := st) (i := v) (by omega)]
  obtain ⟨v, t, e, rfl, rfl⟩ := q.out
  exact e
theorem ftext_wp (T : TF f) (h : Has st L) (k : ∀ t, Has t L → Q (.str (txt f)) t) : Wp Q X (m_frame_text [fmI f] st) := by
  have hjl := T.jl
  have hrl := T.rl
  have hhl := tf_hs T
  unfold m_frame_text
  simp -dsimp [-sIf_run]
  have h := h.push (c := .lst (([] : List Str).map .str)) (C := Ls (([] : List Str).map .str)) rfl
  simp only [List.map_nil] at h
  generalize st.length = w at h ⊢
  simp -dsimp [-sIf_run, fld4]
  refine wp_forM (f := jM) (fun d e t => Seal (∃ (A : List Str) (e2 e3 e4 : Option MV), A = d.flatMap jw ∧ Has t ((w, Ls (A.map .str)) :: L) ∧ e = [some (fmI f), some (.ref w), e2, e3, e4, none, none, none, none, none, none]) ()) ⟨[], _, _, _, rfl, h, rfl⟩ (fun _ _ _ _ => trivial) ?_ ?_
  · rintro d j rest _ t hd ⟨A, e2, e3, e4, hA, h, rfl⟩
    have hl2 := congrArg List.length hd
    simp at hl2
    have hAl : A.length = 4 * d.length := by rw [hA]; exact flat_len (k := 4) (fun _ => rfl) d
    have hj := T.jx j (by rw [hd]; simp)
    have hx := ext_s (h.ls (.head _)) (B := jw j) (by rw [hAl]; simp [jw]; omega)
    have hjw : (jw j).map MV.str = [.str ("joint" : Str), .str j.name, .str (iW j.x), .str (iW j.y)] := rfl
    rw [hjw] at hx
    simp -dsimp [-sIf_run, jM, str_okI (st := t) (i := j.x) (by omega), str_okI (st := t) (i := j.y) (by omega), isLs_ref (h.ls (.head _)), hx]
    exact sl ⟨A ++ jw j, some (.str j.name), some (.int j.x), some (.int j.y), by rw [hA, List.flatMap_append]; simp, h.upd0 (C' := Ls ((A ++ jw j).map .str)) (by simp), rfl⟩
  rintro _ t ⟨A, e2, e3, e4, hA, h, rfl⟩
  have hAl : A.length ≤ 50 := by rw [hA, flat_len (k := 4) (fun _ => rfl)]; omega
  simp -dsimp [-sIf_run, fld5]
  refine wp_forM (f := rM) (fun d e t' => Seal (∃ (B : List Str) (e5 e6 e7 e8 : Option MV), B = A ++ d.flatMap (rwd (f.js.map J.name)) ∧ Has t' ((w, Ls (B.map .str)) :: L) ∧ e = [some (fmI f), some (.ref w), e2, e3, e4, e5, e6, e7, e8, none, none]) ()) ⟨A, _, _, _, _, by simp, h, rfl⟩ (fun _ _ _ _ => trivial) ?_ ?_
  · rintro d r rest _ t' hd ⟨B, e5, e6, e7, e8, hB, h, rfl⟩
    have hl2 := congrArg List.length hd
    simp at hl2
    have hBl : B.length ≤ 50 + 5 * d.length := by rw [hB, List.length_append, flat_len (k := 5) (fun _ => rfl)]; omega
    obtain ⟨a1, a2, a3, a4, a5⟩ := T.ro r (by rw [hd]; simp)
    obtain ⟨j1, _, q1, q2⟩ := nmA_at (f := f) a1 (by omega)
    obtain ⟨j2, _, q3, q4⟩ := nmA_at (f := f) (i := r.j) (by omega) a3
    have ix1 : ixF t' (.tup (f.js.map jM)) (.int r.i) = some (jM j1) := by rw [Z.ix_tup, ix_m1 _ _ a1, List.getElem?_map, q1]; rfl
    have ix2 : ixF t' (.tup (f.js.map jM)) (.int r.j) = some (jM j2) := by rw [Z.ix_tup, ix_m1 _ _ (by omega), List.getElem?_map, q3]; rfl
    have ix0 : ∀ j : J, ixF t' (jM j) (.int 0) = some (.str j.name) := fun j => rfl
    have hx := ext_s (h.ls (.head _)) (B := [("rod" : Str), j1.name, j2.name, stW r.p, stW r.q]) (by simp; omega)
    simp only [List.map_cons, List.map_nil] at hx
    simp -dsimp [-sIf_run, rM, fld4, ix1, ix2, ix0, stw_ok a4, stw_ok a5, isLs_ref (h.ls (.head _)), hx]
    refine sl ⟨B ++ [("rod" : Str), j1.name, j2.name, stW r.p, stW r.q], some (.int r.i), some (.int r.j), some (oM r.p), some (oM r.q), ?_, h.upd0 (C' := Ls ((B ++ [("rod" : Str), j1.name, j2.name, stW r.p, stW r.q]).map .str)) (by simp), rfl⟩
    rw [hB, List.flatMap_append]
    simp [rwd, q2, q4]
  rintro _ t' ⟨B, e5, e6, e7, e8, hB, h, rfl⟩
  have hBl : B.length ≤ 200 := by rw [hB, List.length_append, flat_len (k := 5) (fun _ => rfl)]; omega
  simp -dsimp [-sIf_run, fld6]
  refine wp_forM (f := prM) (fun d e t => Seal (∃ (C : List Str) (e9 e10 : Option MV), C = B ++ d.flatMap (hwd (f.js.map J.name)) ∧ Has t ((w, Ls (C.map .str)) :: L) ∧ e = [some (fmI f), some (.ref w), e2, e3, e4, e5, e6, e7, e8, e9, e10]) ()) ⟨B, _, _, by simp, h, rfl⟩ (fun _ _ _ _ => trivial) ?_ ?_
  · rintro d p rest _ t hd ⟨C, e9, e10, hC, h, rfl⟩
    have hl2 := congrArg List.length hd
    simp at hl2
    have hCl : C.length ≤ 200 + 3 * d.length := by rw [hC, List.length_append, flat_len (k := 3) (fun _ => rfl)]; omega
    obtain ⟨a1, a2, a3⟩ := T.ho p (by rw [hd]; simp)
    obtain ⟨j1, _, q1, q2⟩ := nmA_at (f := f) a1 a2
    have ix1 : ixF t (.tup (f.js.map jM)) (.int p.1) = some (jM j1) := by rw [Z.ix_tup, ix_m1 _ _ a1, List.getElem?_map, q1]; rfl
    have ix0 : ∀ j : J, ixF t (jM j) (.int 0) = some (.str j.name) := fun j => rfl
    have ixa : ixF t (.tup (gc_AXES.map Gc.m)) (.int p.2) = some (.str (axW p.2.toNat)) := by
      rcases a3 with e | e <;> rw [e] <;> rfl
    have hx := ext_s (h.ls (.head _)) (B := [("hold" : Str), j1.name, axW p.2.toNat]) (by simp; omega)
    simp only [List.map_cons, List.map_nil] at hx
    simp -dsimp [-sIf_run, prM, fld4, ix1, ix0, ixa, isLs_ref (h.ls (.head _)), hx]
    refine sl ⟨C ++ [("hold" : Str), j1.name, axW p.2.toNat], some (.int p.1), some (.int p.2), ?_, h.upd0 (C' := Ls ((C ++ [("hold" : Str), j1.name, axW p.2.toNat]).map .str)) (by simp), rfl⟩
    rw [hC, List.flatMap_append]
    simp [hwd, q2]
  rintro _ t ⟨C, e9, e10, hC, h, rfl⟩
  have hCe : C = fwords f := by rw [hC, hB, hA, fwords, List.append_assoc]
  have hj := join_ok (st := t) (y := .ref w) (ws := C) (seq_ref (h.ls (.head _))) (fun w hw => by rw [hCe] at hw; have := fwords_len8 T w hw; omega) (by rw [hCe]; have := fwords_few T; omega)
  have hS : isSt t (.str (" " : Str)) = true := rfl
  simp -dsimp [-sIf_run, hS, hj]
  rw [hCe]
  exact k t h.tail
/-! words of the text again -/
theorem iW_bl1 : ∀ n < 1000, 32 ∉ (iW (n : Nat)).cps.toList := by decide +kernel
theorem iW_bl2 : ∀ n : Nat, n < 1000 → 32 ∉ (iW (-(n : Int))).cps.toList := by decide +kernel
theorem iW_bl {i : Int} (h : -1000 < i ∧ i < 1000) : 32 ∉ (iW i).cps.toList := by
  by_cases h0 : 0 ≤ i
  · have := iW_bl1 i.toNat (by omega)
    rwa [Int.toNat_of_nonneg h0] at this
  · have := iW_bl2 (-i).toNat (by omega)
    rwa [Int.toNat_of_nonneg (by omega), Int.neg_neg] at this
theorem nm_bl {w : Str} (h : isNm w = true) : 32 ∉ w.cps.toList := fun hc => by
  unfold isNm at h
  have := of_decide_eq_true (List.all_eq_true.mp (Bool.and_eq_true_iff.mp h).2 32 hc)
  omega
theorem stW_bl {o : Option Int} (h : lowI o) : 32 ∉ (stW o).cps.toList := by
  cases o with
  | none => exact (by decide +kernel : 32 ∉ ("any" : Str).cps.toList)
  | some v => have := h v rfl; exact iW_bl ⟨by omega, by omega⟩
theorem axW_bl {a : Nat} : 32 ∉ (axW a).cps.toList := by
  unfold axW
  split
  · decide +kernel
  · decide +kernel
theorem fwords_bl (T : TF f) : ∀ w ∈ fwords f, 32 ∉ w.cps.toList := by
  intro w hw
  unfold fwords at hw
  have n0 : ∀ i : Int, 0 ≤ i → i < f.js.length → 32 ∉ (nmA (f.js.map J.name) i).cps.toList := fun i h0 h1 => by
    obtain ⟨j, hj, _, e⟩ := nmA_at h0 h1
    rw [e]; exact nm_bl (T.jn j hj)
  rcases List.mem_append.mp hw with hw | hw
  · obtain ⟨j, hj, hw⟩ := List.mem_flatMap.mp hw
    have := T.jx j hj
    simp only [jw, List.mem_cons, List.not_mem_nil, or_false] at hw
    rcases hw with rfl | rfl | rfl | rfl
    · decide +kernel
    · exact nm_bl (T.jn j hj)
    · exact iW_bl ⟨by omega, by omega⟩
    · exact iW_bl ⟨by omega, by omega⟩
  rcases List.mem_append.mp hw with hw | hw
  · obtain ⟨r, hr, hw⟩ := List.mem_flatMap.mp hw
    obtain ⟨a1, a2, a3, a4, a5⟩ := T.ro r hr
    simp only [rwd, List.mem_cons, List.not_mem_nil, or_false] at hw
    rcases hw with rfl | rfl | rfl | rfl | rfl
    · decide +kernel
    · exact n0 _ a1 (by omega)
    · exact n0 _ (by omega) a3
    · exact stW_bl a4
    · exact stW_bl a5
  · obtain ⟨r, hr, hw⟩ := List.mem_flatMap.mp hw
    obtain ⟨a1, a2, a3⟩ := T.ho r hr
    simp only [hwd, List.mem_cons, List.not_mem_nil, or_false] at hw
    rcases hw with rfl | rfl | rfl
    · decide +kernel
    · exact n0 _ a1 a2
    · exact axW_bl
theorem wordsOf_join {ws : List Str} {w : Str} {rest : List Str} (e : ws = w :: rest) (hw : w ≠ ("" : Str)) (h : ∀ w ∈ ws, 32 ∉ w.cps.toList) : wordsOf (Txt.join (" " : Str) ws) = ws := by
  have hs : Txt.split (Txt.join (" " : Str) ws) (" " : Str) = ws := TL.split_join (s := 32) (S := []) (by decide +kernel) (by decide +kernel) (by rw [e]; simp) h
  unfold wordsOf
  rw [if_neg, hs]
  intro z
  rw [z] at hs
  have : Txt.split ("" : Str) (" " : Str) = [("" : Str)] := by decide +kernel
  rw [this, e] at hs
  exact hw (List.cons.inj hs).1.symm
theorem wordsOf_txt (T : TF f) : wordsOf (txt f) = fwords f := by
  obtain ⟨j, js, ej⟩ : ∃ j js, f.js = j :: js := by
    cases e : f.js with
    | nil => have := T.j1; rw [e] at this; simp at this
    | cons j js => exact ⟨j, js, rfl⟩
  have e : fwords f = ("joint" : Str) :: ([j.name, iW j.x, iW j.y] ++ (js.flatMap jw ++ (f.rs.flatMap (rwd (f.js.map J.name)) ++ f.hs.flatMap (hwd (f.js.map J.name))))) := by
    unfold fwords
    rw [ej]; rfl
  exact wordsOf_join e (by decide +kernel) (fwords_bl T)
theorem dueF_tf (T : TF f) : dueF f = none := dueF_of (S := ⟨[], 0, f.js, f.rs, f.hs⟩) ⟨by simp, by simp, Nat.zero_le _, T.jl, T.jn, T.jx, T.nd, T.sd, T.rl, T.rd, T.ro, T.hd, T.ho⟩ T.j1
/-- the text of a frame, read -/
theorem readT_wp (T : TF f) (h : Has st L) (k : ∀ t, Has t L → Q (fmI f) t) : Wp Q X (m_read_frame [.str (txt f)] st) := by
  refine read_wp h (txt_len T) (by rw [wordsOf_txt T]; have := fwords_few T; omega) (by rw [wordsOf_txt T]; exact fun w hw => by have := fwords_len8 T w hw; omega) (fun S hS I _ t ht => ?_) fun e he => ?_
  · rw [wordsOf_txt T, read_words T] at hS
    cases hS
    exact k t ht
  · rw [wordsOf_txt T, read_words T] at he
    cases he
end
end K04

namespace K04
open PySem L2 Z
section
variable {Q : MV → Sto → Prop} {X : Nat → List (Nat × MV) → Sto → Prop}
theorem pool_wp {ns : List Int} (hn : ns.length ≤ 63) (hb : ∀ k ∈ ns, nb k ≤ 1048576) (k : ∀ t, Has t [(0, PoolC)] → Q (.ref 0) t) : Wp Q X (m_ulaw_pool [.frz (ns.map .int), .int 0] []) := by
  unfold m_ulaw_pool
  have e : fList [] [.frz (ns.map MV.int)] = some (ns.map .int) := rfl
  simp -dsimp [-sIf_run, e]
  refine k _ ⟨by simp, fun p hp => ?_⟩
  rw [List.mem_singleton.mp hp]
  exact ⟨_, rfl, ns, 0, 0, 1, 0, 0, rfl, by omega, hb, by decide, by omega, by omega⟩
end
/-! ### what is told of words -/
structure Wf (ws : List Str) : Prop where
  ne : ∃ w rest, ws = w :: rest ∧ w ≠ ("" : Str)
  bl : ∀ w ∈ ws, 32 ∉ w.cps.toList
  lz : ∀ w ∈ ws, w.length ≤ 20
  wl : ws.length ≤ 400
def toldV (ws : List Str) : MV := match rRead ws with
  | .ok _ => .tup [.str ("read" : Str), .str (Txt.join (" " : Str) ws)]
  | .error e => .tup [.str ("refused" : Str), .int (e : Nat)]
theorem Wf.words {ws : List Str} (W : Wf ws) : wordsOf (Txt.join (" " : Str) ws) = ws := by
  obtain ⟨w, rest, e, h⟩ := W.ne
  exact wordsOf_join e h W.bl
theorem join_len {ws : List Str} {k : Nat} (h : ∀ w ∈ ws, w.length ≤ k) : (Txt.join (" " : Str) ws).length ≤ (k + 1) * ws.length := by
  rw [TL.join_eq]
  induction ws with
  | nil =>
    have : (Str.join (" " : Str) []).length ≤ 0 := by decide +kernel
    simpa using this
  | cons w ws ih =>
    have a1 := h w (.head _)
    have a2 := ih fun x hx => h x (.tail _ hx)
    cases ws with
    | nil =>
      show w.length ≤ (k + 1) * 1
      omega
    | cons v vs =>
      show (w ++ (" " : Str) ++ Str.join (" " : Str) (v :: vs)).length ≤ _
      rw [Str.length_append, Str.length_append, show (" " : Str).length = 1 by decide +kernel]
      simp only [List.length_cons, Nat.mul_add, Nat.mul_one] at a2 ⊢
      omega
section
variable {st : Sto} {L : Heapy} {Q : MV → Sto → Prop} {X : Nat → List (Nat × MV) → Sto → Prop}
theorem told_wp {ws : List Str} {v : MV} (W : Wf ws) (e : seqOf st v = some (ws.map .str)) (hv : (v = .exc) = False) (h : Has st L) (k : ∀ t, Has t L → Q (toldV ws) t) : Wp Q X (m_ulaw_told [v] st) := by
  have hl := join_len W.lz
  have hw := W.wl
  have hj := join_ok e (fun w hw => by have := W.lz w hw; omega) (by omega)
  have hS : isSt st (.str (" " : Str)) = true := rfl
  unfold m_ulaw_told
  simp -dsimp [-sIf_run, hS, hj, hv]
  refine read_wp h (by omega) (by rw [W.words]; omega) (by rw [W.words]; exact fun w hw => by have := W.lz w hw; omega) (fun S hS I hs t ht => ?_) fun e he t ht => ?_
  · rw [W.words] at hS
    obtain ⟨_, T, ew⟩ := read_inv (by omega) (fun w hw => by have := W.lz w hw; omega) hS
    simp -dsimp [-sIf_run]
    refine ftext_wp T ht fun t ht => ?_
    simp -dsimp [-sIf_run]
    have := k t ht
    unfold toldV at this
    rw [hS] at this
    unfold txt
    rw [← ew]
    exact this
  · rw [W.words] at he
    have hs : subX 1 1 = true := by decide
    simp -dsimp [-sIf_run, hs, lookN]
    have := k t ht
    unfold toldV at this
    rw [he] at this
    exact this
def dueV (ws : List Str) (o : Option Int) : MV := match o with
  | none => .tup [.str ("read" : Str), .str (Txt.join (" " : Str) ws)]
  | some p => .tup [.str ("refused" : Str), .int p]
theorem due_ok {ws : List Str} {v : MV} {o : Option Int} (W : Wf ws) (e : seqOf st v = some (ws.map .str)) (hv : (v = .exc) = False) : m_ulaw_due [v, oM o] st = .ok (dueV ws o) st := by
  have hw := W.wl
  have hj := join_ok e (fun w hw => by have := W.lz w hw; omega) (by omega)
  have hS : isSt st (.str (" " : Str)) = true := rfl
  have q : Wp (fun x t => x = dueV ws o ∧ t = st) noX (m_ulaw_due [v, oM o] st) := by
    unfold m_ulaw_due
    cases o with
    | none => simp -dsimp [-sIf_run, wps_sif, oM, hS, hj, hv, dueV]
    | some p => simp -dsimp [-sIf_run, wps_sif, oM, hS, hj, hv, dueV]
  obtain ⟨x, t, e, rfl, rfl⟩ := q.out
  exact e
/-- told is what is due -/
def okT (ws : List Str) (o : Option Int) : Prop := Wf ws ∧ match o with
  | none => ∃ S, rRead ws = .ok S
  | some p => ∃ q : Nat, rRead ws = .error q ∧ p = q
theorem okT.eq {ws : List Str} {o : Option Int} (h : okT ws o) : toldV ws = dueV ws o := by
  obtain ⟨_, h⟩ := h
  unfold toldV dueV
  cases o with
  | none =>
    obtain ⟨S, e⟩ := h
    rw [e]
  | some p =>
    obtain ⟨q, e, rfl⟩ := h
    rw [e]
theorem smB_due {ws : List Str} {o : Option Int} : smB 6 (dueV ws o) = true := by
  cases o <;> rfl
theorem smB_told {ws : List Str} : smB 6 (toldV ws) = true := by
  unfold toldV
  split <;> rfl
end
end K04

namespace K04
open PySem L2 Z
/-! ### what the law builds -/
theorem nameOf_nm : ∀ k : Nat, k < 26 → isNm (nameOf k) = true := by decide +kernel
def jsOf (s : Int) (n : Nat) : List J := (List.range n).map fun k : Nat => ⟨nameOf k, s + k, -(k : Int)⟩
theorem js_len {s : Int} {n : Nat} : (jsOf s n).length = n := by simp [jsOf]
theorem js_names {s : Int} {n : Nat} : (jsOf s n).map J.name = (List.range n).map nameOf := by simp [jsOf, Function.comp_def]
theorem names_nd {n : Nat} (h : n ≤ 26) : ((List.range n).map nameOf).Nodup := by
  refine List.pairwise_map.mpr ((List.nodup_range (n := n)).imp_of_mem fun {a b} ha hb hab e => hab ?_)
  have ha := List.mem_range.mp ha
  have hb := List.mem_range.mp hb
  exact name_inj a (by omega) b (by omega) e
theorem nmA_js {s : Int} {n : Nat} {i : Int} (h0 : 0 ≤ i) (h1 : i < n) : nmA ((jsOf s n).map J.name) i = nameOf i.toNat := by
  rw [js_names]
  unfold nmA
  have : i.toNat < n := by omega
  simp [this]
theorem tf_of {s : Int} {n : Nat} {rs : List R4} {hs : List (Int × Int)} (h0 : 0 ≤ s) (h1 : s < 900) (n1 : 1 ≤ n) (n2 : n ≤ 12) (rl : rs.length ≤ 30) (rd : (rs.map R4.ends).Nodup) (ro : ∀ r ∈ rs, 0 ≤ r.i ∧ r.i < r.j ∧ r.j < n ∧ lowI r.p ∧ lowI r.q) (hd : hs.Nodup) (ho : ∀ h ∈ hs, 0 ≤ h.1 ∧ h.1 < n ∧ (h.2 = 0 ∨ h.2 = 1)) : TF ⟨jsOf s n, rs, hs⟩ := by
  refine ⟨by rw [js_len]; exact n1, by rw [js_len]; exact n2, fun j hj => ?_, fun j hj => ?_, by rw [js_names]; exact names_nd (by omega), ?_, rl, rd, by simp only [js_len]; exact ro, hd, by simp only [js_len]; exact ho⟩
  · obtain ⟨k, hk, rfl⟩ := List.mem_map.mp hj
    exact nameOf_nm k (by have := List.mem_range.mp hk; omega)
  · obtain ⟨k, hk, rfl⟩ := List.mem_map.mp hj
    have := List.mem_range.mp hk
    refine ⟨?_, ?_, ?_, ?_⟩ <;> simp only <;> omega
  · show ((jsOf s n).map J.spot).Nodup
    unfold jsOf
    rw [List.map_map]
    refine List.pairwise_map.mpr ((List.nodup_range (n := n)).imp fun {a b} hab e => hab ?_)
    have e := (Prod.mk.inj e).2
    simp only at e
    omega
def rowP (n i : Nat) : List (Int × Int) := (List.range (n - (i + 1))).map fun k : Nat => ((i : Int), (i : Int) + 1 + (k : Int))
def allP (n : Nat) : List (Int × Int) := (List.range n).flatMap (rowP n)
theorem mem_allP {n : Nat} {p : Int × Int} : p ∈ allP n ↔ 0 ≤ p.1 ∧ p.1 < p.2 ∧ p.2 < n := by
  unfold allP
  rw [List.mem_flatMap]
  constructor
  · rintro ⟨i, hi, hp⟩
    obtain ⟨k, hk, rfl⟩ := List.mem_map.mp hp
    have := List.mem_range.mp hi
    have := List.mem_range.mp hk
    refine ⟨?_, ?_, ?_⟩ <;> simp only <;> omega
  · rintro ⟨h1, h2, h3⟩
    obtain ⟨a, b⟩ := p
    simp only at h1 h2 h3
    refine ⟨a.toNat, List.mem_range.mpr (by omega), List.mem_map.mpr ⟨(b - a - 1).toNat, List.mem_range.mpr (by omega), ?_⟩⟩
    have e1 : ((a.toNat : Nat) : Int) = a := Int.toNat_of_nonneg h1
    have e2 : (((b - a - 1).toNat : Nat) : Int) = b - a - 1 := Int.toNat_of_nonneg (by omega)
    rw [e1, e2]
    congr 1
    omega
theorem allP_nd : ∀ n : Nat, n < 13 → (allP n).Nodup := by decide +kernel
theorem allP_12 : (allP 12).length = 66 := by decide +kernel
theorem allP_len : ∀ n : Nat, n < 8 → 2 ≤ n → 1 ≤ (allP n).length ∧ (allP n).length ≤ 21 := by decide +kernel
def chOf (n l : Nat) : List (Int × Int) := ((List.range (allP n).length).filter fun k => decide (k ≠ l)).map fun k => ((allP n)[k]?).getD (0, 0)
theorem ch_eq : ∀ n : Nat, n < 8 → ∀ l < (allP n).length, chOf n l = (allP n).eraseIdx l := by decide +kernel
theorem wf_of {f : Fm} {rest : List Str} (T : TF f) (h1 : ∀ w ∈ rest, 32 ∉ w.cps.toList) (h2 : ∀ w ∈ rest, w.length ≤ 20) (h3 : rest.length ≤ 90) : Wf (fwords f ++ rest) := by
  refine ⟨?_, fun w hw => ?_, fun w hw => ?_, by rw [List.length_append]; have := fwords_few T; omega⟩
  · obtain ⟨j, js, ej⟩ : ∃ j js, f.js = j :: js := by
      cases e : f.js with
      | nil => have := T.j1; rw [e] at this; simp at this
      | cons j js => exact ⟨j, js, rfl⟩
    refine ⟨("joint" : Str), [j.name, iW j.x, iW j.y] ++ (js.flatMap jw ++ (f.rs.flatMap (rwd (f.js.map J.name)) ++ f.hs.flatMap (hwd (f.js.map J.name))) ++ rest), ?_, by decide +kernel⟩
    unfold fwords
    rw [ej]; rfl
  · rcases List.mem_append.mp hw with hw | hw
    · exact fwords_bl T w hw
    · exact h1 w hw
  · rcases List.mem_append.mp hw with hw | hw
    · have := fwords_len8 T w hw; omega
    · exact h2 w hw
theorem okT_f {f : Fm} (T : TF f) : okT (fwords f) none := by
  have := wf_of (rest := []) T (by simp) (by simp) (by simp)
  rw [List.append_nil] at this
  exact ⟨this, _, read_words T⟩
/-- words behind each other -/
theorem fw_js {js : List J} : fwords ⟨js, [], []⟩ = js.flatMap jw := by simp [fwords]
theorem fw_r {js : List J} {rs : List R4} {r : R4} : fwords ⟨js, rs ++ [r], []⟩ = fwords ⟨js, rs, []⟩ ++ rwd (js.map J.name) r := by
  simp [fwords, List.flatMap_append]
theorem fw_h {js : List J} {rs : List R4} {hs : List (Int × Int)} {p : Int × Int} : fwords ⟨js, rs, hs ++ [p]⟩ = fwords ⟨js, rs, hs⟩ ++ hwd (js.map J.name) p := by
  simp [fwords, List.flatMap_append]
/-! numbers next to the bounds -/
def W12l : List Str := [("999" : Str), ("1000" : Str), ("998" : Str), ("0" : Str), ("-0" : Str), ("00" : Str), ("-1" : Str), ("-999" : Str), ("-1000" : Str), ("0999" : Str), ("1" : Str), ("" : Str)]
def goodW : List Str := [("999" : Str), ("998" : Str), ("0" : Str), ("1" : Str), ("-1" : Str), ("-999" : Str)]
def N4l : List Str := [("a" : Str), ("x" : Str), ("joints" : Str), ("abcdefgh" : Str)]
def wfB (ws : List Str) : Bool := (match ws with
  | w :: _ => decide (w ≠ ("" : Str))
  | [] => false) && ws.all (fun w => decide (32 ∉ w.cps.toList)) && ws.all (fun w => decide (w.length ≤ 20)) && decide (ws.length ≤ 400)
def chk (ws : List Str) (o : Option Int) : Bool := wfB ws && match rRead ws, o with
  | .ok _, none => true
  | .error q, some p => decide (p = (q : Int))
  | _, _ => false
theorem chk_ok {ws : List Str} {o : Option Int} (h : chk ws o = true) : okT ws o := by
  unfold chk at h
  obtain ⟨h1, h2⟩ := Bool.and_eq_true_iff.mp h
  unfold wfB at h1
  obtain ⟨h1, a4⟩ := Bool.and_eq_true_iff.mp h1
  obtain ⟨h1, a3⟩ := Bool.and_eq_true_iff.mp h1
  obtain ⟨a1, a2⟩ := Bool.and_eq_true_iff.mp h1
  refine ⟨⟨?_, fun w hw => of_decide_eq_true (List.all_eq_true.mp a2 w hw), fun w hw => of_decide_eq_true (List.all_eq_true.mp a3 w hw), of_decide_eq_true a4⟩, ?_⟩
  · cases ws with
    | nil => cases a1
    | cons w rest => exact ⟨w, rest, rfl, of_decide_eq_true a1⟩
  · cases e : rRead ws with
    | ok S =>
      rw [e] at h2
      cases o with
      | none => exact ⟨S, rfl⟩
      | some p => cases h2
    | error q =>
      rw [e] at h2
      cases o with
      | none => cases h2
      | some p => exact ⟨q, rfl, of_decide_eq_true h2⟩
theorem near1 : ∀ w ∈ W12l, ∀ nm ∈ N4l, ∀ i ∈ [2, 3], chk (([("joint" : Str), nm, ("5" : Str), ("6" : Str)] : List Str).set i w) (if w ∈ goodW then none else some ((i : Nat) : Int)) = true := by decide +kernel
def rods13 : List Str := [("joint" : Str), ("a" : Str), ("0" : Str), ("0" : Str), ("joint" : Str), ("b" : Str), ("1" : Str), ("0" : Str), ("rod" : Str), ("a" : Str), ("b" : Str), ("any" : Str), ("any" : Str)]
theorem near2 : ∀ w ∈ W12l, ∀ i ∈ [11, 12], chk (rods13.set i w) (if w ∈ goodW ∧ cutS w none (some 1) ≠ ("-" : Str) then none else some ((i : Nat) : Int)) = true := by decide +kernel
end K04

namespace K04
open PySem L2 Z
/-! ### wide frames -/
theorem catC_l {s : Sto} {xs ys : List MV} (h : xs.length + ys.length ≤ 100000) : catC (.lst xs) (.lst ys) s = .ok (.ref s.length) (s ++ [.lst (xs ++ ys)]) := by
  show (if xs.length + ys.length ≤ line then _ else _) = _
  rw [if_pos (by exact h)]
theorem catC_r {s : Sto} {n : Nat} {xs ys : List MV} (e : s[n]? = some (.lst xs)) (h : xs.length + ys.length ≤ 100000) : catC (.ref n) (.lst ys) s = .ok (.ref s.length) (s ++ [.lst (xs ++ ys)]) := by
  have h1 : Z.listOf s (.ref n) = some xs := by simp [Z.listOf, e]
  unfold catC
  rw [h1]
  show (if xs.length + ys.length ≤ line then _ else _) = _
  rw [if_pos (by exact h)]
def listV (st : Sto) (v : MV) (xs : List MV) : Prop := v = .lst xs ∨ ∃ n, v = .ref n ∧ st[n]? = some (.lst xs)
theorem catC_v {s : Sto} {v : MV} {xs ys : List MV} (hv : listV s v xs) (h : xs.length + ys.length ≤ 100000) : catC v (.lst ys) s = .ok (.ref s.length) (s ++ [.lst (xs ++ ys)]) := by
  rcases hv with rfl | ⟨n, rfl, e⟩
  · exact catC_l h
  · exact catC_r e h
theorem perm_erase {α : Type} : ∀ {xs : List α} {i : Nat} {x : α}, xs[i]? = some x → xs.Perm (x :: xs.eraseIdx i)
  | [], i, x, h => by simp at h
  | y :: ys, 0, x, h => by simp at h; subst h; exact .refl _
  | y :: ys, i + 1, x, h => by
    have h2 : ys[i]? = some x := by simpa using h
    exact ((perm_erase h2).cons y).trans (.swap x y _)
/-! ### its parts -/
section
variable {st : Sto} {L : Heapy} {r : Nat} {Q : MV → Sto → Prop} {X : Nat → List (Nat × MV) → Sto → Prop}
theorem cat_s2 {s : Sto} {A B : List Str} (h : A.length + B.length ≤ 100000) : bAdd s (.lst (A.map .str)) (.lst (B.map .str)) = some (.lst ((A ++ B).map .str)) := by
  rw [cat_l (by simpa using h), List.map_append]
theorem name_okI {i : Int} (h0 : 0 ≤ i) (h1 : i < 676) : m_ulaw_name_of [.int i] st = .ok (.str (nameOf i.toNat)) st := by
  have := name_ok (st := st) (n := i.toNat) (by omega)
  rwa [Int.toNat_of_nonneg h0] at this
theorem joints_wp {n : Nat} (h : Has st L) (m : (r, PoolC) ∈ L) (hn : n ≤ 13) (k : ∀ s t, 0 ≤ s → s < 900 → Has t L → Q (.lst (((jsOf s n).flatMap jw).map .str)) t) : Wp Q X (m_ulaw_joints [.ref r, .int n] st) := by
  unfold m_ulaw_joints
  simp -dsimp [-sIf_run]
  refine draw_wp h m (by omega) (by omega) fun s t a b h F => ?_
  simp -dsimp [-sIf_run]
  refine ⟨by omega, ?_⟩
  refine wp_forR (fun i e t => Seal (∃ (A : List Str) (e4 : Option MV), A = (jsOf s i).flatMap jw ∧ Has t L ∧ e = [some (.ref r), some (.int n), some (.lst (A.map .str)), some (.int s), e4]) ()) ⟨[], _, rfl, h, rfl⟩ (fun _ _ _ _ => trivial) ?_ ?_
  · rintro i _ t hi ⟨A, e4, hA, h, rfl⟩
    have hAl : A.length = 4 * i := by rw [hA, flat_len (k := 4) (fun _ => rfl), js_len]
    have hcat := cat_s2 (s := t) (A := A) (B := jw ⟨nameOf i, s + i, -(i : Int)⟩) (by rw [hAl]; simp [jw]; omega)
    have hjw : (jw ⟨nameOf i, s + i, -(i : Int)⟩).map MV.str = [.str ("joint" : Str), .str (nameOf i), .str (iW (s + i)), .str (iW (-(i : Int)))] := rfl
    rw [hjw] at hcat
    simp -dsimp [-sIf_run, name_ok (show i < 676 by omega), str_okI (st := t) (i := s + i) (by omega), str_okI (st := t) (i := -(i : Int)) (by omega), hcat]
    refine sl ⟨A ++ jw ⟨nameOf i, s + i, -(i : Int)⟩, some (.int i), ?_, h, by simp⟩
    rw [hA]
    unfold jsOf
    rw [List.range_succ, List.map_append, List.flatMap_append]
    simp
  · rintro _ t ⟨A, e4, hA, h, rfl⟩
    simp -dsimp [-sIf_run]
    rw [hA]
    exact k s t a b h
theorem pairs_wp {n : Nat} (h : Has st L) (n1 : 1 ≤ n) (n2 : n ≤ 12) (k : ∀ q t, Has t ((q, Ls ((allP n).map prM)) :: L) → Q (.ref q) t) : Wp Q X (m_ulaw_pairs_of [.int n] st) := by
  unfold m_ulaw_pairs_of
  simp -dsimp [-sIf_run]
  refine ⟨by omega, ?_⟩
  refine wp_forR (fun i e t => Seal (∃ (es : List (Int × Int)) (v4 : MV) (e5 : Option MV), (v4 = .exc) = False ∧ listV t v4 (es.map prM) ∧ (0 < i → ∃ n, v4 = .ref n ∧ Has t ((n, Ls (es.map prM)) :: L)) ∧ Has t L ∧ es.length ≤ 12 * i ∧ es = (List.range i).flatMap (rowP n) ∧ e = [some (.int n), some v4, e5, none]) ()) ⟨[], .lst [], _, by simp, .inl rfl, (fun z => by omega), h, by simp, rfl, rfl⟩ (fun _ _ _ _ => trivial) ?_ ?_
  · rintro i _ t hi ⟨es, v4, e5, hv4, hlv, _, h, hel, hes, rfl⟩
    simp -dsimp [-sIf_run, hv4]
    have c := lc_allW (s := t) (env := [some (.int n), some v4, some (.int i), none]) (f := fun k : Nat => MV.int ((i : Int) + 1 + k)) (ys := List.range (n - (i + 1))) (ok := fun _ => True) (mi := miRange2 (mBin bAdd (mVar 2) (mC (.int 1))) (mVar 0)) (g := tgName 3) (me := mTup (mCons (mVar 2) (mCons (mVar 3) mNil))) (vs := [3]) (fun k => prM ((i : Int), (i : Int) + 1 + (k : Int)))
      (by
        have q : Wp (fun v t' => v = ⟨intsM ((i : Int) + 1) ((n : Int) - ((i : Int) + 1)).toNat, fun _ => True⟩ ∧ t' = t) noX (miRange2 (mBin bAdd (mVar 2) (mC (.int 1))) (mVar 0) [some (.int n), some v4, some (.int i), none] t) := by
          simp -dsimp [-sIf_run]
          omega
        obtain ⟨v, t', e, rfl, rfl⟩ := q.out
        rw [e]
        unfold intsM
        rw [show ((n : Int) - ((i : Int) + 1)).toNat = n - (i + 1) by omega]) (fun k hk a => by simp -dsimp [-sIf_run, wipeM, prM]) (fun _ => trivial) (by simp; omega) (fun k _ a => pl_frz40 (enc_prM.pl12 trivial))
    rw [c]
    have e2 : ((List.range (n - (i + 1))).map fun k : Nat => prM ((i : Int), (i : Int) + 1 + (k : Int))) = (rowP n i).map prM := by unfold rowP; rw [List.map_map]; rfl
    rw [e2]
    have hNl : (rowP n i).length ≤ 12 := by simp [rowP]; omega
    obtain ⟨N, hN⟩ : ∃ N, N = rowP n i := ⟨_, rfl⟩
    rw [← hN] at hNl ⊢
    have hcat := catC_v (s := t) hlv (ys := N.map prM) (by simp; omega)
    simp -dsimp [-sIf_run, hcat]
    have h2 := h.push (c := .lst (es.map prM ++ N.map prM)) (C := Ls ((es ++ N).map prM)) (by simp)
    exact sl ⟨es ++ N, .ref t.length, _, by simp, .inr ⟨_, rfl, by simp⟩, fun _ => ⟨_, rfl, h2⟩, h2.tail, by simp; omega, by rw [hes, hN, List.range_succ, List.flatMap_append]; simp, rfl⟩
  · rintro _ t ⟨es, v4, e5, _, _, hpos, _, hel, hes, rfl⟩
    obtain ⟨pc, rfl, h⟩ := hpos (by omega)
    simp -dsimp [-sIf_run]
    have e : es = allP n := hes
    rw [← e] at k
    exact k pc t h
/-- told is as due: one question of the law -/
theorem told2_wp {ws : List Str} {o : Option Int} {v : MV} (O : okT ws o) (e : seqOf st v = some (ws.map .str)) (hv : (v = .exc) = False) (h : Has st L) (k : ∀ t, Has t L → Q (dueV ws o) t) : Wp Q X (m_ulaw_told [v] st) :=
  told_wp O.1 e hv h fun t ht => by rw [O.eq]; exact k t ht
theorem same_due {ws : List Str} {o : Option Int} : m_ulaw_same 6 [dueV ws o, dueV ws o] st = .ok (.bl true) st := same_refl 6 _ smB_due
@[simp] theorem dueV_ne (ws : List Str) (o : Option Int) : (dueV ws o = .exc) = False := by cases o <;> simp [dueV]
theorem seq_l {s : Sto} {xs : List MV} : seqOf s (.lst xs) = some xs := rfl
theorem near_wp (h : Has st L) (m : (r, PoolC) ∈ L) (k : ∀ t, Has t L → Q (.bl true) t) : Wp Q X (m_ulaw_numbers_near [.ref r] st) := by
  unfold m_ulaw_numbers_near
  simp -dsimp [-sIf_run]
  refine draw_wp h m (by omega) (by omega) fun v t a b h F => ?_
  refine wpo_anyT a (by simpa using b) (fun v => ∃ w ∈ W12l, v = .str w) (by
    intro x hx
    have : x ∈ W12l.map MV.str := hx
    obtain ⟨w, hw, rfl⟩ := List.mem_map.mp this
    exact ⟨w, hw, rfl⟩) ?_
  rintro _ ⟨w, hw, rfl⟩
  have hgood : cIn t (.str w) (.tup (goodW.map .str)) = some (decide (w ∈ goodW)) := in_strs (gs := goodW) rfl
  have hgood : cIn t (.str w) (.tup [.str ("999" : Str), .str ("998" : Str), .str ("0" : Str), .str ("1" : Str), .str ("-1" : Str), .str ("-999" : Str)]) = some (decide (w ∈ goodW)) := hgood
  simp -dsimp [-sIf_run, hgood]
  refine draw_wp h m (by omega) (by omega) fun d t a1 b1 h F => ?_
  obtain ⟨at1, ha1, hat⟩ : ∃ n : Nat, 2 + d = (n : Int) ∧ n ∈ [2, 3] := ⟨(2 + d).toNat, by omega, by
    have : d = 0 ∨ d = 1 := by omega
    rcases this with rfl | rfl <;> decide⟩
  simp -dsimp [-sIf_run, ha1]
  have h := h.push (c := .lst (([("joint" : Str), ("any" : Str), ("5" : Str), ("6" : Str)] : List Str).map .str)) (C := Ls (([("joint" : Str), ("any" : Str), ("5" : Str), ("6" : Str)] : List Str).map .str)) rfl
  simp only [List.map_cons, List.map_nil] at h
  generalize t.length = q at h ⊢
  refine draw_wp h (.tail _ m) (by omega) (by omega) fun d2 t a2 b2 h F => ?_
  refine wpo_anyT a2 (by simpa using b2) (fun v => ∃ w ∈ N4l, v = .str w) (by
    intro x hx
    have : x ∈ N4l.map MV.str := hx
    obtain ⟨w, hw, rfl⟩ := List.mem_map.mp this
    exact ⟨w, hw, rfl⟩) ?_
  rintro _ ⟨nm, hnm, rfl⟩
  have hs1 := setL_ref (v := .str nm) (i := 1) (h.ls (.head _)) (by omega) (by simp)
  have h := h.upd0 (C' := Ls [.str ("joint" : Str), .str nm, .str ("5" : Str), .str ("6" : Str)]) (c := .lst [.str ("joint" : Str), .str nm, .str ("5" : Str), .str ("6" : Str)]) rfl
  have hlt : (at1 : Int) < 4 := by
    simp only [List.mem_cons, List.not_mem_nil, or_false] at hat
    omega
  have hs2 := setL_ref (v := .str w) (i := (at1 : Int)) (h.ls (.head _)) (by omega) (by simpa using hlt)
  obtain ⟨ws1, hws1⟩ : ∃ ws1, ws1 = ([("joint" : Str), nm, ("5" : Str), ("6" : Str)] : List Str).set at1 w := ⟨_, rfl⟩
  have e1 : ([.str ("joint" : Str), .str nm, .str ("5" : Str), .str ("6" : Str)] : List MV).set (at1 : Int).toNat (.str w) = ws1.map .str := by
    rw [hws1, List.map_set, Int.toNat_natCast]; rfl
  rw [e1] at hs2
  have h := h.upd0 (C' := Ls (ws1.map .str)) (c := .lst (ws1.map .str)) rfl
  rw [List.set_set] at h
  have O := chk_ok (near1 w hw nm hnm at1 hat)
  rw [← hws1] at O
  simp -dsimp [-sIf_run, hs1, hs2]
  have hoM : oM (if w ∈ goodW then none else some ((at1 : Nat) : Int)) = if w ∈ goodW then MV.non else .int at1 := by split <;> rfl
  generalize hbad : (if w ∈ goodW then none else some ((at1 : Nat) : Int)) = bad at O hoM
  refine WpS.cut (fun e t => Seal (Has t ((q, Ls (ws1.map .str)) :: L) ∧ e = [some (.ref r), some (.str w), some (.bl (decide (w ∈ goodW))), some (.int at1), some (.ref q), some (oM bad), none, none]) ()) ?_ ?_
  · rw [hoM]
    simp -dsimp [-sIf_run, wps_sif]
    by_cases c : w ∈ goodW
    · simp only [c, not_true_eq_false, false_implies, true_implies, true_and, if_true]
      exact sl ⟨h, by simp [c]⟩
    · simp only [c, not_false_eq_true, false_implies, true_implies, and_true, if_false]
      exact sl ⟨h, by simp [c]⟩
  rintro _ t ⟨h, rfl⟩
  simp -dsimp [-sIf_run, wps_sif]
  refine told2_wp O (seq_ref (h.ls (.head _))) (by simp) h fun t h => ?_
  simp -dsimp [-sIf_run, wps_sif, due_ok O.1 (seq_ref (h.ls (.head _))) (by simp), same_due]
  have hr13 : ∀ s : Sto, s ++ [Cell.lst [.str ("joint" : Str), .str ("a" : Str), .str ("0" : Str), .str ("0" : Str), .str ("joint" : Str), .str ("b" : Str), .str ("1" : Str), .str ("0" : Str), .str ("rod" : Str), .str ("a" : Str), .str ("b" : Str), .str ("any" : Str), .str ("any" : Str)]] = s ++ [Cell.lst (rods13.map .str)] := fun _ => rfl
  rw [hr13]
  have h := h.tail.push (c := .lst (rods13.map .str)) (C := Ls (rods13.map .str)) rfl
  generalize t.length = q2 at h ⊢
  refine draw_wp h (.tail _ m) (by omega) (by omega) fun d3 t a3 b3 h F => ?_
  obtain ⟨at2, ha2, hat2⟩ : ∃ n : Nat, 11 + d3 = (n : Int) ∧ n ∈ [11, 12] := ⟨(11 + d3).toNat, by omega, by
    have : d3 = 0 ∨ d3 = 1 := by omega
    rcases this with rfl | rfl <;> decide⟩
  have hlt2 : at2 < 13 := by
    simp only [List.mem_cons, List.not_mem_nil, or_false] at hat2
    omega
  have hs3 := setL_ref (v := .str w) (i := (at2 : Int)) (h.ls (.head _)) (by omega) (by simp [rods13]; omega)
  obtain ⟨ws2, hws2⟩ : ∃ ws2, ws2 = rods13.set at2 w := ⟨_, rfl⟩
  have e2 : (rods13.map MV.str).set (at2 : Int).toNat (.str w) = ws2.map .str := by
    rw [hws2, List.map_set, Int.toNat_natCast]
  rw [e2] at hs3
  have h := h.upd0 (C' := Ls (ws2.map .str)) (c := .lst (ws2.map .str)) rfl
  have O := chk_ok (near2 w hw at2 hat2)
  rw [← hws2] at O
  have hw20 : w.length ≤ 100000 := by
    have : ∀ w ∈ W12l, w.length ≤ 100000 := by decide +kernel
    exact this w hw
  simp -dsimp [-sIf_run, ha2, hs3]
  have hoM : oM (if w ∈ goodW ∧ cutS w none (some 1) ≠ ("-" : Str) then none else some ((at2 : Nat) : Int)) = if w ∈ goodW ∧ cutS w none (some 1) ≠ ("-" : Str) then MV.non else .int at2 := by split <;> rfl
  generalize hbad2 : (if w ∈ goodW ∧ cutS w none (some 1) ≠ ("-" : Str) then none else some ((at2 : Nat) : Int)) = bad2 at O hoM
  generalize hx3 : some (MV.ref q) = x3
  refine WpS.cut (fun e t => Seal (Has t ((q2, Ls (ws2.map .str)) :: L) ∧ e = [some (.ref r), some (.str w), some (.bl (decide (w ∈ goodW))), some (.int at1), x3, some (oM bad2), some (.ref q2), some (.int at2)]) ()) ?_ ?_
  · rw [hoM]
    simp -dsimp [-sIf_run, wps_sif, sl_str hw20]
    by_cases c : w ∈ goodW
    · by_cases c2 : cutS w none (some 1) = ("-" : Str)
      · simp only [c, c2, not_true_eq_false, false_implies, true_implies, true_and, and_true, if_true, ne_eq, and_false, if_false]
        exact sl ⟨h, by simp [c, c2]⟩
      · simp only [c, c2, not_true_eq_false, not_false_eq_true, false_implies, true_implies, true_and, and_true, if_true, ne_eq, and_self]
        exact sl ⟨h, by simp [c, c2]⟩
    · simp only [c, not_false_eq_true, false_implies, true_implies, and_true, true_and, if_false, false_and]
      exact sl ⟨h, by simp [c]⟩
  rintro _ t ⟨h, rfl⟩
  simp -dsimp [-sIf_run]
  refine told2_wp O (seq_ref (h.ls (.head _))) (by simp) h fun t h => ?_
  simp -dsimp [-sIf_run, due_ok O.1 (seq_ref (h.ls (.head _))) (by simp), same_due]
  exact k t h.tail
end
end K04

namespace K04
open PySem L2 Z
theorem nodup_snoc {α : Type} {ps : List α} {p : α} (h : ps.Nodup) (hn : p ∉ ps) : (ps ++ [p]).Nodup := by
  rw [List.nodup_append]
  exact ⟨h, by simp, fun a ha b hb => by rw [List.mem_singleton.mp hb]; exact fun e => hn (e ▸ ha)⟩
theorem all_snoc {α : Type} {ps : List α} {p : α} {P : α → Prop} (h : ∀ x ∈ ps, P x) (hn : P p) : ∀ x ∈ ps ++ [p], P x := fun x hx => by
  rcases List.mem_append.mp hx with hx | hx
  · exact h x hx
  · rw [List.mem_singleton.mp hx]; exact hn
/-! ### many rods, all rods -/
section
variable {st : Sto} {L : Heapy} {r : Nat} {Q : MV → Sto → Prop} {X : Nat → List (Nat × MV) → Sto → Prop}
theorem rwd_w {s : Int} {n : Nat} {x : R4} (h0 : 0 ≤ x.i ∧ x.i < n) (h1 : 0 ≤ x.j ∧ x.j < n) : rwd ((jsOf s n).map J.name) x = [("rod" : Str), nameOf x.i.toNat, nameOf x.j.toNat, stW x.p, stW x.q] := by
  unfold rwd
  rw [nmA_js h0.1 h0.2, nmA_js h1.1 h1.2]
theorem hwd_w {s : Int} {n : Nat} {x : Int × Int} (h0 : 0 ≤ x.1 ∧ x.1 < n) : hwd ((jsOf s n).map J.name) x = [("hold" : Str), nameOf x.1.toNat, axW x.2.toNat] := by
  unfold hwd
  rw [nmA_js h0.1 h0.2]
theorem rwd_bl {s : Int} {n : Nat} {x : R4} (hn : n ≤ 26) (h0 : 0 ≤ x.i ∧ x.i < n) (h1 : 0 ≤ x.j ∧ x.j < n) (h2 : lowI x.p ∧ lowI x.q) : ∀ w ∈ rwd ((jsOf s n).map J.name) x, 32 ∉ w.cps.toList ∧ w.length ≤ 20 := by
  intro w hw
  rw [rwd_w h0 h1] at hw
  simp only [List.mem_cons, List.not_mem_nil, or_false] at hw
  rcases hw with rfl | rfl | rfl | rfl | rfl
  · decide +kernel
  · have := nameOf_nm x.i.toNat (by omega)
    exact ⟨nm_bl this, by have := nm_len this; omega⟩
  · have := nameOf_nm x.j.toNat (by omega)
    exact ⟨nm_bl this, by have := nm_len this; omega⟩
  · exact ⟨stW_bl h2.1, by have := stW_len h2.1; omega⟩
  · exact ⟨stW_bl h2.2, by have := stW_len h2.2; omega⟩
theorem many_wp (h : Has st L) (m : (r, PoolC) ∈ L) (k : ∀ t, Has t L → Q (.bl true) t) : Wp Q X (m_ulaw_many_rods [.ref r] st) := by
  unfold m_ulaw_many_rods
  simp -dsimp [-sIf_run]
  refine joints_wp (n := 12) h m (by omega) fun s t s0 s1 h => ?_
  simp -dsimp [-sIf_run]
  refine pairs_wp (n := 12) h (by omega) (by omega) fun q t h => ?_
  simp -dsimp [-sIf_run]
  rw [← fw_js]
  have m' : (r, PoolC) ∈ (q, Ls ((allP 12).map prM)) :: L := .tail _ m
  refine draw_wp h m' (by omega) (by omega) fun n0 t a b h F => ?_
  obtain ⟨n, hn⟩ : ∃ n : Nat, 29 + n0 = (n : Int) := ⟨(29 + n0).toNat, by omega⟩
  have hn2 : 29 ≤ n ∧ n ≤ 31 := by omega
  simp -dsimp [-sIf_run, hn]
  refine ⟨by omega, ?_⟩
  refine wp_forR (fun i e t => Seal (∃ (A : List Str) (es : List (Int × Int)) (rs : List R4) (bad : Option Int) (e4 e5 : Option MV), Has t ((q, Ls (es.map prM)) :: L) ∧ rs.length = i ∧ es.length + i = 66 ∧ (rs.map R4.ends ++ es).Nodup ∧ (∀ p ∈ es, 0 ≤ p.1 ∧ p.1 < p.2 ∧ p.2 < (12 : Nat)) ∧ (∀ x ∈ rs, 0 ≤ x.i ∧ x.i < x.j ∧ x.j < (12 : Nat) ∧ lowI x.p ∧ lowI x.q) ∧ bad = (if 30 < i then some 198 else none) ∧ A = fwords ⟨jsOf s 12, rs, []⟩ ∧ e = [some (.ref r), some (.lst (A.map .str)), some (.ref q), some (oM bad), e4, e5]) ()) ⟨_, allP 12, [], none, _, _, h, rfl, allP_12, by simpa using allP_nd 12 (by omega), fun p hp => mem_allP.mp hp, (fun _ z => by cases z), rfl, rfl, rfl⟩ (fun _ _ _ _ => trivial) ?_ ?_
  · rintro i _ t hi ⟨A, es, rs, bad, e4, e5, h, g1, g2, g3, g4, g5, g6, hA, rfl⟩
    have hAl : A.length = 48 + 5 * i := by rw [hA, fwords_len]; simp [js_len, g1]
    simp -dsimp [-sIf_run]
    refine WpS.cut (fun e t' => Seal (t' = t ∧ e = [some (.ref r), some (.lst (A.map .str)), some (.ref q), some (oM (if 30 < i + 1 then some 198 else none)), some (.int i), e5]) ()) ?_ ?_
    · simp -dsimp [-sIf_run, wps_sif]
      refine ⟨fun c => ?_, fun c => ?_⟩
      · have : i = 30 := by omega
        subst this
        exact sl ⟨rfl, by rw [hAl]; rfl⟩
      · have : (30 < i) = (30 < i + 1) := by simp; omega
        exact sl ⟨rfl, by rw [g6]; simp only [this]⟩
    rintro _ t' ⟨e6, rfl⟩
    subst e6
    have hlen : fLen t' [.ref q] = some (.int es.length) := by rw [len_ref (h.ls (.head _))]; simp
    simp -dsimp [-sIf_run, hlen, isLs_ref (h.ls (.head _))]
    refine draw_wp h (.tail _ m) (by omega) (by omega) fun v t a5 b5 h F => ?_
    obtain ⟨p, hp, mp⟩ := get_some (xs := es) (i := v.toNat) (by omega)
    have hpop := popAt_ref (h.ls (.head _)) a5 (by omega) (y := prM p) (by simp [hp])
    rw [map_erase] at hpop
    simp -dsimp [-sIf_run, hpop]
    have h := h.upd0 (C' := Ls ((es.eraseIdx v.toNat).map prM)) (c := .lst ((es.eraseIdx v.toNat).map prM)) rfl
    obtain ⟨p1, p2, p3⟩ := g4 p mp
    simp -dsimp [-sIf_run, prM, name_okI p1 (show p.1 < 676 by omega), name_okI (show 0 ≤ p.2 by omega) (show p.2 < 676 by omega)]
    refine draw_wp h (.tail _ m) (by omega) (by omega) fun sv t a6 b6 h F => ?_
    have hx : rwd ((jsOf s 12).map J.name) ⟨p.1, p.2, some sv, none⟩ = [("rod" : Str), nameOf p.1.toNat, nameOf p.2.toNat, iW sv, ("any" : Str)] := rwd_w ⟨p1, by simp only; omega⟩ ⟨by simp only; omega, p3⟩
    have hcat := cat_s2 (s := t) (A := A) (B := rwd ((jsOf s 12).map J.name) ⟨p.1, p.2, some sv, none⟩) (by rw [hAl]; simp [rwd]; omega)
    rw [hx] at hcat
    simp only [List.map_cons, List.map_nil] at hcat
    simp -dsimp [-sIf_run, str_okI (st := t) (i := sv) (by omega), hcat]
    have hlow : lowI (some sv) := fun v hv => by cases hv; omega
    refine sl ⟨A ++ [("rod" : Str), nameOf p.1.toNat, nameOf p.2.toNat, iW sv, ("any" : Str)], es.eraseIdx v.toNat, rs ++ [⟨p.1, p.2, some sv, none⟩], _, some (.int i), some (prM p), h, by simp [g1], ?_, ?_, fun x hx => g4 x (List.mem_of_mem_eraseIdx hx), all_snoc g5 ⟨p1, p2, p3, hlow, fun v hv => by cases hv⟩, rfl, ?_, by simp [prM]⟩
    · have := List.length_eraseIdx_of_lt (List.getElem?_eq_some_iff.mp hp).1
      have := List.length_pos_of_mem mp
      omega
    · rw [List.map_append, List.map_singleton, List.append_assoc]
      exact (List.Perm.nodup_iff (List.Perm.append_left _ (perm_erase hp))).mp g3
    · rw [fw_r, ← hA, hx]
  rintro _ t ⟨A, es, rs, bad, e4, e5, h, g1, g2, g3, g4, g5, g6, hA, rfl⟩
  have hrd := (List.nodup_append.mp g3).1
  have O : okT A bad := by
    rw [hA, g6]
    by_cases c : n ≤ 30
    · rw [if_neg (by omega)]
      exact okT_f (tf_of s0 s1 (by omega) (by omega) (by omega) hrd g5 List.nodup_nil (fun _ z => by cases z))
    · rw [if_pos (by omega)]
      obtain ⟨rs0, x, rfl⟩ := last_of (xs := rs) (by intro z; rw [z] at g1; simp at g1; omega)
      have hl0 : rs0.length = 30 := by simp at g1; omega
      rw [List.map_append, List.nodup_append] at hrd
      have T : TF ⟨jsOf s 12, rs0, []⟩ := tf_of s0 s1 (by omega) (by omega) (by omega) hrd.1 (fun y hy => g5 y (List.mem_append_left _ hy)) List.nodup_nil (fun _ z => by cases z)
      obtain ⟨x1, x2, x3, x4, x5⟩ := g5 x (by simp)
      have hb := rwd_bl (s := s) (n := 12) (x := x) (by omega) ⟨x1, by omega⟩ ⟨by omega, x3⟩ ⟨x4, x5⟩
      rw [fw_r]
      refine ⟨wf_of T (fun w hw => (hb w hw).1) (fun w hw => (hb w hw).2) (by simp [rwd]), (fwords ⟨jsOf s 12, rs0, []⟩).length, ?_, ?_⟩
      · refine read_stop T ⟨fun c => absurd (Option.some.inj c) kw_ne.1, fun _ => rfl⟩ (by simp [rwd]) (fun _ => ?_) (fun c => absurd (Option.some.inj c).symm kw_ne.2.2)
        unfold RS.starts stR
        simp only [hl0, if_true]
      · rw [fwords_len]; simp [js_len, hl0]
  simp -dsimp [-sIf_run]
  refine told2_wp O seq_l (by simp) h fun t h => ?_
  simp -dsimp [-sIf_run, due_ok (st := t) (v := .lst (A.map .str)) O.1 seq_l (by simp), same_due]
  exact k t h.tail
theorem nd_app_one {α : Type} {xs : List α} {x : α} (h : xs.Nodup) (hx : x ∉ xs) : (xs ++ [x]).Nodup := nodup_snoc h hx
theorem allr_wp (h : Has st L) (m : (r, PoolC) ∈ L) (k : ∀ t, Has t L → Q (.bl true) t) : Wp Q X (m_ulaw_all_rods [.ref r] st) := by
  unfold m_ulaw_all_rods
  simp -dsimp [-sIf_run]
  refine draw_wp h m (by omega) (by omega) fun n0 t a b h F => ?_
  obtain ⟨n, hn⟩ : ∃ n : Nat, 2 + n0 = (n : Int) := ⟨(2 + n0).toNat, by omega⟩
  have hn2 : 2 ≤ n ∧ n ≤ 7 := by omega
  simp -dsimp [-sIf_run, hn]
  refine joints_wp (n := n) h m (by omega) fun s t s0 s1 h => ?_
  simp -dsimp [-sIf_run]
  refine pairs_wp (n := n) h (by omega) (by omega) fun q t h => ?_
  obtain ⟨l1, l2⟩ := allP_len n (by omega) hn2.1
  have hnd := allP_nd n (by omega)
  have hlen : ∀ t : Sto, Has t ((q, Ls ((allP n).map prM)) :: L) → fLen t [.ref q] = some (.int (allP n).length) := fun t h => by rw [len_ref (h.ls (.head _))]; simp
  simp -dsimp [-sIf_run, hlen t h]
  rw [← fw_js]
  refine draw_wp h (.tail _ m) (by omega) (by omega) fun lv t a2 b2 h F => ?_
  obtain ⟨l, rfl⟩ : ∃ l : Nat, lv = l := ⟨lv.toNat, by omega⟩
  obtain ⟨p, hp, mp⟩ := get_some (xs := allP n) (i := l) (by omega)
  obtain ⟨p1, p2, p3⟩ := mem_allP.mp mp
  simp -dsimp [-sIf_run]
  obtain ⟨A0, hA0⟩ : ∃ A0, A0 = fwords ⟨jsOf s n, [], []⟩ := ⟨_, rfl⟩
  rw [← hA0]
  have hq := h.ls (.head _)
  have hql : q < t.length := (List.getElem?_eq_some_iff.mp hq).1
  have c1 := lc_mapW (s := t) (env := [some (.ref r), some (.int n), some (.lst (A0.map .str)), some (.ref q), some (.int l), none, none, none, none, none, none, none]) (f := fun k : Nat => MV.int (0 + (k : Int))) (ys := List.range (allP n).length) (ok := fun _ => True) (mi := miRange (mCallF fLen (mCons (mVar 3) mNil))) (g := tgName 11) (mt := mCmp cNe (mVar 11) (mVar 4)) (me := mIx (mVar 3) (mVar 11)) (vs := [11]) (fun k => decide (k ≠ l)) (fun k => prM (((allP n)[k]?).getD (0, 0)))
    (by
      have q : Wp (fun v t' => v = ⟨intsM 0 (allP n).length, fun _ => True⟩ ∧ t' = t) noX (miRange (mCallF fLen (mCons (mVar 3) mNil)) [some (.ref r), some (.int n), some (.lst (A0.map .str)), some (.ref q), some (.int l), none, none, none, none, none, none, none] t) := by
        simp -dsimp [-sIf_run, hlen t h]
        omega
      obtain ⟨v, t', e, rfl, rfl⟩ := q.out
      rw [e]; rfl) (fun k hk a => by
      have hk := List.mem_range.mp hk
      have e : (allP n)[k]? = some (allP n)[k] := List.getElem?_eq_getElem hk
      have hix : ixF (t ++ [Cell.lst a]) (.ref q) (.int (k : Int)) = some (prM (allP n)[k]) := by
        rw [Z.ix_ref (show (t ++ [Cell.lst a])[q]? = some (.lst ((allP n).map prM)) by rw [List.getElem?_append_left hql]; exact hq), ix_m1 _ _ (by omega), List.getElem?_map]
        simp [e]
      have hne : (((k : Nat) : Int) = (l : Int)) = (k = l) := propext ⟨fun h => by omega, fun h => by omega⟩
      simp -dsimp [-sIf_run, wipeM, hix, e, hne]) (fun _ => trivial) (by simp; omega) (fun k _ _ a => pl_frz40 (enc_prM.pl12 trivial))
  rw [c1]
  have ech : (((List.range (allP n).length).filter fun k => decide (k ≠ l)).map fun k => prM (((allP n)[k]?).getD (0, 0))) = (chOf n l).map prM := by unfold chOf; rw [List.map_map]; rfl
  rw [ech, ch_eq n (by omega) l (by omega)]
  obtain ⟨ch, hch⟩ : ∃ ch, ch = (allP n).eraseIdx l := ⟨_, rfl⟩
  rw [← hch]
  have hperm : (allP n).Perm (p :: ch) := by rw [hch]; exact perm_erase hp
  obtain ⟨nd1, nd2⟩ := List.nodup_cons.mp ((List.Perm.nodup_iff hperm).mp hnd)
  have mch : ∀ x, x ∈ ch → 0 ≤ x.1 ∧ x.1 < x.2 ∧ x.2 < n := fun x hx => mem_allP.mp (hperm.mem_iff.mpr (.tail _ hx))
  have mall : ∀ x : Int × Int, 0 ≤ x.1 ∧ x.1 < x.2 ∧ x.2 < n → x = p ∨ x ∈ ch := fun x hx => List.mem_cons.mp (hperm.mem_iff.mp (mem_allP.mpr hx))
  have lch : ch.length ≤ 20 := by
    have := hperm.length_eq
    simp at this; omega
  clear c1 ech
  simp -dsimp [-sIf_run]
  obtain ⟨toR, htoR⟩ : ∃ f : Int × Int → R4, f = fun x => ⟨x.1, x.2, none, some 0⟩ := ⟨_, rfl⟩
  have hends : ∀ xs : List (Int × Int), (xs.map toR).map R4.ends = xs := fun xs => by rw [htoR, List.map_map]; exact List.map_id _
  refine wp_forM (f := prM) (fun d e t' => Seal (∃ (A : List Str) (e6 e7 : Option MV), t' = t ∧ A = fwords ⟨jsOf s n, d.map toR, []⟩ ∧ e = [some (.ref r), some (.int n), some (.lst (A.map .str)), some (.ref q), some (.int l), some (.lst (ch.map prM)), e6, e7, none, none, none, none]) ()) ⟨A0, _, _, rfl, hA0, rfl⟩ (fun _ _ _ _ => trivial) ?_ ?_
  · rintro d x rest _ t' hd ⟨A, e6, e7, e9, hA, rfl⟩
    subst e9
    have hl2 := congrArg List.length hd
    simp at hl2
    have hAl : A.length ≤ 200 := by rw [hA, fwords_len]; simp [js_len]; omega
    obtain ⟨x1, x2, x3⟩ := mch x (by rw [hd]; simp)
    have hx : rwd ((jsOf s n).map J.name) (toR x) = [("rod" : Str), nameOf x.1.toNat, nameOf x.2.toNat, ("any" : Str), ("0" : Str)] := by
      rw [htoR, rwd_w ⟨x1, by simp only; omega⟩ ⟨by simp only; omega, x3⟩]
      rfl
    have hcat := cat_s2 (s := t') (A := A) (B := rwd ((jsOf s n).map J.name) (toR x)) (by simp [rwd]; omega)
    rw [hx] at hcat
    simp only [List.map_cons, List.map_nil] at hcat
    simp -dsimp [-sIf_run, prM, name_okI x1 (show x.1 < 676 by omega), name_okI (show 0 ≤ x.2 by omega) (show x.2 < 676 by omega), hcat]
    exact sl ⟨A ++ [("rod" : Str), nameOf x.1.toNat, nameOf x.2.toNat, ("any" : Str), ("0" : Str)], some (.int x.1), some (.int x.2), rfl, by rw [List.map_append, List.map_singleton, fw_r, ← hA, hx], by simp⟩
  rintro _ t' ⟨A, e6, e7, e9, hA, rfl⟩
  subst e9
  obtain ⟨f, hf⟩ : ∃ f : Fm, f = ⟨jsOf s n, ch.map toR, []⟩ := ⟨_, rfl⟩
  have rok : ∀ x ∈ ch.map toR, 0 ≤ x.i ∧ x.i < x.j ∧ x.j < n ∧ lowI x.p ∧ lowI x.q := fun x hx => by
    obtain ⟨y, hy, rfl⟩ := List.mem_map.mp hx
    obtain ⟨y1, y2, y3⟩ := mch y hy
    rw [htoR]
    have low0 : lowI (some 0) := fun v hv => by cases hv; omega
    have lowN : lowI none := fun v hv => by cases hv
    exact ⟨y1, y2, y3, lowN, low0⟩
  have T : TF f := by rw [hf]; exact tf_of s0 s1 (by omega) (by omega) (by simp; omega) (by rw [hends]; exact nd2) rok List.nodup_nil (fun _ z => by cases z)
  have hAf : A = fwords f := by rw [hA, hf]
  have O1 : okT A none := by rw [hAf]; exact okT_f T
  -- a further rod
  obtain ⟨f2, hf2⟩ : ∃ f : Fm, f = ⟨jsOf s n, ch.map toR ++ [⟨p.1, p.2, some 3, some 4⟩], []⟩ := ⟨_, rfl⟩
  have hend2 : (ch.map toR ++ [(⟨p.1, p.2, some 3, some 4⟩ : R4)]).map R4.ends = ch ++ [p] := by rw [List.map_append, hends]; rfl
  have low3 : lowI (some 3) := fun v hv => by cases hv; omega
  have low4 : lowI (some 4) := fun v hv => by cases hv; omega
  have T2 : TF f2 := by
    rw [hf2]
    exact tf_of s0 s1 (by omega) (by omega) (by simp; omega) (by rw [hend2]; exact nodup_snoc nd2 nd1) (all_snoc rok ⟨p1, p2, p3, low3, low4⟩) List.nodup_nil (fun _ z => by cases z)
  have hp2w : rwd ((jsOf s n).map J.name) ⟨p.1, p.2, some 3, some 4⟩ = [("rod" : Str), nameOf p.1.toNat, nameOf p.2.toNat, ("3" : Str), ("4" : Str)] := by
    rw [rwd_w ⟨p1, by simp only; omega⟩ ⟨by simp only; omega, p3⟩]; rfl
  have hw2 : fwords f2 = A ++ [("rod" : Str), nameOf p.1.toNat, nameOf p.2.toNat, ("3" : Str), ("4" : Str)] := by rw [hf2, fw_r, hp2w, hA]
  simp -dsimp [-sIf_run, wps_sif]
  refine told2_wp O1 seq_l (by simp) h fun t h => ?_
  have hq := h.ls (.head _)
  have hix : ∀ t : Sto, Has t ((q, Ls ((allP n).map prM)) :: L) → ixF t (.ref q) (.int (l : Int)) = some (prM p) := fun t h => by
    rw [Z.ix_ref (h.ls (.head _)), ix_m1 _ _ (by omega), List.getElem?_map]
    simp [hp]
  have hdue0 := due_ok (st := t) (v := .lst (A.map .str)) (o := none) O1.1 seq_l (by simp)
  simp only [oM] at hdue0
  simp -dsimp [-sIf_run, hdue0, same_due]
  refine draw_wp h (.tail _ m) (by omega) (by omega) fun one t a3 b3 h F => ?_
  obtain ⟨one, rfl⟩ : ∃ k : Nat, one = k := ⟨one.toNat, by omega⟩
  have hAl : A.length ≤ 200 := by rw [hA, fwords_len]; simp [js_len]; omega
  obtain ⟨M, hM⟩ : ∃ M, M = A ++ [("rod" : Str), nameOf one, nameOf p.2.toNat, ("3" : Str), ("4" : Str)] := ⟨_, rfl⟩
  have hcat := cat_s2 (s := t) (A := A) (B := [("rod" : Str), nameOf one, nameOf p.2.toNat, ("3" : Str), ("4" : Str)]) (by simp; omega)
  rw [← hM] at hcat
  simp only [List.map_cons, List.map_nil] at hcat
  have hp1' : ∀ t : Sto, ixF t (prM p) (.int 0) = some (.int p.1) := fun t => rfl
  have hp2' : ∀ t : Sto, ixF t (prM p) (.int 1) = some (.int p.2) := fun t => rfl
  simp -dsimp [-sIf_run, hix t h, hp2', name_ok (show one < 676 by omega), name_okI (show 0 ≤ p.2 by omega) (show p.2 < 676 by omega), hcat]
  obtain ⟨bad, hbad⟩ : ∃ bad : Option Int, bad = if (one : Int) = p.1 then none else some ((A.length : Int) + 1) := ⟨_, rfl⟩
  have notin : ∀ (g : Fm) (k : Nat), g.js = jsOf s n → (∀ k' : Nat, k < k' → k' < n → ((k : Int), (k' : Int)) ∈ g.rs.map R4.ends) → k ∉ (stR [] g).starts := fun g k hj hall hin => by
    obtain ⟨_, q1, q2⟩ := mem_starts.mp hin
    obtain ⟨k', hk'⟩ := List.exists_mem_of_ne_nil _ q2
    obtain ⟨a1, a2, a3⟩ := mem_openE.mp hk'
    have : k' < n := by
      have : (stR [] g).js.length = n := by show g.js.length = n; rw [hj, js_len]
      omega
    exact a3 (hall k' a1 this)
  have O2 : okT M bad := by
    rw [hbad]
    by_cases c : (one : Int) = p.1
    · rw [if_pos c]
      have e : one = p.1.toNat := by omega
      rw [hM, e, ← hw2]
      exact okT_f T2
    · rw [if_neg c]
      have b1 := rwd_bl (s := s) (n := n) (x := ⟨p.1, p.2, some 3, some 4⟩) (by omega) ⟨p1, by simp only; omega⟩ ⟨by simp only; omega, p3⟩ ⟨low3, low4⟩
      have b2 := nameOf_nm one (by omega)
      rw [hp2w] at b1
      have b3 : ∀ w ∈ [("rod" : Str), nameOf one, nameOf p.2.toNat, ("3" : Str), ("4" : Str)], 32 ∉ w.cps.toList ∧ w.length ≤ 20 := fun w hw => by
        simp only [List.mem_cons, List.not_mem_nil, or_false] at hw
        rcases hw with rfl | rfl | hw
        · decide +kernel
        · exact ⟨nm_bl b2, by have := nm_len b2; omega⟩
        · exact b1 w (by rcases hw with rfl | rfl | rfl <;> simp)
      rw [hM, hAf]
      refine ⟨wf_of T (fun w hw => (b3 w hw).1) (fun w hw => (b3 w hw).2) (by simp), (fwords f).length + 1, ?_, by omega⟩
      have en : nmA (f.js.map J.name) (one : Nat) = nameOf one := by rw [hf]; exact nmA_js (by omega) (by omega)
      rw [← en]
      refine read_badrod T (by rw [hf]) (by rw [hf, js_len]; omega) (fun z => ?_) (notin f one (by rw [hf]) fun k' h1 h2 => ?_)
      · have : p.1.toNat ∈ (stR [] f).starts := by
          refine mem_starts.mpr ⟨by rw [hf]; simp [stR]; omega, by rw [hf]; show p.1.toNat < (jsOf s n).length; rw [js_len]; omega, fun z2 => ?_⟩
          have : p.2.toNat ∈ (stR [] f).openE p.1.toNat := mem_openE.mpr ⟨by omega, by rw [hf]; show p.2.toNat < (jsOf s n).length; rw [js_len]; omega, by
            rw [Int.toNat_of_nonneg p1, Int.toNat_of_nonneg (by omega), hf]
            show p ∉ (ch.map toR).map R4.ends
            rw [hends]; exact nd1⟩
          rw [z2] at this; cases this
        rw [z] at this; cases this
      · rw [hf]
        show _ ∈ (ch.map toR).map R4.ends
        rw [hends]
        refine (mall ((one : Int), (k' : Int)) ⟨by simp only; omega, by simp only; omega, by simp only; omega⟩).resolve_left fun e => c ?_
        rw [← e]
  refine WpS.cut (fun e t' => Seal (t' = t ∧ e = [some (.ref r), some (.int n), some (.lst (A.map .str)), some (.ref q), some (.int l), some (.lst (ch.map prM)), some (.int one), e7, some (.lst (M.map .str)), some (oM bad), none, none]) ()) ?_ ?_
  · simp -dsimp [-sIf_run, wps_sif, hix t h, hp1']
    refine ⟨fun c => ?_, fun c => ?_⟩
    · exact sl ⟨rfl, by rw [hbad, if_neg c]; simp [oM]⟩
    · exact sl ⟨rfl, by rw [hbad, if_pos c]; rfl⟩
  rintro _ t' ⟨e9, rfl⟩
  subst e9
  simp -dsimp [-sIf_run, wps_sif]
  refine told2_wp O2 seq_l (by simp) h fun t h => ?_
  have hdue2 := due_ok (st := t) (v := .lst (M.map .str)) (o := bad) O2.1 seq_l (by simp)
  obtain ⟨W2, hW2⟩ : ∃ W, W = fwords f2 := ⟨_, rfl⟩
  obtain ⟨W3, hW3⟩ : ∃ W, W = W2 ++ [("rod" : Str), ("a" : Str), ("b" : Str), ("any" : Str), ("any" : Str)] := ⟨_, rfl⟩
  have hcat2 := cat_s2 (s := t) (A := A) (B := [("rod" : Str), nameOf p.1.toNat, nameOf p.2.toNat, ("3" : Str), ("4" : Str)]) (by simp; omega)
  rw [← hw2, ← hW2] at hcat2
  have hW2l : W2.length ≤ 300 := by rw [hW2]; exact fwords_few T2
  have hcat3 := cat_s2 (s := t) (A := W2) (B := [("rod" : Str), ("a" : Str), ("b" : Str), ("any" : Str), ("any" : Str)]) (by simp; omega)
  rw [← hW3] at hcat3
  simp only [List.map_cons, List.map_nil] at hcat2 hcat3
  simp -dsimp [-sIf_run, hdue2, same_due, hix t h, hp1', hp2', name_okI p1 (show p.1 < 676 by omega), name_okI (show 0 ≤ p.2 by omega) (show p.2 < 676 by omega), hcat2, hcat3]
  have O3 : okT W3 (some (W2.length : Int)) := by
    rw [hW3, hW2]
    have b3 : ∀ w ∈ [("rod" : Str), ("a" : Str), ("b" : Str), ("any" : Str), ("any" : Str)], 32 ∉ w.cps.toList ∧ w.length ≤ 20 := by decide +kernel
    refine ⟨wf_of T2 (fun w hw => (b3 w hw).1) (fun w hw => (b3 w hw).2) (by simp), (fwords f2).length, ?_, rfl⟩
    refine read_stop T2 ⟨fun c => absurd (Option.some.inj c) kw_ne.1, fun _ => by rw [hf2]⟩ (by simp) (fun _ => ?_) (fun c => absurd (Option.some.inj c).symm kw_ne.2.2)
    refine List.eq_nil_iff_forall_not_mem.mpr fun k hk => ?_
    refine notin f2 k (by rw [hf2]) (fun k' h1 h2 => ?_) hk
    rw [hf2]
    show _ ∈ (ch.map toR ++ [(⟨p.1, p.2, some 3, some 4⟩ : R4)]).map R4.ends
    rw [hend2]
    rcases mall ((k : Int), (k' : Int)) ⟨by simp only; omega, by simp only; omega, by simp only; omega⟩ with e | e
    · rw [e]; simp
    · exact List.mem_append_left _ e
  refine told2_wp O3 seq_l (by simp) h fun t h => ?_
  have e5 : MV.tup [.str ("refused" : Str), .int (W2.length : Int)] = dueV W3 (some (W2.length : Int)) := rfl
  simp -dsimp [-sIf_run, e5, same_due]
  exact k t h.tail
end
end K04

namespace K04
open PySem L2 Z
/-! ### all holds -/
section
variable {st : Sto} {L : Heapy} {r : Nat} {Q : MV → Sto → Prop} {X : Nat → List (Nat × MV) → Sto → Prop}
def hsM (p : Int × Int) : MV := .tup [.int p.1, .str (axW p.2.toNat)]
def allH (n : Nat) : List (Int × Int) := (List.range n).flatMap fun k : Nat => [((k : Int), (0 : Int)), ((k : Int), 1)]
theorem mem_allH {n : Nat} {p : Int × Int} : p ∈ allH n ↔ 0 ≤ p.1 ∧ p.1 < n ∧ (p.2 = 0 ∨ p.2 = 1) := by
  unfold allH
  rw [List.mem_flatMap]
  constructor
  · rintro ⟨i, hi, hp⟩
    have := List.mem_range.mp hi
    simp only [List.mem_cons, List.not_mem_nil, or_false] at hp
    rcases hp with rfl | rfl
    · exact ⟨by simp only; omega, by simp only; omega, .inl rfl⟩
    · exact ⟨by simp only; omega, by simp only; omega, .inr rfl⟩
  · rintro ⟨h1, h2, h3⟩
    obtain ⟨a, b⟩ := p
    simp only at h1 h2 h3
    refine ⟨a.toNat, List.mem_range.mpr (by omega), ?_⟩
    rw [Int.toNat_of_nonneg h1]
    rcases h3 with rfl | rfl <;> simp
theorem allH_nd : ∀ n : Nat, n < 13 → (allH n).Nodup := by decide +kernel
theorem allH_len : ∀ n : Nat, n < 13 → (allH n).length = 2 * n := by decide +kernel
theorem allh_wp (h : Has st L) (m : (r, PoolC) ∈ L) (k : ∀ t, Has t L → Q (.bl true) t) : Wp Q X (m_ulaw_all_holds [.ref r] st) := by
  unfold m_ulaw_all_holds
  simp -dsimp [-sIf_run]
  refine draw_wp h m (by omega) (by omega) fun n0 t a b h F => ?_
  obtain ⟨n, hn⟩ : ∃ n : Nat, 1 + n0 = (n : Int) := ⟨(1 + n0).toNat, by omega⟩
  have hn2 : 1 ≤ n ∧ n ≤ 12 := by omega
  have hnd := allH_nd n (by omega)
  have hll := allH_len n (by omega)
  simp -dsimp [-sIf_run, hn]
  refine joints_wp (n := n) h m (by omega) fun s t s0 s1 h => ?_
  simp -dsimp [-sIf_run]
  refine ⟨by omega, ?_⟩
  rw [← fw_js]
  obtain ⟨A0, hA0⟩ : ∃ A0, A0 = fwords ⟨jsOf s n, [], []⟩ := ⟨_, rfl⟩
  rw [← hA0]
  refine wp_forR (fun i e t' => Seal (∃ (H : List (Int × Int)) (e4 : Option MV), t' = t ∧ H = allH i ∧ e = [some (.ref r), some (.int n), some (.lst (A0.map .str)), some (.lst (H.map hsM)), e4, none, none, none, none, none, none]) ()) ⟨[], _, rfl, rfl, rfl⟩ (fun _ _ _ _ => trivial) ?_ ?_
  · rintro i _ t' hi ⟨H, e4, e9, hH, rfl⟩
    subst e9
    have hHl : H.length = 2 * i := by rw [hH, allH_len i (by omega)]
    have hcat : bAdd t' (.lst (H.map hsM)) (.lst [.tup [.int i, .str ("x" : Str)], .tup [.int i, .str ("y" : Str)]]) = some (.lst ((H ++ [((i : Int), 0), ((i : Int), 1)]).map hsM)) := by
      rw [cat_l (by simp; omega), List.map_append]; rfl
    simp -dsimp [-sIf_run, hcat]
    refine sl ⟨H ++ [((i : Int), 0), ((i : Int), 1)], some (.int i), rfl, ?_, by simp⟩
    rw [hH]
    unfold allH
    rw [List.range_succ, List.flatMap_append]
    simp
  rintro _ t' ⟨H, e4, e9, hH, rfl⟩
  subst e9
  have hHl : H.length = 2 * n := by rw [hH, hll]
  have hlenH : (H.map hsM).length = 2 * n := by simp [hHl]
  simp -dsimp [-sIf_run]
  refine draw_wp h m (by omega) (by omega) fun lv t a2 b2 h F => ?_
  obtain ⟨l, rfl⟩ : ∃ l : Nat, lv = l := ⟨lv.toNat, by omega⟩
  obtain ⟨p, hp, mp⟩ := get_some (xs := H) (i := l) (by omega)
  have mp' : p ∈ allH n := by rw [← hH]; exact mp
  obtain ⟨p1, p2, p3⟩ := mem_allH.mp mp'
  simp -dsimp [-sIf_run]
  refine ⟨by omega, ?_⟩
  have hixH : ∀ (t : Sto) (i : Nat) (x : Int × Int), H[i]? = some x → ixF t (.lst (H.map hsM)) (.int (i : Int)) = some (hsM x) := fun t i x hx => by
    rw [Z.ix_lst, ix_m1 _ _ (by omega), List.getElem?_map]
    simp [hx]
  have h0' : ∀ (t : Sto) (x : Int × Int), ixF t (hsM x) (.int 0) = some (.int x.1) := fun t x => rfl
  have h1' : ∀ (t : Sto) (x : Int × Int), ixF t (hsM x) (.int 1) = some (.str (axW x.2.toNat)) := fun t x => rfl
  refine wp_forR (fun i e t' => Seal (∃ (A : List Str) (e6 : Option MV), t' = t ∧ A = fwords ⟨jsOf s n, [], (H.take i).eraseIdx l⟩ ∧ e = [some (.ref r), some (.int n), some (.lst (A.map .str)), some (.lst (H.map hsM)), e4, some (.int l), e6, none, none, none, none]) ()) ⟨A0, _, rfl, by rw [hA0]; simp, rfl⟩ (fun _ _ _ _ => trivial) ?_ ?_
  · rintro i _ t' hi ⟨A, e6, e9, hA, rfl⟩
    subst e9
    obtain ⟨x, hx, mx⟩ := get_some (xs := H) (i := i) (by omega)
    obtain ⟨x1, x2, x3⟩ := mem_allH.mp (show x ∈ allH n by rw [← hH]; exact mx)
    have htk : H.take (i + 1) = H.take i ++ [x] := by
      rw [List.take_add_one, hx]; rfl
    have hAl : A.length ≤ 200 := by
      rw [hA, fwords_len]
      have := List.length_eraseIdx_le (H.take i) l
      have : (H.take i).length ≤ 2 * n := by rw [List.length_take]; omega
      simp only [js_len, List.length_nil]
      omega
    have hwx : hwd ((jsOf s n).map J.name) x = [("hold" : Str), nameOf x.1.toNat, axW x.2.toNat] := hwd_w ⟨x1, x2⟩
    have hcat := cat_s2 (s := t') (A := A) (B := hwd ((jsOf s n).map J.name) x) (by simp [hwd]; omega)
    rw [hwx] at hcat
    simp only [List.map_cons, List.map_nil] at hcat
    have hne : (((i : Nat) : Int) = (l : Int)) = (i = l) := propext ⟨fun h => by omega, fun h => by omega⟩
    simp -dsimp [-sIf_run, wps_sif, hixH t' i x hx, h0', h1', name_okI x1 (show x.1 < 676 by omega), hcat, hne]
    refine ⟨fun c => sl ⟨A ++ [("hold" : Str), nameOf x.1.toNat, axW x.2.toNat], some (.int i), rfl, ?_, by simp⟩, fun c => sl ⟨A, some (.int i), rfl, ?_, rfl⟩⟩
    · have : (H.take (i + 1)).eraseIdx l = (H.take i).eraseIdx l ++ [x] := by
        rw [htk]
        have htl : (H.take i).length = i := by rw [List.length_take]; omega
        by_cases c2 : l < i
        · rw [List.eraseIdx_append_of_lt_length (by omega)]
        · rw [List.eraseIdx_of_length_le (by simp; omega), List.eraseIdx_of_length_le (by omega)]
      rw [this, fw_h, ← hA, hwx]
    · have : (H.take (i + 1)).eraseIdx l = (H.take i).eraseIdx l := by
        have htl : (H.take i).length = i := by rw [List.length_take]; omega
        have r1 : (H.take i).eraseIdx l = H.take i := List.eraseIdx_of_length_le (by omega)
        rw [r1, htk, List.eraseIdx_append_of_length_le (by omega), htl, c]
        simp
      rw [this, hA]
  rintro _ t' ⟨A, e6, e9, hA, rfl⟩
  subst e9
  have htl : H.take H.length = H := List.take_of_length_le (by omega)
  rw [htl] at hA
  obtain ⟨ch, hch⟩ : ∃ ch, ch = H.eraseIdx l := ⟨_, rfl⟩
  rw [← hch] at hA
  have hperm : H.Perm (p :: ch) := by rw [hch]; exact perm_erase hp
  obtain ⟨nd1, nd2⟩ := List.nodup_cons.mp ((List.Perm.nodup_iff hperm).mp (by rw [hH]; exact hnd))
  have mch : ∀ x, x ∈ ch → 0 ≤ x.1 ∧ x.1 < n ∧ (x.2 = 0 ∨ x.2 = 1) := fun x hx => mem_allH.mp (by rw [← hH]; exact hperm.mem_iff.mpr (.tail _ hx))
  have mall : ∀ x : Int × Int, 0 ≤ x.1 ∧ x.1 < n ∧ (x.2 = 0 ∨ x.2 = 1) → x = p ∨ x ∈ ch := fun x hx => List.mem_cons.mp (hperm.mem_iff.mp (by rw [hH]; exact mem_allH.mpr hx))
  have lch : ch.length ≤ 24 := by
    have := hperm.length_eq
    simp at this; omega
  obtain ⟨f, hf⟩ : ∃ f : Fm, f = ⟨jsOf s n, [], ch⟩ := ⟨_, rfl⟩
  have T : TF f := by rw [hf]; exact tf_of s0 s1 (by omega) (by omega) (by simp) (by simp) (fun _ z => by cases z) nd2 mch
  have hAf : A = fwords f := by rw [hA, hf]
  have O1 : okT A none := by rw [hAf]; exact okT_f T
  obtain ⟨f2, hf2⟩ : ∃ f : Fm, f = ⟨jsOf s n, [], ch ++ [p]⟩ := ⟨_, rfl⟩
  have T2 : TF f2 := by
    rw [hf2]
    exact tf_of s0 s1 (by omega) (by omega) (by simp) (by simp) (fun _ z => by cases z) (nodup_snoc nd2 nd1) (all_snoc mch ⟨p1, p2, p3⟩)
  have hp2w : hwd ((jsOf s n).map J.name) p = [("hold" : Str), nameOf p.1.toNat, axW p.2.toNat] := hwd_w ⟨p1, p2⟩
  have hw2 : fwords f2 = A ++ [("hold" : Str), nameOf p.1.toNat, axW p.2.toNat] := by rw [hf2, fw_h, hp2w, hA]
  have hAl : A.length ≤ 200 := by rw [hA, fwords_len]; simp [js_len]; omega
  simp -dsimp [-sIf_run, wps_sif]
  refine told2_wp O1 seq_l (by simp) h fun t h => ?_
  have hdue0 := due_ok (st := t) (v := .lst (A.map .str)) (o := none) O1.1 seq_l (by simp)
  simp only [oM] at hdue0
  simp -dsimp [-sIf_run, hdue0, same_due]
  refine draw_wp h m (by omega) (by omega) fun one t a3 b3 h F => ?_
  obtain ⟨one, rfl⟩ : ∃ k : Nat, one = k := ⟨one.toNat, by omega⟩
  obtain ⟨M, hM⟩ : ∃ M, M = A ++ [("hold" : Str), nameOf one, axW p.2.toNat] := ⟨_, rfl⟩
  have hcat := cat_s2 (s := t) (A := A) (B := [("hold" : Str), nameOf one, axW p.2.toNat]) (by simp; omega)
  rw [← hM] at hcat
  simp only [List.map_cons, List.map_nil] at hcat
  simp -dsimp [-sIf_run, hixH t l p hp, h1', name_ok (show one < 676 by omega), hcat]
  obtain ⟨bad, hbad⟩ : ∃ bad : Option Int, bad = if (one : Int) = p.1 then none else some ((A.length : Int) + 1) := ⟨_, rfl⟩
  have notin : ∀ (g : Fm) (k : Nat), g.js = jsOf s n → (∀ x : Int, x = 0 ∨ x = 1 → k < n → ((k : Int), x) ∈ g.hs) → k ∉ (stH [] g).loose := fun g k hj hall hin => by
    obtain ⟨q1, q2⟩ := mem_loose.mp hin
    obtain ⟨k', hk'⟩ := List.exists_mem_of_ne_nil _ q2
    obtain ⟨a1, a2⟩ := mem_openA.mp hk'
    refine a2 (hall _ (by omega) ?_)
    have : (stH [] g).js.length = n := by show g.js.length = n; rw [hj, js_len]
    omega
  have O2 : okT M bad := by
    rw [hbad]
    by_cases c : (one : Int) = p.1
    · rw [if_pos c]
      have e : one = p.1.toNat := by omega
      rw [hM, e, ← hw2]
      exact okT_f T2
    · rw [if_neg c]
      have b2 := nameOf_nm one (by omega)
      have b3 : ∀ w ∈ [("hold" : Str), nameOf one, axW p.2.toNat], 32 ∉ w.cps.toList ∧ w.length ≤ 20 := fun w hw => by
        simp only [List.mem_cons, List.not_mem_nil, or_false] at hw
        rcases hw with rfl | rfl | rfl
        · decide +kernel
        · exact ⟨nm_bl b2, by have := nm_len b2; omega⟩
        · exact ⟨axW_bl, by have := axW_len (a := p.2.toNat); omega⟩
      rw [hM, hAf]
      refine ⟨wf_of T (fun w hw => (b3 w hw).1) (fun w hw => (b3 w hw).2) (by simp), (fwords f).length + 1, ?_, by omega⟩
      have en : nmA (f.js.map J.name) (one : Nat) = nameOf one := by rw [hf]; exact nmA_js (by omega) (by omega)
      rw [← en]
      refine read_badhold T (by rw [hf, js_len]; omega) (fun z => ?_) (notin f one (by rw [hf]) fun x h1 h2 => ?_)
      · have : p.1.toNat ∈ (stH [] f).loose := by
          refine mem_loose.mpr ⟨by rw [hf]; show p.1.toNat < (jsOf s n).length; rw [js_len]; omega, fun z2 => ?_⟩
          have : p.2.toNat ∈ (stH [] f).openA p.1.toNat := mem_openA.mpr ⟨by omega, by
            rw [Int.toNat_of_nonneg p1, Int.toNat_of_nonneg (by omega), hf]
            exact nd1⟩
          rw [z2] at this; cases this
        rw [z] at this; cases this
      · rw [hf]
        refine (mall ((one : Int), x) ⟨by simp only; omega, by simp only; omega, h1⟩).resolve_left fun e => c ?_
        rw [← e]
  refine WpS.cut (fun e t' => Seal (t' = t ∧ e = [some (.ref r), some (.int n), some (.lst (A.map .str)), some (.lst (H.map hsM)), e4, some (.int l), e6, some (.int one), some (.lst (M.map .str)), some (oM bad), none]) ()) ?_ ?_
  · simp -dsimp [-sIf_run, wps_sif, hixH t l p hp, h0']
    refine ⟨fun c => ?_, fun c => ?_⟩
    · exact sl ⟨rfl, by rw [hbad, if_neg c]; simp [oM]⟩
    · exact sl ⟨rfl, by rw [hbad, if_pos c]; rfl⟩
  rintro _ t' ⟨e9, rfl⟩
  subst e9
  simp -dsimp [-sIf_run, wps_sif]
  refine told2_wp O2 seq_l (by simp) h fun t h => ?_
  have hdue2 := due_ok (st := t) (v := .lst (M.map .str)) (o := bad) O2.1 seq_l (by simp)
  obtain ⟨W2, hW2⟩ : ∃ W, W = fwords f2 := ⟨_, rfl⟩
  obtain ⟨W3, hW3⟩ : ∃ W, W = W2 ++ [("hold" : Str), ("a" : Str), ("x" : Str)] := ⟨_, rfl⟩
  have hcat2 := cat_s2 (s := t) (A := A) (B := [("hold" : Str), nameOf p.1.toNat, axW p.2.toNat]) (by simp; omega)
  rw [← hw2, ← hW2] at hcat2
  have hW2l : W2.length ≤ 300 := by rw [hW2]; exact fwords_few T2
  have hcat3 := cat_s2 (s := t) (A := W2) (B := [("hold" : Str), ("a" : Str), ("x" : Str)]) (by simp; omega)
  rw [← hW3] at hcat3
  simp only [List.map_cons, List.map_nil] at hcat2 hcat3
  simp -dsimp [-sIf_run, hdue2, same_due, hixH t l p hp, h0', h1', name_okI p1 (show p.1 < 676 by omega), hcat2, hcat3]
  have O3 : okT W3 (some (W2.length : Int)) := by
    rw [hW3, hW2]
    have b3 : ∀ w ∈ [("hold" : Str), ("a" : Str), ("x" : Str)], 32 ∉ w.cps.toList ∧ w.length ≤ 20 := by decide +kernel
    refine ⟨wf_of T2 (fun w hw => (b3 w hw).1) (fun w hw => (b3 w hw).2) (by simp), (fwords f2).length, ?_, rfl⟩
    refine read_stop T2 ⟨fun c => absurd (Option.some.inj c) kw_ne.2.1, fun c => absurd (Option.some.inj c) kw_ne.2.2⟩ (by simp) (fun c => absurd (Option.some.inj c) kw_ne.2.2) (fun _ => ?_)
    refine List.eq_nil_iff_forall_not_mem.mpr fun k hk => ?_
    refine notin f2 k (by rw [hf2]) (fun x h1 h2 => ?_) hk
    rw [hf2]
    show _ ∈ ch ++ [p]
    rcases mall ((k : Int), x) ⟨by simp only; omega, by simp only; omega, h1⟩ with e | e
    · rw [e]; simp
    · exact List.mem_append_left _ e
  refine told2_wp O3 seq_l (by simp) h fun t h => ?_
  have e5 : MV.tup [.str ("refused" : Str), .int (W2.length : Int)] = dueV W3 (some (W2.length : Int)) := rfl
  simp -dsimp [-sIf_run, e5, same_due]
  exact k t h
end
/-! ### the law -/
theorem law_true (ns : List Int) (hn : ns.length ≤ 63) (hb : ∀ k ∈ ns, nb k ≤ 1048576) : ∃ s, m_law [.frz (ns.map .int)] [] = .ok (.bl true) s := by
  have q : Wp (fun v _ => v = .bl true) noX (m_law [.frz (ns.map .int)] []) := by
    unfold m_law
    simp -dsimp [-sIf_run]
    refine pool_wp hn hb fun t h => ?_
    simp -dsimp [-sIf_run]
    refine draw_wp h (.head _) (by omega) (by omega) fun n0 t a b h F => ?_
    obtain ⟨n, hn⟩ : ∃ n : Nat, 11 + n0 = (n : Int) := ⟨(11 + n0).toNat, by omega⟩
    have hn2 : 11 ≤ n ∧ n ≤ 13 := by omega
    simp -dsimp [-sIf_run, hn]
    refine joints_wp (n := n) h (.head _) (by omega) fun s t s0 s1 h => ?_
    rw [← fw_js]
    obtain ⟨A, hA⟩ : ∃ A, A = fwords ⟨jsOf s n, [], []⟩ := ⟨_, rfl⟩
    rw [← hA]
    obtain ⟨bad, hbad⟩ : ∃ bad : Option Int, bad = if (n : Int) = 13 then some 48 else none := ⟨_, rfl⟩
    have O : okT A bad := by
      rw [hbad, hA]
      by_cases c : (n : Int) = 13
      · rw [if_pos c]
        have e : n = 13 := by omega
        subst e
        have T : TF ⟨jsOf s 12, [], []⟩ := tf_of s0 s1 (by omega) (by omega) (by simp) (by simp) (fun _ z => by cases z) List.nodup_nil (fun _ z => by cases z)
        have e2 : jsOf s 13 = jsOf s 12 ++ [⟨nameOf 12, s + (12 : Nat), -((12 : Nat) : Int)⟩] := by
          unfold jsOf
          rw [List.range_succ, List.map_append]; rfl
        have e3 : fwords ⟨jsOf s 13, [], []⟩ = fwords ⟨jsOf s 12, [], []⟩ ++ jw ⟨nameOf 12, s + (12 : Nat), -((12 : Nat) : Int)⟩ := by
          rw [fw_js, fw_js, e2, List.flatMap_append]; simp
        rw [e3]
        have b3 : ∀ w ∈ jw ⟨nameOf 12, s + (12 : Nat), -((12 : Nat) : Int)⟩, 32 ∉ w.cps.toList ∧ w.length ≤ 20 := fun w hw => by
          simp only [jw, List.mem_cons, List.not_mem_nil, or_false] at hw
          rcases hw with rfl | rfl | rfl | rfl
          · decide +kernel
          · decide +kernel
          · exact ⟨iW_bl ⟨by omega, by omega⟩, by have := iW_len (i := s + (12 : Nat)) ⟨by omega, by omega⟩; omega⟩
          · decide +kernel
        refine ⟨wf_of T (fun w hw => (b3 w hw).1) (fun w hw => (b3 w hw).2) (by simp [jw]), (fwords ⟨jsOf s 12, [], []⟩).length, ?_, by rw [fwords_len]; simp [js_len]⟩
        exact read_stop T ⟨fun _ _ _ => by rw [js_len]; omega, fun c => absurd (Option.some.inj c).symm kw_ne.1⟩ (by simp [jw]) (fun c => absurd (Option.some.inj c).symm kw_ne.1) (fun c => absurd (Option.some.inj c).symm kw_ne.2.1)
      · rw [if_neg c]
        exact okT_f (tf_of s0 s1 (by omega) (by omega) (by simp) (by simp) (fun _ z => by cases z) List.nodup_nil (fun _ z => by cases z))
    simp -dsimp [-sIf_run]
    refine WpS.cut (fun e t' => Seal (t' = t ∧ e = [some (.frz (ns.map .int)), some (.ref 0), some (.int n), some (.lst (A.map .str)), some (oM bad)]) ()) ?_ ?_
    · simp -dsimp [-sIf_run, wps_sif]
      refine ⟨fun c => ?_, fun c => ?_⟩
      · exact sl ⟨rfl, by rw [hbad, if_pos (by omega)]; rfl⟩
      · exact sl ⟨rfl, by rw [hbad, if_neg (by omega)]; rfl⟩
    rintro _ t' ⟨e9, rfl⟩
    subst e9
    simp -dsimp [-sIf_run, wps_sif]
    refine told2_wp O seq_l (by simp) h fun t h => ?_
    have hdue2 := due_ok (st := t) (v := .lst (A.map .str)) (o := bad) O.1 seq_l (by simp)
    simp -dsimp [-sIf_run, hdue2, same_due]
    refine near_wp h (.head _) fun t h => ?_
    simp -dsimp [-sIf_run]
    refine many_wp h (.head _) fun t h => ?_
    simp -dsimp [-sIf_run]
    refine allr_wp h (.head _) fun t h => ?_
    simp -dsimp [-sIf_run]
    refine allh_wp h (.head _) fun t h => ?_
    simp -dsimp [-sIf_run]
  obtain ⟨v, t, e, rfl⟩ := q.out
  exact ⟨t, e⟩
end K04

namespace K04
open PySem L2 Z
section
variable {w : World} {K : PySem.W.Frag} {mg : Str → Option Value} {base : Heap}
theorem has_of {c : Nat} (h : (tx K).has c = true) : c = 21 ∨ c = 23 ∨ c = 22 := by
  have h2 : [21, 23, 22].contains c = true := h
  simpa using h2
theorem hasX_of {c : Nat} (h : (tx K).hasX c = true) : c = 2 ∨ c = 1 := by
  have h2 : [2, 1].contains c = true := h
  simpa using h2
theorem hasCases {u : Value} {d : Nat} (_ : TT K mg) (h21 : PySem.W.kitOne K (.ref (He.ga K ("Frame" : Str))) u = some (21 == d)) (h23 : PySem.W.kitOne K (.ref (He.ga K ("Reader" : Str))) u = some (23 == d)) (h22 : PySem.W.kitOne K (.ref (He.ga K ("Cursor" : Str))) u = some (22 == d)) : ∀ c, (tx K).has c = true → PySem.W.kitOne K (.ref ((tx K).cls c)) u = some (c == d) := fun c h => by
  rcases has_of h with rfl | rfl | rfl
  · exact h21
  · exact h23
  · exact h22
theorem hasXCases {p : Value → Option Bool} {b : Nat → Bool} (_ : TT K mg) (h2 : p (.ref (He.ga K ("BadFrame" : Str))) = some (b 2)) (h1 : p (.ref (He.ga K ("BadText" : Str))) = some (b 1)) {c : Nat} (h : (tx K).hasX c = true) : p (.ref ((tx K).cls c)) = some (b c) := by
  rcases hasX_of h with rfl | rfl
  · exact h2
  · exact h1
theorem clsAll (T : TT K mg) : ClsAll (tx K) := fun c h => by
  rcases has_of h with rfl | rfl | rfl
  · refine ⟨T.cls 78, fun f hf => ?_⟩
    rcases List.mem_cons.mp hf with rfl | hf
    · exact T.no 79
    rcases List.mem_cons.mp hf with rfl | hf
    · exact T.no 80
    rcases List.mem_cons.mp hf with rfl | hf
    · exact T.no 81
    cases hf
  · refine ⟨T.cls 83, fun f hf => ?_⟩
    rcases List.mem_cons.mp hf with rfl | hf
    · exact T.no 84
    rcases List.mem_cons.mp hf with rfl | hf
    · exact T.no 85
    rcases List.mem_cons.mp hf with rfl | hf
    · exact T.no 86
    rcases List.mem_cons.mp hf with rfl | hf
    · exact T.no 87
    cases hf
  · refine ⟨T.cls 89, fun f hf => ?_⟩
    rcases List.mem_cons.mp hf with rfl | hf
    · exact T.no 90
    rcases List.mem_cons.mp hf with rfl | hf
    · exact T.no 91
    cases hf
theorem insAll (T : TT K mg) : ∀ c, (tx K).has c = true → InsTy K ((tx K).cls c) := fun c h => by
  rcases has_of h with rfl | rfl | rfl
  · exact T.ins 82
  · exact T.ins 88
  · exact T.ins 92
theorem excAll (T : TT K mg) : ∀ c, (tx K).hasX c = true → ExcC K ((tx K).cls c) := fun c h => by
  rcases hasX_of h with rfl | rfl
  · exact T.exi 93
  · exact T.exi 94
theorem xfAll (T : TT K mg) : ∀ c, (tx K).hasX c = true → XfC K ((tx K).cls c) := fun c h => (excAll T c h).xf
theorem noX_at (T : TT K mg) {c : Nat} (h : (tx K).hasX c = true) : PySem.W.findIn K (.ref ((tx K).cls c)) ("at" : Str) = some none := by
  rcases hasX_of h with rfl | rfl
  · exact T.no 96
  · exact T.no 97
theorem ia_BadText (T : TT K mg) : IniA P K (He.ga K ("BadText" : Str)) (He.fAd K (("BadText" : Str), some "__init__")) ("BadText.__init__" : Str) ("at" : Str) := TxtI.iniA T 0 98 (d := i_BadText) (file := P.main.file) rfl rfl rfl (by kernel_rfl) rfl rfl rfl ⟨_, _, _, rfl, by repeat first | exact .nil | refine .cons (.c (by decide)) ?_ | refine .cons .f ?_, by decide⟩ ⟨by decide, by decide, by decide, by decide⟩ (fun _ _ _ _ _ _ _ _ _ => rfl) ⟨fun _ => ⟨_, rfl⟩, fun _ => rfl, fun _ => rfl, fun _ => rfl⟩
theorem ia_BadFrame (T : TT K mg) : IniA P K (He.ga K ("BadFrame" : Str)) (He.fAd K (("BadFrame" : Str), some "__init__")) ("BadFrame.__init__" : Str) ("what" : Str) := TxtI.iniA T 1 99 (d := i_BadFrame) (file := P.main.file) rfl rfl rfl (by kernel_rfl) rfl rfl rfl ⟨_, _, _, rfl, by repeat first | exact .nil | refine .cons (.c (by decide)) ?_ | refine .cons .f ?_, by decide⟩ ⟨by decide, by decide, by decide, by decide⟩ (fun _ _ _ _ _ _ _ _ _ => rfl) ⟨fun _ => ⟨_, rfl⟩, fun _ => rfl, fun _ => rfl, fun _ => rfl⟩
theorem sc_ulaw_pool : FnScope ["script", "budget"] ["script", "budget"] (defScope s_ulaw_pool) := ⟨rfl, rfl, rfl, by decide +kernel, rfl, by decide +kernel, by decide +kernel⟩
theorem F_ulaw_pool (T : TT K mg) : FunD K "_law_pool" "_law_pool" (defArgs s_ulaw_pool) (defBody s_ulaw_pool) (defScope s_ulaw_pool) (d_ulaw_pool.dvs K) [] (He.fAd K at_ulaw_pool) (fdOf K at_ulaw_pool) := T.c.fd 0 (d := d_ulaw_pool) rfl
theorem kp_ulaw_pool (T : TT K mg) : PySem.W.keepIn K (.ref (He.fAd K at_ulaw_pool)) = true := (F_ulaw_pool T).kp
theorem b_ulaw_pool (T : TT K mg) : Binds K (fdOf K at_ulaw_pool) ["script", "budget"] [] := FunD.bindsN (F_ulaw_pool T) fun _ _ _ _ _ _ us hl => match us, hl with | [_, _], _ => rfl
theorem ok_ulaw_pool (T : TT K mg) : FnOk P w K mg base (L2.CX P w) 1 (He.fAd K at_ulaw_pool) (fdOf K at_ulaw_pool) ["script", "budget"] (spM (tx K) 2 m_ulaw_pool) :=
  fn_okM (Df.of (st := s_ulaw_pool) (F_ulaw_pool T)) sc_ulaw_pool fun cdv A outer s H E hr => by
    have tk : Takes (cxOf (L2.CX P w) P w K mg base ["script", "budget"] "_law_pool" (defScope s_ulaw_pool) (He.fAd K at_ulaw_pool) cdv A outer s H E) (WB E) := takes_of rfl rfl rfl rfl
    have hp : PassesOwn (model P w) (cxOf (L2.CX P w) P w K mg base ["script", "budget"] "_law_pool" (defScope s_ulaw_pool) (He.fAd K at_ulaw_pool) cdv A outer s H E).A (cxOf (L2.CX P w) P w K mg base ["script", "budget"] "_law_pool" (defScope s_ulaw_pool) (He.fAd K at_ulaw_pool) cdv A outer s H E).env (cxOf (L2.CX P w) P w K mg base ["script", "budget"] "_law_pool" (defScope s_ulaw_pool) (He.fAd K at_ulaw_pool) cdv A outer s H E).xe := passes_of rfl
    exact (s_one (s_ret (v_lst false (a_cons (v_callTL true (ok_list rfl) rfl (T.free 0) (a_cons (v_var 0) a_nil)) (a_cons v_int (a_cons v_int (a_cons v_int (a_cons v_int (a_cons (v_var 1) a_nil)))))))))
theorem sc_ulaw_draw : FnScope ["pool", "size", "cell", "value"] ["pool", "size"] (defScope s_ulaw_draw) := ⟨rfl, rfl, rfl, by decide +kernel, rfl, by decide +kernel, by decide +kernel⟩
theorem F_ulaw_draw (T : TT K mg) : FunD K "_law_draw" "_law_draw" (defArgs s_ulaw_draw) (defBody s_ulaw_draw) (defScope s_ulaw_draw) (d_ulaw_draw.dvs K) [] (He.fAd K at_ulaw_draw) (fdOf K at_ulaw_draw) := T.c.fd 1 (d := d_ulaw_draw) rfl
theorem kp_ulaw_draw (T : TT K mg) : PySem.W.keepIn K (.ref (He.fAd K at_ulaw_draw)) = true := (F_ulaw_draw T).kp
theorem b_ulaw_draw (T : TT K mg) : Binds K (fdOf K at_ulaw_draw) ["pool", "size"] [] := FunD.bindsN (F_ulaw_draw T) fun _ _ _ _ _ _ us hl => match us, hl with | [_, _], _ => rfl
theorem ok_ulaw_draw (T : TT K mg) : FnOk P w K mg base (L2.CX P w) 1 (He.fAd K at_ulaw_draw) (fdOf K at_ulaw_draw) ["pool", "size"] (spM (tx K) 2 m_ulaw_draw) :=
  fn_okM (Df.of (st := s_ulaw_draw) (F_ulaw_draw T)) sc_ulaw_draw fun cdv A outer s H E hr => by
    have tk : Takes (cxOf (L2.CX P w) P w K mg base ["pool", "size", "cell", "value"] "_law_draw" (defScope s_ulaw_draw) (He.fAd K at_ulaw_draw) cdv A outer s H E) (WB E) := takes_of rfl rfl rfl rfl
    have hp : PassesOwn (model P w) (cxOf (L2.CX P w) P w K mg base ["pool", "size", "cell", "value"] "_law_draw" (defScope s_ulaw_draw) (He.fAd K at_ulaw_draw) cdv A outer s H E).A (cxOf (L2.CX P w) P w K mg base ["pool", "size", "cell", "value"] "_law_draw" (defScope s_ulaw_draw) (He.fAd K at_ulaw_draw) cdv A outer s H E).env (cxOf (L2.CX P w) P w K mg base ["pool", "size", "cell", "value"] "_law_draw" (defScope s_ulaw_draw) (He.fAd K at_ulaw_draw) cdv A outer s H E).xe := passes_of rfl
    exact (s_cons (s_if (PW.pt (w_and (t_cmp oc_le (v_ix rfl (v_var 0) v_int) v_int (nomark _)) (w_and (t_cmp oc_le (v_ix rfl (v_var 0) v_int) v_int (nomark _)) (pw_and1 (t_cmp oc_lt (v_ix rfl (v_var 0) v_int) (v_callB (ok_len rfl) rfl (T.free 2) (a_cons (v_ix rfl (v_var 0) v_int) a_nil)) (nomark _)))))) (s_cons (s_set 2 sc_ulaw_draw.nd (v_ix rfl (v_ix rfl (v_var 0) v_int) (v_ix rfl (v_var 0) v_int)))
      (s_cons (s_sub (v_bin (ob_add rfl) (v_ix rfl (v_var 0) v_int) v_int) (v_var 0) v_int)
      (s_cons (s_sub (v_bin ob_mod (v_callT ok_int rfl (T.free 3) (a_cons (v_bin (ob_add rfl) (v_bin ob_mul (v_ix rfl (v_var 0) v_int) v_int) (v_var 2)) a_nil)) v_int) (v_var 0) v_int)
      (s_cons (s_sub v_int (v_var 0) v_int)
      (s_one (s_if (t_cmp oc_ge (v_var 2) (v_bin ob_pow v_int v_int) (nomark _)) (s_one (s_sub (v_var 2) (v_var 0) v_int)) s_nil)))))) s_nil)
      (s_cons (s_if (t_cmp oc_gt (v_ix rfl (v_var 0) v_int) v_int (nomark _)) (s_cons (s_set 3 sc_ulaw_draw.nd (v_bin ob_mod (v_callT ok_int rfl (T.free 3) (a_cons (v_ix rfl (v_var 0) v_int) a_nil)) (v_var 1)))
      (s_cons (s_sub (v_bin ob_div (v_ix rfl (v_var 0) v_int) (v_var 1)) (v_var 0) v_int)
      (s_cons (s_sub v_int (v_var 0) v_int)
      (s_one (s_ret (v_var 3)))))) s_nil)
      (s_cons (s_sub (v_bin ob_sub (v_ix rfl (v_var 0) v_int) v_int) (v_var 0) v_int)
      (s_cons (s_sub (v_bin ob_mod (v_callT ok_int rfl (T.free 3) (a_cons (v_bin (ob_add rfl) (v_bin ob_mul (v_ix rfl (v_var 0) v_int) v_int) v_int) a_nil)) v_int) (v_var 0) v_int)
      (s_one (s_ret (v_bin ob_mod (v_bin ob_mod (v_callT ok_int rfl (T.free 3) (a_cons (v_bin (ob_add rfl) (v_bin ob_mul (v_ix rfl (v_var 0) v_int) v_int) v_int) a_nil)) v_int) (v_var 1))))))))
theorem sc_ulaw_name_of : FnScope ["at", "letters"] ["at"] (defScope s_ulaw_name_of) := ⟨rfl, rfl, rfl, by decide +kernel, rfl, by decide +kernel, by decide +kernel⟩
theorem F_ulaw_name_of (T : TT K mg) : FunD K "_law_name_of" "_law_name_of" (defArgs s_ulaw_name_of) (defBody s_ulaw_name_of) (defScope s_ulaw_name_of) (d_ulaw_name_of.dvs K) [] (He.fAd K at_ulaw_name_of) (fdOf K at_ulaw_name_of) := T.c.fd 2 (d := d_ulaw_name_of) rfl
theorem kp_ulaw_name_of (T : TT K mg) : PySem.W.keepIn K (.ref (He.fAd K at_ulaw_name_of)) = true := (F_ulaw_name_of T).kp
theorem b_ulaw_name_of (T : TT K mg) : Binds K (fdOf K at_ulaw_name_of) ["at"] [] := FunD.bindsN (F_ulaw_name_of T) fun _ _ _ _ _ _ us hl => match us, hl with | [_], _ => rfl
theorem ok_ulaw_name_of (T : TT K mg) : FnOk P w K mg base (L2.CX P w) 1 (He.fAd K at_ulaw_name_of) (fdOf K at_ulaw_name_of) ["at"] (spM (tx K) 1 m_ulaw_name_of) :=
  fn_okM (Df.of (st := s_ulaw_name_of) (F_ulaw_name_of T)) sc_ulaw_name_of fun cdv A outer s H E hr => by
    have tk : Takes (cxOf (L2.CX P w) P w K mg base ["at", "letters"] "_law_name_of" (defScope s_ulaw_name_of) (He.fAd K at_ulaw_name_of) cdv A outer s H E) (WB E) := takes_of rfl rfl rfl rfl
    have hp : PassesOwn (model P w) (cxOf (L2.CX P w) P w K mg base ["at", "letters"] "_law_name_of" (defScope s_ulaw_name_of) (He.fAd K at_ulaw_name_of) cdv A outer s H E).A (cxOf (L2.CX P w) P w K mg base ["at", "letters"] "_law_name_of" (defScope s_ulaw_name_of) (He.fAd K at_ulaw_name_of) cdv A outer s H E).env (cxOf (L2.CX P w) P w K mg base ["at", "letters"] "_law_name_of" (defScope s_ulaw_name_of) (He.fAd K at_ulaw_name_of) cdv A outer s H E).xe := passes_of rfl
    exact (s_cons (s_set 1 sc_ulaw_name_of.nd v_str)
      (s_cons (s_if (t_cmp oc_lt (v_var 0) v_int (nomark _)) (s_one (s_ret (v_ix rfl (v_var 1) (v_var 0)))) s_nil)
      (s_one (s_ret (v_bin (ob_add rfl) (v_ix rfl (v_var 1) (v_bin ob_div (v_var 0) v_int)) (v_ix rfl (v_var 1) (v_bin ob_mod (v_callT ok_int rfl (T.free 3) (a_cons (v_var 0) a_nil)) v_int)))))))
theorem sc_ulaw_joints : FnScope ["pool", "count", "words", "start", "k"] ["pool", "count"] (defScope s_ulaw_joints) := ⟨rfl, rfl, rfl, by decide +kernel, rfl, by decide +kernel, by decide +kernel⟩
theorem F_ulaw_joints (T : TT K mg) : FunD K "_law_joints" "_law_joints" (defArgs s_ulaw_joints) (defBody s_ulaw_joints) (defScope s_ulaw_joints) (d_ulaw_joints.dvs K) [] (He.fAd K at_ulaw_joints) (fdOf K at_ulaw_joints) := T.c.fd 3 (d := d_ulaw_joints) rfl
theorem kp_ulaw_joints (T : TT K mg) : PySem.W.keepIn K (.ref (He.fAd K at_ulaw_joints)) = true := (F_ulaw_joints T).kp
theorem b_ulaw_joints (T : TT K mg) : Binds K (fdOf K at_ulaw_joints) ["pool", "count"] [] := FunD.bindsN (F_ulaw_joints T) fun _ _ _ _ _ _ us hl => match us, hl with | [_, _], _ => rfl
theorem ok_ulaw_joints (T : TT K mg) : FnOk P w K mg base (L2.CX P w) 2 (He.fAd K at_ulaw_joints) (fdOf K at_ulaw_joints) ["pool", "count"] (spM (tx K) 2 m_ulaw_joints) :=
  fn_okM (Df.of (st := s_ulaw_joints) (F_ulaw_joints T)) sc_ulaw_joints fun cdv A outer s H E hr => by
    have tk : Takes (cxOf (L2.CX P w) P w K mg base ["pool", "count", "words", "start", "k"] "_law_joints" (defScope s_ulaw_joints) (He.fAd K at_ulaw_joints) cdv A outer s H E) (WB E) := takes_of rfl rfl rfl rfl
    have hp : PassesOwn (model P w) (cxOf (L2.CX P w) P w K mg base ["pool", "count", "words", "start", "k"] "_law_joints" (defScope s_ulaw_joints) (He.fAd K at_ulaw_joints) cdv A outer s H E).A (cxOf (L2.CX P w) P w K mg base ["pool", "count", "words", "start", "k"] "_law_joints" (defScope s_ulaw_joints) (He.fAd K at_ulaw_joints) cdv A outer s H E).env (cxOf (L2.CX P w) P w K mg base ["pool", "count", "words", "start", "k"] "_law_joints" (defScope s_ulaw_joints) (He.fAd K at_ulaw_joints) cdv A outer s H E).xe := passes_of rfl
    exact (s_cons (s_set 2 sc_ulaw_joints.nd (v_lst true a_nil))
      (s_cons (s_set 3 sc_ulaw_joints.nd (v_call tk (ok_ulaw_draw T) (hr.mono (by decide)) (T.glo 4) (kp_ulaw_draw T) (b_ulaw_draw T) (a_cons (v_var 0) (a_cons v_int a_nil))))
      (s_cons (s_for (vs := [4]) hp rfl (i_range (T.free 5) (v_var 1)) (g_name 4 sc_ulaw_joints.nd) (s_one (s_set 2 sc_ulaw_joints.nd (v_bin (ob_add rfl) (v_var 2) (v_lst true (a_cons v_str (a_cons (v_call tk (ok_ulaw_name_of T) (hr.mono (by decide)) (T.glo 7) (kp_ulaw_name_of T) (b_ulaw_name_of T) (a_cons (v_var 4) a_nil)) (a_cons (v_calT (cal_str tk (hu2 hr) (by intro q h; cases h)) rfl (T.free 6) (a_cons (v_bin (ob_add rfl) (v_var 3) (v_var 4)) a_nil)) (a_cons (v_calT (cal_str tk (hu2 hr) (by intro q h; cases h)) rfl (T.free 6) (a_cons (v_bin ob_sub v_int (v_var 4)) a_nil)) a_nil)))))))))
      (s_one (s_ret (v_var 2))))))
theorem sc_ulaw_same : FnScope ["actual", "due", "k"] ["actual", "due"] (defScope s_ulaw_same) := ⟨rfl, rfl, rfl, by decide +kernel, rfl, by decide +kernel, by decide +kernel⟩
theorem F_ulaw_same (T : TT K mg) : FunD K "_law_same" "_law_same" (defArgs s_ulaw_same) (defBody s_ulaw_same) (defScope s_ulaw_same) (d_ulaw_same.dvs K) [] (He.fAd K at_ulaw_same) (fdOf K at_ulaw_same) := T.c.fd 4 (d := d_ulaw_same) rfl
theorem kp_ulaw_same (T : TT K mg) : PySem.W.keepIn K (.ref (He.fAd K at_ulaw_same)) = true := (F_ulaw_same T).kp
theorem b_ulaw_same (T : TT K mg) : Binds K (fdOf K at_ulaw_same) ["actual", "due"] [] := FunD.bindsN (F_ulaw_same T) fun _ _ _ _ _ _ us hl => match us, hl with | [_, _], _ => rfl
theorem ok_ulaw_same (T : TT K mg) : ∀ n : Nat, FnOk P w K mg base (L2.CX P w) (1 + n) (He.fAd K at_ulaw_same) (fdOf K at_ulaw_same) ["actual", "due"] (spM (tx K) 2 (m_ulaw_same n))
  | 0 => fn_bad
  | n + 1 => by
   have ih := ok_ulaw_same T n
   exact fn_okM (Df.of (st := s_ulaw_same) (F_ulaw_same T)) sc_ulaw_same fun cdv A outer s H E hr => by
    have tk : Takes (cxOf (L2.CX P w) P w K mg base ["actual", "due", "k"] "_law_same" (defScope s_ulaw_same) (He.fAd K at_ulaw_same) cdv A outer s H E) (WB E) := takes_of rfl rfl rfl rfl
    have hp : PassesOwn (model P w) (cxOf (L2.CX P w) P w K mg base ["actual", "due", "k"] "_law_same" (defScope s_ulaw_same) (He.fAd K at_ulaw_same) cdv A outer s H E).A (cxOf (L2.CX P w) P w K mg base ["actual", "due", "k"] "_law_same" (defScope s_ulaw_same) (He.fAd K at_ulaw_same) cdv A outer s H E).env (cxOf (L2.CX P w) P w K mg base ["actual", "due", "k"] "_law_same" (defScope s_ulaw_same) (He.fAd K at_ulaw_same) cdv A outer s H E).xe := passes_of rfl
    exact (s_cons (s_if (PW.pt (w_or (t_tru rfl (v_isi (w := .ty "tuple") rfl (clsAll T) (insAll T) is_tup (pe_bltn rfl (T.free 10) rfl rfl) (.ty _) (T.free 9) (v_var 1))) (pw_or1 (t_tru rfl (v_isi (w := .ty "list") rfl (clsAll T) (insAll T) is_lst (pe_bltn rfl (T.free 0) rfl rfl) (.ty _) (T.free 9) (v_var 1)))))) (s_cons (s_if (PW.pt (w_or (t_cmp (oc_ne rfl (hu64 hr)) (v_isi (w := .ty "tuple") rfl (clsAll T) (insAll T) is_tup (pe_bltn rfl (T.free 10) rfl rfl) (.ty _) (T.free 9) (v_var 1)) (v_isi (w := .ty "tuple") rfl (clsAll T) (insAll T) is_tup (pe_bltn rfl (T.free 10) rfl rfl) (.ty _) (T.free 9) (v_var 0)) (nomark _)) (pw_or1 (t_cmp (oc_ne rfl (hu64 hr)) (v_isi (w := .ty "list") rfl (clsAll T) (insAll T) is_lst (pe_bltn rfl (T.free 0) rfl rfl) (.ty _) (T.free 9) (v_var 1)) (v_isi (w := .ty "list") rfl (clsAll T) (insAll T) is_lst (pe_bltn rfl (T.free 0) rfl rfl) (.ty _) (T.free 9) (v_var 0)) (nomark _))))) (s_one (s_ret v_bl)) s_nil)
      (s_cons (s_if (t_cmp (oc_ne rfl (hu64 hr)) (v_callB (ok_len rfl) rfl (T.free 2) (a_cons (v_var 0) a_nil)) (v_callB (ok_len rfl) rfl (T.free 2) (a_cons (v_var 1) a_nil)) (nomark _)) (s_one (s_ret v_bl)) s_nil)
      (s_cons (s_for (vs := [2]) hp rfl (i_range (T.free 5) (v_callB (ok_len rfl) rfl (T.free 2) (a_cons (v_var 1) a_nil))) (g_name 2 sc_ulaw_same.nd) (s_one (s_if (t_not (t_tru rfl (v_call tk ih hr (T.glo 11) (kp_ulaw_same T) (b_ulaw_same T) (a_cons (v_ix rfl (v_var 0) (v_var 2)) (a_cons (v_ix rfl (v_var 1) (v_var 2)) a_nil))))) (s_one (s_ret v_bl)) s_nil)))
      (s_one (s_ret v_bl))))) s_nil)
      (s_cons (s_if (PW.pt (w_or (t_cmp oc_is (v_var 1) v_non (nomark _)) (pw_or1 (t_tru rfl (v_isi (w := .ty "bool") rfl (clsAll T) (insAll T) is_bl (pe_bltn rfl (T.free 12) rfl rfl) (.ty _) (T.free 9) (v_var 1)))))) (s_one (s_ret (v_and (v_cmp (oc_eq rfl (hu64 hr)) (v_cmp oc_is (v_var 0) v_non (nomark _)) (v_cmp oc_is (v_var 1) v_non (nomark _)) (nomark _)) (v_and (v_or (v_cmp oc_is (v_var 1) v_non (nomark _)) (v_one (v_isi (w := .ty "bool") rfl (clsAll T) (insAll T) is_bl (pe_bltn rfl (T.free 12) rfl rfl) (.ty _) (T.free 9) (v_var 0)))) (v_one (v_cmp (oc_eq rfl (hu64 hr)) (v_var 0) (v_var 1) (nomark _))))))) s_nil)
      (s_cons (s_if (t_tru rfl (v_isi (w := .ty "int") rfl (clsAll T) (insAll T) is_int (pe_bltn rfl (T.free 3) rfl rfl) (.ty _) (T.free 9) (v_var 1))) (s_one (s_ret (v_and (v_isi (w := .ty "int") rfl (clsAll T) (insAll T) is_int (pe_bltn rfl (T.free 3) rfl rfl) (.ty _) (T.free 9) (v_var 0)) (v_and (v_not (v_isi (w := .ty "bool") rfl (clsAll T) (insAll T) is_bl (pe_bltn rfl (T.free 12) rfl rfl) (.ty _) (T.free 9) (v_var 0))) (v_one (v_cmp (oc_eq rfl (hu64 hr)) (v_var 0) (v_var 1) (nomark _))))))) s_nil)
      (s_one (s_ret (v_and (v_isi (w := .ty "str") rfl (clsAll T) (insAll T) is_str (pe_bltn rfl (T.free 6) rfl rfl) (.ty _) (T.free 9) (v_var 0)) (v_one (v_cmp (oc_eq rfl (hu64 hr)) (v_var 0) (v_var 1) (nomark _)))))))))
theorem sc_ulaw_due : FnScope ["words", "bad"] ["words", "bad"] (defScope s_ulaw_due) := ⟨rfl, rfl, rfl, by decide +kernel, rfl, by decide +kernel, by decide +kernel⟩
theorem F_ulaw_due (T : TT K mg) : FunD K "_law_due" "_law_due" (defArgs s_ulaw_due) (defBody s_ulaw_due) (defScope s_ulaw_due) (d_ulaw_due.dvs K) [] (He.fAd K at_ulaw_due) (fdOf K at_ulaw_due) := T.c.fd 5 (d := d_ulaw_due) rfl
theorem kp_ulaw_due (T : TT K mg) : PySem.W.keepIn K (.ref (He.fAd K at_ulaw_due)) = true := (F_ulaw_due T).kp
theorem b_ulaw_due (T : TT K mg) : Binds K (fdOf K at_ulaw_due) ["words", "bad"] [] := FunD.bindsN (F_ulaw_due T) fun _ _ _ _ _ _ us hl => match us, hl with | [_, _], _ => rfl
theorem ok_ulaw_due (T : TT K mg) : FnOk P w K mg base (L2.CX P w) 1 (He.fAd K at_ulaw_due) (fdOf K at_ulaw_due) ["words", "bad"] (spM (tx K) 2 m_ulaw_due) :=
  fn_okM (Df.of (st := s_ulaw_due) (F_ulaw_due T)) sc_ulaw_due fun cdv A outer s H E hr => by
    have tk : Takes (cxOf (L2.CX P w) P w K mg base ["words", "bad"] "_law_due" (defScope s_ulaw_due) (He.fAd K at_ulaw_due) cdv A outer s H E) (WB E) := takes_of rfl rfl rfl rfl
    have hp : PassesOwn (model P w) (cxOf (L2.CX P w) P w K mg base ["words", "bad"] "_law_due" (defScope s_ulaw_due) (He.fAd K at_ulaw_due) cdv A outer s H E).A (cxOf (L2.CX P w) P w K mg base ["words", "bad"] "_law_due" (defScope s_ulaw_due) (He.fAd K at_ulaw_due) cdv A outer s H E).env (cxOf (L2.CX P w) P w K mg base ["words", "bad"] "_law_due" (defScope s_ulaw_due) (He.fAd K at_ulaw_due) cdv A outer s H E).xe := passes_of rfl
    exact (s_cons (s_if (t_cmp oc_is (v_var 1) v_non (nomark _)) (s_one (s_ret (v_tup (a_cons v_str (a_cons (v_mb PySem.F.plainAttrs_str PySem.F.slot_str_join PySem.F.type_str_join (ok_join rfl) st_ty v_str (a_cons (v_var 0) a_nil)) a_nil))))) s_nil)
      (s_one (s_ret (v_tup (a_cons v_str (a_cons (v_var 1) a_nil))))))
theorem sc_strength_word : FnScope ["strength"] ["strength"] (defScope s_strength_word) := ⟨rfl, rfl, rfl, by decide +kernel, rfl, by decide +kernel, by decide +kernel⟩
theorem F_strength_word (T : TT K mg) : FunD K "strength_word" "strength_word" (defArgs s_strength_word) (defBody s_strength_word) (defScope s_strength_word) (d_strength_word.dvs K) [] (He.fAd K at_strength_word) (fdOf K at_strength_word) := T.c.fd 6 (d := d_strength_word) rfl
theorem kp_strength_word (T : TT K mg) : PySem.W.keepIn K (.ref (He.fAd K at_strength_word)) = true := (F_strength_word T).kp
theorem b_strength_word (T : TT K mg) : Binds K (fdOf K at_strength_word) ["strength"] [] := FunD.bindsN (F_strength_word T) fun _ _ _ _ _ _ us hl => match us, hl with | [_], _ => rfl
theorem ok_strength_word (T : TT K mg) : FnOk P w K mg base (L2.CX P w) 1 (He.fAd K at_strength_word) (fdOf K at_strength_word) ["strength"] (spM (tx K) 1 m_strength_word) :=
  fn_okM (Df.of (st := s_strength_word) (F_strength_word T)) sc_strength_word fun cdv A outer s H E hr => by
    have tk : Takes (cxOf (L2.CX P w) P w K mg base ["strength"] "strength_word" (defScope s_strength_word) (He.fAd K at_strength_word) cdv A outer s H E) (WB E) := takes_of rfl rfl rfl rfl
    have hp : PassesOwn (model P w) (cxOf (L2.CX P w) P w K mg base ["strength"] "strength_word" (defScope s_strength_word) (He.fAd K at_strength_word) cdv A outer s H E).A (cxOf (L2.CX P w) P w K mg base ["strength"] "strength_word" (defScope s_strength_word) (He.fAd K at_strength_word) cdv A outer s H E).env (cxOf (L2.CX P w) P w K mg base ["strength"] "strength_word" (defScope s_strength_word) (He.fAd K at_strength_word) cdv A outer s H E).xe := passes_of rfl
    exact (s_cons (s_if (t_cmp oc_is (v_var 0) v_non (nomark _)) (s_one (s_ret v_str)) s_nil)
      (s_one (s_ret (v_calT (cal_str tk (hu2 hr) (by intro q h; cases h)) rfl (T.free 6) (a_cons (v_var 0) a_nil)))))
theorem sc_frame_text : FnScope ["frame", "words", "name", "x", "y", "one", "other", "push", "pull", "joint", "axis"] ["frame"] (defScope s_frame_text) := ⟨rfl, rfl, rfl, by decide +kernel, rfl, by decide +kernel, by decide +kernel⟩
theorem F_frame_text (T : TT K mg) : FunD K "frame_text" "frame_text" (defArgs s_frame_text) (defBody s_frame_text) (defScope s_frame_text) (d_frame_text.dvs K) [] (He.fAd K at_frame_text) (fdOf K at_frame_text) := T.c.fd 7 (d := d_frame_text) rfl
theorem kp_frame_text (T : TT K mg) : PySem.W.keepIn K (.ref (He.fAd K at_frame_text)) = true := (F_frame_text T).kp
theorem b_frame_text (T : TT K mg) : Binds K (fdOf K at_frame_text) ["frame"] [] := FunD.bindsN (F_frame_text T) fun _ _ _ _ _ _ us hl => match us, hl with | [_], _ => rfl
theorem ok_frame_text (T : TT K mg) : FnOk P w K mg base (L2.CX P w) 2 (He.fAd K at_frame_text) (fdOf K at_frame_text) ["frame"] (spM (tx K) 1 m_frame_text) :=
  fn_okM (Df.of (st := s_frame_text) (F_frame_text T)) sc_frame_text fun cdv A outer s H E hr => by
    have tk : Takes (cxOf (L2.CX P w) P w K mg base ["frame", "words", "name", "x", "y", "one", "other", "push", "pull", "joint", "axis"] "frame_text" (defScope s_frame_text) (He.fAd K at_frame_text) cdv A outer s H E) (WB E) := takes_of rfl rfl rfl rfl
    have hp : PassesOwn (model P w) (cxOf (L2.CX P w) P w K mg base ["frame", "words", "name", "x", "y", "one", "other", "push", "pull", "joint", "axis"] "frame_text" (defScope s_frame_text) (He.fAd K at_frame_text) cdv A outer s H E).A (cxOf (L2.CX P w) P w K mg base ["frame", "words", "name", "x", "y", "one", "other", "push", "pull", "joint", "axis"] "frame_text" (defScope s_frame_text) (He.fAd K at_frame_text) cdv A outer s H E).env (cxOf (L2.CX P w) P w K mg base ["frame", "words", "name", "x", "y", "one", "other", "push", "pull", "joint", "axis"] "frame_text" (defScope s_frame_text) (He.fAd K at_frame_text) cdv A outer s H E).xe := passes_of rfl
    exact (s_cons (s_set 1 sc_frame_text.nd (v_lst false a_nil))
      (s_cons (s_for (vs := [2, 3, 4]) hp rfl (i_seq rfl (v_fld rfl (clsAll T) 4 (v_var 0))) (g_tup rfl rfl (gs_cons (g_name 2 sc_frame_text.nd) (gs_cons (g_name 3 sc_frame_text.nd) (gs_cons (g_name 4 sc_frame_text.nd) gs_nil)))) (s_one (s_expr (v_mb PySem.F.plainAttrs_list PySem.F.slot_list_extend PySem.F.type_list_extend ok_extend ls_ty (v_var 1) (a_cons (v_lst true (a_cons v_str (a_cons (v_var 2) (a_cons (v_calT (cal_str tk (hu2 hr) (by intro q h; cases h)) rfl (T.free 6) (a_cons (v_var 3) a_nil)) (a_cons (v_calT (cal_str tk (hu2 hr) (by intro q h; cases h)) rfl (T.free 6) (a_cons (v_var 4) a_nil)) a_nil))))) a_nil)))))
      (s_cons (s_for (vs := [5, 6, 7, 8]) hp rfl (i_seq rfl (v_fld rfl (clsAll T) 5 (v_var 0))) (g_tup rfl rfl (gs_cons (g_name 5 sc_frame_text.nd) (gs_cons (g_name 6 sc_frame_text.nd) (gs_cons (g_name 7 sc_frame_text.nd) (gs_cons (g_name 8 sc_frame_text.nd) gs_nil))))) (s_one (s_expr (v_mb PySem.F.plainAttrs_list PySem.F.slot_list_extend PySem.F.type_list_extend ok_extend ls_ty (v_var 1) (a_cons (v_lst true (a_cons v_str (a_cons (v_ix rfl (v_ix rfl (v_fld rfl (clsAll T) 4 (v_var 0)) (v_var 5)) v_int) (a_cons (v_ix rfl (v_ix rfl (v_fld rfl (clsAll T) 4 (v_var 0)) (v_var 6)) v_int) (a_cons (v_call tk (ok_strength_word T) (hr.mono (by decide)) (T.glo 14) (kp_strength_word T) (b_strength_word T) (a_cons (v_var 7) a_nil)) (a_cons (v_call tk (ok_strength_word T) (hr.mono (by decide)) (T.glo 14) (kp_strength_word T) (b_strength_word T) (a_cons (v_var 8) a_nil)) a_nil)))))) a_nil)))))
      (s_cons (s_for (vs := [9, 10]) hp rfl (i_seq rfl (v_fld rfl (clsAll T) 6 (v_var 0))) (g_tup rfl rfl (gs_cons (g_name 9 sc_frame_text.nd) (gs_cons (g_name 10 sc_frame_text.nd) gs_nil))) (s_one (s_expr (v_mb PySem.F.plainAttrs_list PySem.F.slot_list_extend PySem.F.type_list_extend ok_extend ls_ty (v_var 1) (a_cons (v_lst true (a_cons v_str (a_cons (v_ix rfl (v_ix rfl (v_fld rfl (clsAll T) 4 (v_var 0)) (v_var 9)) v_int) (a_cons (v_ix rfl (v_gtup (T.gtup 15) rfl) (v_var 10)) a_nil)))) a_nil)))))
      (s_one (s_ret (v_mb PySem.F.plainAttrs_str PySem.F.slot_str_join PySem.F.type_str_join (ok_join rfl) st_ty v_str (a_cons (v_var 1) a_nil))))))))
theorem sc_Cursor___init__ : FnScope ["self", "words"] ["self", "words"] (defScope s_Cursor___init__) := ⟨rfl, rfl, rfl, by decide +kernel, rfl, by decide +kernel, by decide +kernel⟩
theorem F_Cursor___init__ (T : TT K mg) : FunD K "__init__" "Cursor.__init__" (defArgs s_Cursor___init__) (defBody s_Cursor___init__) (defScope s_Cursor___init__) (d_Cursor___init__.dvs K) [] (He.fAd K at_Cursor___init__) (fdOf K at_Cursor___init__) := T.c.fd 8 (d := d_Cursor___init__) rfl
theorem kp_Cursor___init__ (T : TT K mg) : PySem.W.keepIn K (.ref (He.fAd K at_Cursor___init__)) = true := (F_Cursor___init__ T).kp
theorem b_Cursor___init__ (T : TT K mg) : Binds K (fdOf K at_Cursor___init__) ["self", "words"] [] := FunD.bindsN (F_Cursor___init__ T) fun _ _ _ _ _ _ us hl => match us, hl with | [_, _], _ => rfl
theorem ok_Cursor___init__ (T : TT K mg) : FnOk P w K mg base (L2.CX P w) 1 (He.fAd K at_Cursor___init__) (fdOf K at_Cursor___init__) ["self", "words"] (spM (tx K) 2 m_Cursor___init__) :=
  fn_okM (Df.of (st := s_Cursor___init__) (F_Cursor___init__ T)) sc_Cursor___init__ fun cdv A outer s H E hr => by
    have tk : Takes (cxOf (L2.CX P w) P w K mg base ["self", "words"] "Cursor.__init__" (defScope s_Cursor___init__) (He.fAd K at_Cursor___init__) cdv A outer s H E) (WB E) := takes_of rfl rfl rfl rfl
    have hp : PassesOwn (model P w) (cxOf (L2.CX P w) P w K mg base ["self", "words"] "Cursor.__init__" (defScope s_Cursor___init__) (He.fAd K at_Cursor___init__) cdv A outer s H E).A (cxOf (L2.CX P w) P w K mg base ["self", "words"] "Cursor.__init__" (defScope s_Cursor___init__) (He.fAd K at_Cursor___init__) cdv A outer s H E).env (cxOf (L2.CX P w) P w K mg base ["self", "words"] "Cursor.__init__" (defScope s_Cursor___init__) (He.fAd K at_Cursor___init__) cdv A outer s H E).xe := passes_of rfl
    exact (s_cons (s_fld rfl (clsAll T) 7 (v_var 0) (v_callTL true (ok_list rfl) rfl (T.free 0) (a_cons (v_var 1) a_nil)))
      (s_one (s_fld rfl (clsAll T) 0 (v_var 0) v_int)))
theorem sc_words_of : FnScope ["text"] ["text"] (defScope s_words_of) := ⟨rfl, rfl, rfl, by decide +kernel, rfl, by decide +kernel, by decide +kernel⟩
theorem F_words_of (T : TT K mg) : FunD K "words_of" "words_of" (defArgs s_words_of) (defBody s_words_of) (defScope s_words_of) (d_words_of.dvs K) [] (He.fAd K at_words_of) (fdOf K at_words_of) := T.c.fd 9 (d := d_words_of) rfl
theorem kp_words_of (T : TT K mg) : PySem.W.keepIn K (.ref (He.fAd K at_words_of)) = true := (F_words_of T).kp
theorem b_words_of (T : TT K mg) : Binds K (fdOf K at_words_of) ["text"] [] := FunD.bindsN (F_words_of T) fun _ _ _ _ _ _ us hl => match us, hl with | [_], _ => rfl
theorem ok_words_of (T : TT K mg) : FnOk P w K mg base (L2.CX P w) 1 (He.fAd K at_words_of) (fdOf K at_words_of) ["text"] (spM (tx K) 1 m_words_of) :=
  fn_okM (Df.of (st := s_words_of) (F_words_of T)) sc_words_of fun cdv A outer s H E hr => by
    have tk : Takes (cxOf (L2.CX P w) P w K mg base ["text"] "words_of" (defScope s_words_of) (He.fAd K at_words_of) cdv A outer s H E) (WB E) := takes_of rfl rfl rfl rfl
    have hp : PassesOwn (model P w) (cxOf (L2.CX P w) P w K mg base ["text"] "words_of" (defScope s_words_of) (He.fAd K at_words_of) cdv A outer s H E).A (cxOf (L2.CX P w) P w K mg base ["text"] "words_of" (defScope s_words_of) (He.fAd K at_words_of) cdv A outer s H E).env (cxOf (L2.CX P w) P w K mg base ["text"] "words_of" (defScope s_words_of) (He.fAd K at_words_of) cdv A outer s H E).xe := passes_of rfl
    exact (s_cons (s_if (t_cmp (oc_eq rfl (hu64 hr)) (v_var 0) v_str (nomark _)) (s_one (s_ret (v_lst true a_nil))) s_nil)
      (s_one (s_ret (v_mb PySem.F.plainAttrs_str PySem.F.slot_str_split PySem.F.type_str_split (ok_split true) st_ty (v_var 0) (a_cons v_str a_nil)))))
theorem sc_Reader___init__ : FnScope ["self", "text"] ["self", "text"] (defScope s_Reader___init__) := ⟨rfl, rfl, rfl, by decide +kernel, rfl, by decide +kernel, by decide +kernel⟩
theorem F_Reader___init__ (T : TT K mg) : FunD K "__init__" "Reader.__init__" (defArgs s_Reader___init__) (defBody s_Reader___init__) (defScope s_Reader___init__) (d_Reader___init__.dvs K) [] (He.fAd K at_Reader___init__) (fdOf K at_Reader___init__) := T.c.fd 10 (d := d_Reader___init__) rfl
theorem kp_Reader___init__ (T : TT K mg) : PySem.W.keepIn K (.ref (He.fAd K at_Reader___init__)) = true := (F_Reader___init__ T).kp
theorem b_Reader___init__ (T : TT K mg) : Binds K (fdOf K at_Reader___init__) ["self", "text"] [] := FunD.bindsN (F_Reader___init__ T) fun _ _ _ _ _ _ us hl => match us, hl with | [_, _], _ => rfl
theorem ok_Reader___init__ (T : TT K mg) : FnOk P w K mg base (L2.CX P w) 3 (He.fAd K at_Reader___init__) (fdOf K at_Reader___init__) ["self", "text"] (spM (tx K) 2 m_Reader___init__) :=
  fn_okM (Df.of (st := s_Reader___init__) (F_Reader___init__ T)) sc_Reader___init__ fun cdv A outer s H E hr => by
    have tk : Takes (cxOf (L2.CX P w) P w K mg base ["self", "text"] "Reader.__init__" (defScope s_Reader___init__) (He.fAd K at_Reader___init__) cdv A outer s H E) (WB E) := takes_of rfl rfl rfl rfl
    have hp : PassesOwn (model P w) (cxOf (L2.CX P w) P w K mg base ["self", "text"] "Reader.__init__" (defScope s_Reader___init__) (He.fAd K at_Reader___init__) cdv A outer s H E).A (cxOf (L2.CX P w) P w K mg base ["self", "text"] "Reader.__init__" (defScope s_Reader___init__) (He.fAd K at_Reader___init__) cdv A outer s H E).env (cxOf (L2.CX P w) P w K mg base ["self", "text"] "Reader.__init__" (defScope s_Reader___init__) (He.fAd K at_Reader___init__) cdv A outer s H E).xe := passes_of rfl
    exact (s_cons (s_fld rfl (clsAll T) 8 (v_var 0) (v_cal (cal_make tk rfl (T.make 17 18 19) (ok_Cursor___init__ T) (hr.mono (by decide)) (b_Cursor___init__ T)) (T.glo 21) (T.keep 19) (a_cons (v_call tk (ok_words_of T) (hr.mono (by decide)) (T.glo 20) (kp_words_of T) (b_words_of T) (a_cons (v_var 1) a_nil)) a_nil)))
      (s_cons (s_fld rfl (clsAll T) 4 (v_var 0) (v_lst false a_nil))
      (s_cons (s_fld rfl (clsAll T) 5 (v_var 0) (v_lst false a_nil))
      (s_one (s_fld rfl (clsAll T) 6 (v_var 0) (v_lst false a_nil))))))
theorem sc_Cursor_next_word : FnScope ["self"] ["self"] (defScope s_Cursor_next_word) := ⟨rfl, rfl, rfl, by decide +kernel, rfl, by decide +kernel, by decide +kernel⟩
theorem F_Cursor_next_word (T : TT K mg) : FunD K "next_word" "Cursor.next_word" (defArgs s_Cursor_next_word) (defBody s_Cursor_next_word) (defScope s_Cursor_next_word) (d_Cursor_next_word.dvs K) [] (He.fAd K at_Cursor_next_word) (fdOf K at_Cursor_next_word) := T.c.fd 11 (d := d_Cursor_next_word) rfl
theorem kp_Cursor_next_word (T : TT K mg) : PySem.W.keepIn K (.ref (He.fAd K at_Cursor_next_word)) = true := (F_Cursor_next_word T).kp
theorem b_Cursor_next_word (T : TT K mg) : Binds K (fdOf K at_Cursor_next_word) ["self"] [] := FunD.bindsN (F_Cursor_next_word T) fun _ _ _ _ _ _ us hl => match us, hl with | [_], _ => rfl
theorem ok_Cursor_next_word (T : TT K mg) : FnOk P w K mg base (L2.CX P w) 1 (He.fAd K at_Cursor_next_word) (fdOf K at_Cursor_next_word) ["self"] (spM (tx K) 1 m_Cursor_next_word) :=
  fn_okM (Df.of (st := s_Cursor_next_word) (F_Cursor_next_word T)) sc_Cursor_next_word fun cdv A outer s H E hr => by
    have tk : Takes (cxOf (L2.CX P w) P w K mg base ["self"] "Cursor.next_word" (defScope s_Cursor_next_word) (He.fAd K at_Cursor_next_word) cdv A outer s H E) (WB E) := takes_of rfl rfl rfl rfl
    have hp : PassesOwn (model P w) (cxOf (L2.CX P w) P w K mg base ["self"] "Cursor.next_word" (defScope s_Cursor_next_word) (He.fAd K at_Cursor_next_word) cdv A outer s H E).A (cxOf (L2.CX P w) P w K mg base ["self"] "Cursor.next_word" (defScope s_Cursor_next_word) (He.fAd K at_Cursor_next_word) cdv A outer s H E).env (cxOf (L2.CX P w) P w K mg base ["self"] "Cursor.next_word" (defScope s_Cursor_next_word) (He.fAd K at_Cursor_next_word) cdv A outer s H E).xe := passes_of rfl
    exact (s_cons (s_if (t_cmp oc_lt (v_fld rfl (clsAll T) 0 (v_var 0)) (v_callB (ok_len rfl) rfl (T.free 2) (a_cons (v_fld rfl (clsAll T) 7 (v_var 0)) a_nil)) (nomark _)) (s_one (s_ret (v_ix rfl (v_fld rfl (clsAll T) 7 (v_var 0)) (v_fld rfl (clsAll T) 0 (v_var 0))))) s_nil)
      (s_one (s_ret v_non)))
theorem sc_Cursor_take : FnScope ["self", "good", "word"] ["self", "good"] (defScope s_Cursor_take) := ⟨rfl, rfl, rfl, by decide +kernel, rfl, by decide +kernel, by decide +kernel⟩
theorem F_Cursor_take (T : TT K mg) : FunD K "take" "Cursor.take" (defArgs s_Cursor_take) (defBody s_Cursor_take) (defScope s_Cursor_take) (d_Cursor_take.dvs K) [] (He.fAd K at_Cursor_take) (fdOf K at_Cursor_take) := T.c.fd 12 (d := d_Cursor_take) rfl
theorem kp_Cursor_take (T : TT K mg) : PySem.W.keepIn K (.ref (He.fAd K at_Cursor_take)) = true := (F_Cursor_take T).kp
theorem b_Cursor_take (T : TT K mg) : Binds K (fdOf K at_Cursor_take) ["self", "good"] [] := FunD.bindsN (F_Cursor_take T) fun _ _ _ _ _ _ us hl => match us, hl with | [_, _], _ => rfl
theorem ok_Cursor_take (T : TT K mg) : FnOk P w K mg base (L2.CX P w) 2 (He.fAd K at_Cursor_take) (fdOf K at_Cursor_take) ["self", "good"] (spM (tx K) 2 m_Cursor_take) :=
  fn_okM (Df.of (st := s_Cursor_take) (F_Cursor_take T)) sc_Cursor_take fun cdv A outer s H E hr => by
    have tk : Takes (cxOf (L2.CX P w) P w K mg base ["self", "good", "word"] "Cursor.take" (defScope s_Cursor_take) (He.fAd K at_Cursor_take) cdv A outer s H E) (WB E) := takes_of rfl rfl rfl rfl
    have hp : PassesOwn (model P w) (cxOf (L2.CX P w) P w K mg base ["self", "good", "word"] "Cursor.take" (defScope s_Cursor_take) (He.fAd K at_Cursor_take) cdv A outer s H E).A (cxOf (L2.CX P w) P w K mg base ["self", "good", "word"] "Cursor.take" (defScope s_Cursor_take) (He.fAd K at_Cursor_take) cdv A outer s H E).env (cxOf (L2.CX P w) P w K mg base ["self", "good", "word"] "Cursor.take" (defScope s_Cursor_take) (He.fAd K at_Cursor_take) cdv A outer s H E).xe := passes_of rfl
    exact (s_cons (s_set 2 sc_Cursor_take.nd (v_meth0 rfl (clsAll T) tk (one_all (P := fun c m => MetOk _ _ _ _ c m) ⟨⟨_, _, _, _, ⟨(T.met 26).1, (T.met 26).2, (kp_Cursor_next_word T)⟩, (ok_Cursor_next_word T), (hr.mono (by decide)), (b_Cursor_next_word T)⟩, by decide +kernel⟩) (v_var 0)))
      (s_cons (s_if (PW.pt (w_or (t_cmp oc_is (v_var 2) v_non (nomark _)) (pw_or1 (t_cmp (oc_nin rfl (hu65 hr)) (v_var 2) (v_var 1) rfl)))) (s_one (s_raiseB rfl tk (ia_BadText T) hr (T.free 27) (T.glo 28) (T.rai 29) rfl (by decide) (v_fld rfl (clsAll T) 0 (v_var 0)))) s_nil)
      (s_cons (s_fld rfl (clsAll T) 0 (v_var 0) (v_bin (ob_add rfl) (v_fld rfl (clsAll T) 0 (v_var 0)) v_int))
      (s_one (s_ret (v_var 2))))))
theorem sc_is_name : FnScope ["word", "sign"] ["word"] (defScope s_is_name) := ⟨rfl, rfl, rfl, by decide +kernel, rfl, by decide +kernel, by decide +kernel⟩
theorem F_is_name (T : TT K mg) : FunD K "is_name" "is_name" (defArgs s_is_name) (defBody s_is_name) (defScope s_is_name) (d_is_name.dvs K) [] (He.fAd K at_is_name) (fdOf K at_is_name) := T.c.fd 13 (d := d_is_name) rfl
theorem kp_is_name (T : TT K mg) : PySem.W.keepIn K (.ref (He.fAd K at_is_name)) = true := (F_is_name T).kp
theorem b_is_name (T : TT K mg) : Binds K (fdOf K at_is_name) ["word"] [] := FunD.bindsN (F_is_name T) fun _ _ _ _ _ _ us hl => match us, hl with | [_], _ => rfl
theorem ok_is_name (T : TT K mg) : FnOk P w K mg base (L2.CX P w) 1 (He.fAd K at_is_name) (fdOf K at_is_name) ["word"] (spM (tx K) 1 m_is_name) :=
  fn_okM (Df.of (st := s_is_name) (F_is_name T)) sc_is_name fun cdv A outer s H E hr => by
    have tk : Takes (cxOf (L2.CX P w) P w K mg base ["word", "sign"] "is_name" (defScope s_is_name) (He.fAd K at_is_name) cdv A outer s H E) (WB E) := takes_of rfl rfl rfl rfl
    have hp : PassesOwn (model P w) (cxOf (L2.CX P w) P w K mg base ["word", "sign"] "is_name" (defScope s_is_name) (He.fAd K at_is_name) cdv A outer s H E).A (cxOf (L2.CX P w) P w K mg base ["word", "sign"] "is_name" (defScope s_is_name) (He.fAd K at_is_name) cdv A outer s H E).env (cxOf (L2.CX P w) P w K mg base ["word", "sign"] "is_name" (defScope s_is_name) (He.fAd K at_is_name) cdv A outer s H E).xe := passes_of rfl
    exact (s_cons (s_if (PW.pt (w_or (t_not (t_chain oc_le oc_le v_int (v_callB (ok_len rfl) rfl (T.free 2) (a_cons (v_var 0) a_nil)) v_int)) (pw_or1 (t_cmp (oc_in rfl (hu65 hr)) (v_var 0) (v_gtup (T.gtup 31) rfl) rfl)))) (s_one (s_ret v_bl)) s_nil)
      (s_one (s_ret (v_callB (ok_all rfl) rfl (T.free 33) (a_cons (v_lc true [("sign", 1)] rfl sc_is_name.nd (i_str (v_var 0)) (blkOk_by (by kernel_rfl)) (fun _ _ _ _ _ => (g_name 1 sc_is_name.nd)) (fun _ _ _ _ _ => ts_nil) (fun _ _ _ _ _ => (v_cmp (oc_in rfl (hu65 hr)) (v_var 1) (v_gstr (T.gstr 32)) rfl))) a_nil)))))
theorem sc_Reader_names : FnScope ["self", "joint"] ["self"] (defScope s_Reader_names) := ⟨rfl, rfl, rfl, by decide +kernel, rfl, by decide +kernel, by decide +kernel⟩
theorem F_Reader_names (T : TT K mg) : FunD K "names" "Reader.names" (defArgs s_Reader_names) (defBody s_Reader_names) (defScope s_Reader_names) (d_Reader_names.dvs K) [] (He.fAd K at_Reader_names) (fdOf K at_Reader_names) := T.c.fd 14 (d := d_Reader_names) rfl
theorem kp_Reader_names (T : TT K mg) : PySem.W.keepIn K (.ref (He.fAd K at_Reader_names)) = true := (F_Reader_names T).kp
theorem b_Reader_names (T : TT K mg) : Binds K (fdOf K at_Reader_names) ["self"] [] := FunD.bindsN (F_Reader_names T) fun _ _ _ _ _ _ us hl => match us, hl with | [_], _ => rfl
theorem ok_Reader_names (T : TT K mg) : FnOk P w K mg base (L2.CX P w) 1 (He.fAd K at_Reader_names) (fdOf K at_Reader_names) ["self"] (spM (tx K) 1 m_Reader_names) :=
  fn_okM (Df.of (st := s_Reader_names) (F_Reader_names T)) sc_Reader_names fun cdv A outer s H E hr => by
    have tk : Takes (cxOf (L2.CX P w) P w K mg base ["self", "joint"] "Reader.names" (defScope s_Reader_names) (He.fAd K at_Reader_names) cdv A outer s H E) (WB E) := takes_of rfl rfl rfl rfl
    have hp : PassesOwn (model P w) (cxOf (L2.CX P w) P w K mg base ["self", "joint"] "Reader.names" (defScope s_Reader_names) (He.fAd K at_Reader_names) cdv A outer s H E).A (cxOf (L2.CX P w) P w K mg base ["self", "joint"] "Reader.names" (defScope s_Reader_names) (He.fAd K at_Reader_names) cdv A outer s H E).env (cxOf (L2.CX P w) P w K mg base ["self", "joint"] "Reader.names" (defScope s_Reader_names) (He.fAd K at_Reader_names) cdv A outer s H E).xe := passes_of rfl
    exact (s_one (s_ret (v_lc true [("joint", 1)] rfl sc_Reader_names.nd (i_seq rfl (v_fld rfl (clsAll T) 4 (v_var 0))) (blkOk_by (by kernel_rfl)) (fun _ _ _ _ _ => (g_name 1 sc_Reader_names.nd)) (fun _ _ _ _ _ => ts_nil) (fun _ _ _ _ _ => (v_ix rfl (v_var 1) v_int)))))
theorem sc_Cursor_refuse : FnScope ["self"] ["self"] (defScope s_Cursor_refuse) := ⟨rfl, rfl, rfl, by decide +kernel, rfl, by decide +kernel, by decide +kernel⟩
theorem F_Cursor_refuse (T : TT K mg) : FunD K "refuse" "Cursor.refuse" (defArgs s_Cursor_refuse) (defBody s_Cursor_refuse) (defScope s_Cursor_refuse) (d_Cursor_refuse.dvs K) [] (He.fAd K at_Cursor_refuse) (fdOf K at_Cursor_refuse) := T.c.fd 15 (d := d_Cursor_refuse) rfl
theorem kp_Cursor_refuse (T : TT K mg) : PySem.W.keepIn K (.ref (He.fAd K at_Cursor_refuse)) = true := (F_Cursor_refuse T).kp
theorem b_Cursor_refuse (T : TT K mg) : Binds K (fdOf K at_Cursor_refuse) ["self"] [] := FunD.bindsN (F_Cursor_refuse T) fun _ _ _ _ _ _ us hl => match us, hl with | [_], _ => rfl
theorem ok_Cursor_refuse (T : TT K mg) : FnOk P w K mg base (L2.CX P w) 1 (He.fAd K at_Cursor_refuse) (fdOf K at_Cursor_refuse) ["self"] (spM (tx K) 1 m_Cursor_refuse) :=
  fn_okM (Df.of (st := s_Cursor_refuse) (F_Cursor_refuse T)) sc_Cursor_refuse fun cdv A outer s H E hr => by
    have tk : Takes (cxOf (L2.CX P w) P w K mg base ["self"] "Cursor.refuse" (defScope s_Cursor_refuse) (He.fAd K at_Cursor_refuse) cdv A outer s H E) (WB E) := takes_of rfl rfl rfl rfl
    have hp : PassesOwn (model P w) (cxOf (L2.CX P w) P w K mg base ["self"] "Cursor.refuse" (defScope s_Cursor_refuse) (He.fAd K at_Cursor_refuse) cdv A outer s H E).A (cxOf (L2.CX P w) P w K mg base ["self"] "Cursor.refuse" (defScope s_Cursor_refuse) (He.fAd K at_Cursor_refuse) cdv A outer s H E).env (cxOf (L2.CX P w) P w K mg base ["self"] "Cursor.refuse" (defScope s_Cursor_refuse) (He.fAd K at_Cursor_refuse) cdv A outer s H E).xe := passes_of rfl
    exact (s_one (s_raiseB rfl tk (ia_BadText T) hr (T.free 27) (T.glo 28) (T.rai 29) rfl (by decide) (v_fld rfl (clsAll T) 0 (v_var 0))))
theorem sc_Cursor_skip : FnScope ["self"] ["self"] (defScope s_Cursor_skip) := ⟨rfl, rfl, rfl, by decide +kernel, rfl, by decide +kernel, by decide +kernel⟩
theorem F_Cursor_skip (T : TT K mg) : FunD K "skip" "Cursor.skip" (defArgs s_Cursor_skip) (defBody s_Cursor_skip) (defScope s_Cursor_skip) (d_Cursor_skip.dvs K) [] (He.fAd K at_Cursor_skip) (fdOf K at_Cursor_skip) := T.c.fd 16 (d := d_Cursor_skip) rfl
theorem kp_Cursor_skip (T : TT K mg) : PySem.W.keepIn K (.ref (He.fAd K at_Cursor_skip)) = true := (F_Cursor_skip T).kp
theorem b_Cursor_skip (T : TT K mg) : Binds K (fdOf K at_Cursor_skip) ["self"] [] := FunD.bindsN (F_Cursor_skip T) fun _ _ _ _ _ _ us hl => match us, hl with | [_], _ => rfl
theorem ok_Cursor_skip (T : TT K mg) : FnOk P w K mg base (L2.CX P w) 1 (He.fAd K at_Cursor_skip) (fdOf K at_Cursor_skip) ["self"] (spM (tx K) 1 m_Cursor_skip) :=
  fn_okM (Df.of (st := s_Cursor_skip) (F_Cursor_skip T)) sc_Cursor_skip fun cdv A outer s H E hr => by
    have tk : Takes (cxOf (L2.CX P w) P w K mg base ["self"] "Cursor.skip" (defScope s_Cursor_skip) (He.fAd K at_Cursor_skip) cdv A outer s H E) (WB E) := takes_of rfl rfl rfl rfl
    have hp : PassesOwn (model P w) (cxOf (L2.CX P w) P w K mg base ["self"] "Cursor.skip" (defScope s_Cursor_skip) (He.fAd K at_Cursor_skip) cdv A outer s H E).A (cxOf (L2.CX P w) P w K mg base ["self"] "Cursor.skip" (defScope s_Cursor_skip) (He.fAd K at_Cursor_skip) cdv A outer s H E).env (cxOf (L2.CX P w) P w K mg base ["self"] "Cursor.skip" (defScope s_Cursor_skip) (He.fAd K at_Cursor_skip) cdv A outer s H E).xe := passes_of rfl
    exact (s_one (s_fld rfl (clsAll T) 0 (v_var 0) (v_bin (ob_add rfl) (v_fld rfl (clsAll T) 0 (v_var 0)) v_int)))
theorem sc_plain_number : FnScope ["word", "most", "sign"] ["word", "most"] (defScope s_plain_number) := ⟨rfl, rfl, rfl, by decide +kernel, rfl, by decide +kernel, by decide +kernel⟩
theorem F_plain_number (T : TT K mg) : FunD K "plain_number" "plain_number" (defArgs s_plain_number) (defBody s_plain_number) (defScope s_plain_number) (d_plain_number.dvs K) [] (He.fAd K at_plain_number) (fdOf K at_plain_number) := T.c.fd 17 (d := d_plain_number) rfl
theorem kp_plain_number (T : TT K mg) : PySem.W.keepIn K (.ref (He.fAd K at_plain_number)) = true := (F_plain_number T).kp
theorem b_plain_number (T : TT K mg) : Binds K (fdOf K at_plain_number) ["word", "most"] [] := FunD.bindsN (F_plain_number T) fun _ _ _ _ _ _ us hl => match us, hl with | [_, _], _ => rfl
theorem ok_plain_number (T : TT K mg) : FnOk P w K mg base (L2.CX P w) 1 (He.fAd K at_plain_number) (fdOf K at_plain_number) ["word", "most"] (spM (tx K) 2 m_plain_number) :=
  fn_okM (Df.of (st := s_plain_number) (F_plain_number T)) sc_plain_number fun cdv A outer s H E hr => by
    have tk : Takes (cxOf (L2.CX P w) P w K mg base ["word", "most", "sign"] "plain_number" (defScope s_plain_number) (He.fAd K at_plain_number) cdv A outer s H E) (WB E) := takes_of rfl rfl rfl rfl
    have hp : PassesOwn (model P w) (cxOf (L2.CX P w) P w K mg base ["word", "most", "sign"] "plain_number" (defScope s_plain_number) (He.fAd K at_plain_number) cdv A outer s H E).A (cxOf (L2.CX P w) P w K mg base ["word", "most", "sign"] "plain_number" (defScope s_plain_number) (He.fAd K at_plain_number) cdv A outer s H E).env (cxOf (L2.CX P w) P w K mg base ["word", "most", "sign"] "plain_number" (defScope s_plain_number) (He.fAd K at_plain_number) cdv A outer s H E).xe := passes_of rfl
    exact (s_cons (s_if (PW.pt (w_or (t_not (t_chain oc_le oc_le v_int (v_callB (ok_len rfl) rfl (T.free 2) (a_cons (v_var 0) a_nil)) (v_var 1))) (pw_or1 (t_not (t_tru rfl (v_callB (ok_all rfl) rfl (T.free 33) (a_cons (v_lc true [("sign", 2)] rfl sc_plain_number.nd (i_str (v_var 0)) (blkOk_by (by kernel_rfl)) (fun _ _ _ _ _ => (g_name 2 sc_plain_number.nd)) (fun _ _ _ _ _ => ts_nil) (fun _ _ _ _ _ => (v_cmp (oc_in rfl (hu65 hr)) (v_var 2) (v_gstr (T.gstr 38)) rfl))) a_nil))))))) (s_one (s_ret v_non)) s_nil)
      (s_cons (s_if (PW.pt (w_and (t_cmp (oc_eq rfl (hu64 hr)) (v_ix rfl (v_var 0) v_int) v_str (nomark _)) (pw_and1 (t_cmp oc_gt (v_callB (ok_len rfl) rfl (T.free 2) (a_cons (v_var 0) a_nil)) v_int (nomark _))))) (s_one (s_ret v_non)) s_nil)
      (s_one (s_ret (v_callT ok_intT rfl (T.free 3) (a_cons (v_var 0) a_nil))))))
theorem sc_number_of : FnScope ["word"] ["word"] (defScope s_number_of) := ⟨rfl, rfl, rfl, by decide +kernel, rfl, by decide +kernel, by decide +kernel⟩
theorem F_number_of (T : TT K mg) : FunD K "number_of" "number_of" (defArgs s_number_of) (defBody s_number_of) (defScope s_number_of) (d_number_of.dvs K) [] (He.fAd K at_number_of) (fdOf K at_number_of) := T.c.fd 18 (d := d_number_of) rfl
theorem kp_number_of (T : TT K mg) : PySem.W.keepIn K (.ref (He.fAd K at_number_of)) = true := (F_number_of T).kp
theorem b_number_of (T : TT K mg) : Binds K (fdOf K at_number_of) ["word"] [] := FunD.bindsN (F_number_of T) fun _ _ _ _ _ _ us hl => match us, hl with | [_], _ => rfl
theorem ok_number_of (T : TT K mg) : FnOk P w K mg base (L2.CX P w) 2 (He.fAd K at_number_of) (fdOf K at_number_of) ["word"] (spM (tx K) 1 m_number_of) :=
  fn_okM (Df.of (st := s_number_of) (F_number_of T)) sc_number_of fun cdv A outer s H E hr => by
    have tk : Takes (cxOf (L2.CX P w) P w K mg base ["word"] "number_of" (defScope s_number_of) (He.fAd K at_number_of) cdv A outer s H E) (WB E) := takes_of rfl rfl rfl rfl
    have hp : PassesOwn (model P w) (cxOf (L2.CX P w) P w K mg base ["word"] "number_of" (defScope s_number_of) (He.fAd K at_number_of) cdv A outer s H E).A (cxOf (L2.CX P w) P w K mg base ["word"] "number_of" (defScope s_number_of) (He.fAd K at_number_of) cdv A outer s H E).env (cxOf (L2.CX P w) P w K mg base ["word"] "number_of" (defScope s_number_of) (He.fAd K at_number_of) cdv A outer s H E).xe := passes_of rfl
    exact (s_one (s_ret (v_call tk (ok_plain_number T) (hr.mono (by decide)) (T.glo 39) (kp_plain_number T) (b_plain_number T) (a_cons (v_var 0) (a_cons v_int a_nil)))))
theorem sc_whole_of : FnScope ["word", "found"] ["word"] (defScope s_whole_of) := ⟨rfl, rfl, rfl, by decide +kernel, rfl, by decide +kernel, by decide +kernel⟩
theorem F_whole_of (T : TT K mg) : FunD K "whole_of" "whole_of" (defArgs s_whole_of) (defBody s_whole_of) (defScope s_whole_of) (d_whole_of.dvs K) [] (He.fAd K at_whole_of) (fdOf K at_whole_of) := T.c.fd 19 (d := d_whole_of) rfl
theorem kp_whole_of (T : TT K mg) : PySem.W.keepIn K (.ref (He.fAd K at_whole_of)) = true := (F_whole_of T).kp
theorem b_whole_of (T : TT K mg) : Binds K (fdOf K at_whole_of) ["word"] [] := FunD.bindsN (F_whole_of T) fun _ _ _ _ _ _ us hl => match us, hl with | [_], _ => rfl
theorem ok_whole_of (T : TT K mg) : FnOk P w K mg base (L2.CX P w) 3 (He.fAd K at_whole_of) (fdOf K at_whole_of) ["word"] (spM (tx K) 1 m_whole_of) :=
  fn_okM (Df.of (st := s_whole_of) (F_whole_of T)) sc_whole_of fun cdv A outer s H E hr => by
    have tk : Takes (cxOf (L2.CX P w) P w K mg base ["word", "found"] "whole_of" (defScope s_whole_of) (He.fAd K at_whole_of) cdv A outer s H E) (WB E) := takes_of rfl rfl rfl rfl
    have hp : PassesOwn (model P w) (cxOf (L2.CX P w) P w K mg base ["word", "found"] "whole_of" (defScope s_whole_of) (He.fAd K at_whole_of) cdv A outer s H E).A (cxOf (L2.CX P w) P w K mg base ["word", "found"] "whole_of" (defScope s_whole_of) (He.fAd K at_whole_of) cdv A outer s H E).env (cxOf (L2.CX P w) P w K mg base ["word", "found"] "whole_of" (defScope s_whole_of) (He.fAd K at_whole_of) cdv A outer s H E).xe := passes_of rfl
    exact (s_cons (s_if (t_cmp (oc_ne rfl (hu64 hr)) (v_sl true rfl (v_var 0) o_none (o_some v_int)) v_str (nomark _)) (s_one (s_ret (v_call tk (ok_number_of T) (hr.mono (by decide)) (T.glo 40) (kp_number_of T) (b_number_of T) (a_cons (v_var 0) a_nil)))) s_nil)
      (s_cons (s_set 1 sc_whole_of.nd (v_call tk (ok_number_of T) (hr.mono (by decide)) (T.glo 40) (kp_number_of T) (b_number_of T) (a_cons (v_sl true rfl (v_var 0) (o_some v_int) o_none) a_nil)))
      (s_cons (s_if (PW.pt (w_or (t_cmp oc_is (v_var 1) v_non (nomark _)) (pw_or1 (t_cmp (oc_eq rfl (hu64 hr)) (v_var 1) v_int (nomark _))))) (s_one (s_ret v_non)) s_nil)
      (s_one (s_ret (v_bin ob_sub v_int (v_var 1)))))))
theorem sc_Reader_whole : FnScope ["self", "word"] ["self"] (defScope s_Reader_whole) := ⟨rfl, rfl, rfl, by decide +kernel, rfl, by decide +kernel, by decide +kernel⟩
theorem F_Reader_whole (T : TT K mg) : FunD K "whole" "Reader.whole" (defArgs s_Reader_whole) (defBody s_Reader_whole) (defScope s_Reader_whole) (d_Reader_whole.dvs K) [] (He.fAd K at_Reader_whole) (fdOf K at_Reader_whole) := T.c.fd 20 (d := d_Reader_whole) rfl
theorem kp_Reader_whole (T : TT K mg) : PySem.W.keepIn K (.ref (He.fAd K at_Reader_whole)) = true := (F_Reader_whole T).kp
theorem b_Reader_whole (T : TT K mg) : Binds K (fdOf K at_Reader_whole) ["self"] [] := FunD.bindsN (F_Reader_whole T) fun _ _ _ _ _ _ us hl => match us, hl with | [_], _ => rfl
theorem ok_Reader_whole (T : TT K mg) : FnOk P w K mg base (L2.CX P w) 4 (He.fAd K at_Reader_whole) (fdOf K at_Reader_whole) ["self"] (spM (tx K) 1 m_Reader_whole) :=
  fn_okM (Df.of (st := s_Reader_whole) (F_Reader_whole T)) sc_Reader_whole fun cdv A outer s H E hr => by
    have tk : Takes (cxOf (L2.CX P w) P w K mg base ["self", "word"] "Reader.whole" (defScope s_Reader_whole) (He.fAd K at_Reader_whole) cdv A outer s H E) (WB E) := takes_of rfl rfl rfl rfl
    have hp : PassesOwn (model P w) (cxOf (L2.CX P w) P w K mg base ["self", "word"] "Reader.whole" (defScope s_Reader_whole) (He.fAd K at_Reader_whole) cdv A outer s H E).A (cxOf (L2.CX P w) P w K mg base ["self", "word"] "Reader.whole" (defScope s_Reader_whole) (He.fAd K at_Reader_whole) cdv A outer s H E).env (cxOf (L2.CX P w) P w K mg base ["self", "word"] "Reader.whole" (defScope s_Reader_whole) (He.fAd K at_Reader_whole) cdv A outer s H E).xe := passes_of rfl
    exact (s_cons (s_set 1 sc_Reader_whole.nd (v_meth0 rfl (clsAll T) tk (one_all (P := fun c m => MetOk _ _ _ _ c m) ⟨⟨_, _, _, _, ⟨(T.met 26).1, (T.met 26).2, (kp_Cursor_next_word T)⟩, (ok_Cursor_next_word T), (hr.mono (by decide)), (b_Cursor_next_word T)⟩, by decide +kernel⟩) (v_fld rfl (clsAll T) 8 (v_var 0))))
      (s_cons (s_if (PW.pt (w_or (t_cmp oc_is (v_var 1) v_non (nomark _)) (pw_or1 (t_cmp oc_is (v_call tk (ok_whole_of T) (hr.mono (by decide)) (T.glo 41) (kp_whole_of T) (b_whole_of T) (a_cons (v_var 1) a_nil)) v_non (nomark _))))) (s_one (s_expr (v_meth0 rfl (clsAll T) tk (one_all (P := fun c m => MetOk _ _ _ _ c m) ⟨⟨_, _, _, _, ⟨(T.met 36).1, (T.met 36).2, (kp_Cursor_refuse T)⟩, (ok_Cursor_refuse T), (hr.mono (by decide)), (b_Cursor_refuse T)⟩, by decide +kernel⟩) (v_fld rfl (clsAll T) 8 (v_var 0))))) s_nil)
      (s_cons (s_expr (v_meth0 rfl (clsAll T) tk (one_all (P := fun c m => MetOk _ _ _ _ c m) ⟨⟨_, _, _, _, ⟨(T.met 37).1, (T.met 37).2, (kp_Cursor_skip T)⟩, (ok_Cursor_skip T), (hr.mono (by decide)), (b_Cursor_skip T)⟩, by decide +kernel⟩) (v_fld rfl (clsAll T) 8 (v_var 0))))
      (s_one (s_ret (v_call tk (ok_whole_of T) (hr.mono (by decide)) (T.glo 41) (kp_whole_of T) (b_whole_of T) (a_cons (v_var 1) a_nil)))))))
theorem sc_Reader_joint : FnScope ["self", "name", "x", "word", "joint"] ["self"] (defScope s_Reader_joint) := ⟨rfl, rfl, rfl, by decide +kernel, rfl, by decide +kernel, by decide +kernel⟩
theorem F_Reader_joint (T : TT K mg) : FunD K "joint" "Reader.joint" (defArgs s_Reader_joint) (defBody s_Reader_joint) (defScope s_Reader_joint) (d_Reader_joint.dvs K) [] (He.fAd K at_Reader_joint) (fdOf K at_Reader_joint) := T.c.fd 21 (d := d_Reader_joint) rfl
theorem kp_Reader_joint (T : TT K mg) : PySem.W.keepIn K (.ref (He.fAd K at_Reader_joint)) = true := (F_Reader_joint T).kp
theorem b_Reader_joint (T : TT K mg) : Binds K (fdOf K at_Reader_joint) ["self"] [] := FunD.bindsN (F_Reader_joint T) fun _ _ _ _ _ _ us hl => match us, hl with | [_], _ => rfl
theorem ok_Reader_joint (T : TT K mg) : FnOk P w K mg base (L2.CX P w) 5 (He.fAd K at_Reader_joint) (fdOf K at_Reader_joint) ["self"] (spM (tx K) 1 m_Reader_joint) :=
  fn_okM (Df.of (st := s_Reader_joint) (F_Reader_joint T)) sc_Reader_joint fun cdv A outer s H E hr => by
    have tk : Takes (cxOf (L2.CX P w) P w K mg base ["self", "name", "x", "word", "joint"] "Reader.joint" (defScope s_Reader_joint) (He.fAd K at_Reader_joint) cdv A outer s H E) (WB E) := takes_of rfl rfl rfl rfl
    have hp : PassesOwn (model P w) (cxOf (L2.CX P w) P w K mg base ["self", "name", "x", "word", "joint"] "Reader.joint" (defScope s_Reader_joint) (He.fAd K at_Reader_joint) cdv A outer s H E).A (cxOf (L2.CX P w) P w K mg base ["self", "name", "x", "word", "joint"] "Reader.joint" (defScope s_Reader_joint) (He.fAd K at_Reader_joint) cdv A outer s H E).env (cxOf (L2.CX P w) P w K mg base ["self", "name", "x", "word", "joint"] "Reader.joint" (defScope s_Reader_joint) (He.fAd K at_Reader_joint) cdv A outer s H E).xe := passes_of rfl
    exact (s_cons (s_expr (v_meth rfl (clsAll T) tk (one_all (P := fun c m => MetOk _ _ _ _ c m) ⟨⟨_, _, _, _, ⟨(T.met 30).1, (T.met 30).2, (kp_Cursor_take T)⟩, (ok_Cursor_take T), (hr.mono (by decide)), (b_Cursor_take T)⟩, by decide +kernel⟩) (v_fld rfl (clsAll T) 8 (v_var 0)) (a_cons (v_lst true (a_cons v_str a_nil)) a_nil)))
      (s_cons (s_set 1 sc_Reader_joint.nd (v_meth0 rfl (clsAll T) tk (one_all (P := fun c m => MetOk _ _ _ _ c m) ⟨⟨_, _, _, _, ⟨(T.met 26).1, (T.met 26).2, (kp_Cursor_next_word T)⟩, (ok_Cursor_next_word T), (hr.mono (by decide)), (b_Cursor_next_word T)⟩, by decide +kernel⟩) (v_fld rfl (clsAll T) 8 (v_var 0))))
      (s_cons (s_if (PW.pt (w_or (t_cmp oc_is (v_var 1) v_non (nomark _)) (w_or (t_not (t_tru rfl (v_call tk (ok_is_name T) (hr.mono (by decide)) (T.glo 34) (kp_is_name T) (b_is_name T) (a_cons (v_var 1) a_nil)))) (pw_or1 (t_cmp (oc_in rfl (hu65 hr)) (v_var 1) (v_meth0 rfl (clsAll T) tk (one_all (P := fun c m => MetOk _ _ _ _ c m) ⟨⟨_, _, _, _, ⟨(T.met 35).1, (T.met 35).2, (kp_Reader_names T)⟩, (ok_Reader_names T), (hr.mono (by decide)), (b_Reader_names T)⟩, by decide +kernel⟩) (v_var 0)) rfl))))) (s_one (s_expr (v_meth0 rfl (clsAll T) tk (one_all (P := fun c m => MetOk _ _ _ _ c m) ⟨⟨_, _, _, _, ⟨(T.met 36).1, (T.met 36).2, (kp_Cursor_refuse T)⟩, (ok_Cursor_refuse T), (hr.mono (by decide)), (b_Cursor_refuse T)⟩, by decide +kernel⟩) (v_fld rfl (clsAll T) 8 (v_var 0))))) s_nil)
      (s_cons (s_expr (v_meth0 rfl (clsAll T) tk (one_all (P := fun c m => MetOk _ _ _ _ c m) ⟨⟨_, _, _, _, ⟨(T.met 37).1, (T.met 37).2, (kp_Cursor_skip T)⟩, (ok_Cursor_skip T), (hr.mono (by decide)), (b_Cursor_skip T)⟩, by decide +kernel⟩) (v_fld rfl (clsAll T) 8 (v_var 0))))
      (s_cons (s_set 2 sc_Reader_joint.nd (v_meth0 rfl (clsAll T) tk (one_all (P := fun c m => MetOk _ _ _ _ c m) ⟨⟨_, _, _, _, ⟨(T.met 42).1, (T.met 42).2, (kp_Reader_whole T)⟩, (ok_Reader_whole T), (hr.mono (by decide)), (b_Reader_whole T)⟩, by decide +kernel⟩) (v_var 0)))
      (s_cons (s_set 3 sc_Reader_joint.nd (v_meth0 rfl (clsAll T) tk (one_all (P := fun c m => MetOk _ _ _ _ c m) ⟨⟨_, _, _, _, ⟨(T.met 26).1, (T.met 26).2, (kp_Cursor_next_word T)⟩, (ok_Cursor_next_word T), (hr.mono (by decide)), (b_Cursor_next_word T)⟩, by decide +kernel⟩) (v_fld rfl (clsAll T) 8 (v_var 0))))
      (s_cons (s_if (PW.pt (w_and (t_cmp oc_not (v_var 3) v_non (nomark _)) (pw_and1 (t_cmp (oc_in rfl (hu65 hr)) (v_tup (a_cons (v_var 2) (a_cons (v_call tk (ok_whole_of T) (hr.mono (by decide)) (T.glo 41) (kp_whole_of T) (b_whole_of T) (a_cons (v_var 3) a_nil)) a_nil))) (v_lc true [("joint", 4)] rfl sc_Reader_joint.nd (i_seq rfl (v_fld rfl (clsAll T) 4 (v_var 0))) (blkOk_by (by kernel_rfl)) (fun _ _ _ _ _ => (g_name 4 sc_Reader_joint.nd)) (fun _ _ _ _ _ => ts_nil) (fun _ _ _ _ _ => (v_sl true rfl (v_var 4) (o_some v_int) o_none))) rfl)))) (s_one (s_expr (v_meth0 rfl (clsAll T) tk (one_all (P := fun c m => MetOk _ _ _ _ c m) ⟨⟨_, _, _, _, ⟨(T.met 36).1, (T.met 36).2, (kp_Cursor_refuse T)⟩, (ok_Cursor_refuse T), (hr.mono (by decide)), (b_Cursor_refuse T)⟩, by decide +kernel⟩) (v_fld rfl (clsAll T) 8 (v_var 0))))) s_nil)
      (s_one (s_expr (v_mb PySem.F.plainAttrs_list PySem.F.slot_list_append PySem.F.type_list_append ok_append ls_ty (v_fld rfl (clsAll T) 4 (v_var 0)) (a_cons (v_tup (a_cons (v_var 1) (a_cons (v_var 2) (a_cons (v_meth0 rfl (clsAll T) tk (one_all (P := fun c m => MetOk _ _ _ _ c m) ⟨⟨_, _, _, _, ⟨(T.met 42).1, (T.met 42).2, (kp_Reader_whole T)⟩, (ok_Reader_whole T), (hr.mono (by decide)), (b_Reader_whole T)⟩, by decide +kernel⟩) (v_var 0)) a_nil)))) a_nil)))))))))))
theorem sc_Reader_open_ends : FnScope ["self", "joint", "ends", "rod", "k"] ["self", "joint"] (defScope s_Reader_open_ends) := ⟨rfl, rfl, rfl, by decide +kernel, rfl, by decide +kernel, by decide +kernel⟩
theorem F_Reader_open_ends (T : TT K mg) : FunD K "open_ends" "Reader.open_ends" (defArgs s_Reader_open_ends) (defBody s_Reader_open_ends) (defScope s_Reader_open_ends) (d_Reader_open_ends.dvs K) [] (He.fAd K at_Reader_open_ends) (fdOf K at_Reader_open_ends) := T.c.fd 22 (d := d_Reader_open_ends) rfl
theorem kp_Reader_open_ends (T : TT K mg) : PySem.W.keepIn K (.ref (He.fAd K at_Reader_open_ends)) = true := (F_Reader_open_ends T).kp
theorem b_Reader_open_ends (T : TT K mg) : Binds K (fdOf K at_Reader_open_ends) ["self", "joint"] [] := FunD.bindsN (F_Reader_open_ends T) fun _ _ _ _ _ _ us hl => match us, hl with | [_, _], _ => rfl
theorem ok_Reader_open_ends (T : TT K mg) : FnOk P w K mg base (L2.CX P w) 1 (He.fAd K at_Reader_open_ends) (fdOf K at_Reader_open_ends) ["self", "joint"] (spM (tx K) 2 m_Reader_open_ends) :=
  fn_okM (Df.of (st := s_Reader_open_ends) (F_Reader_open_ends T)) sc_Reader_open_ends fun cdv A outer s H E hr => by
    have tk : Takes (cxOf (L2.CX P w) P w K mg base ["self", "joint", "ends", "rod", "k"] "Reader.open_ends" (defScope s_Reader_open_ends) (He.fAd K at_Reader_open_ends) cdv A outer s H E) (WB E) := takes_of rfl rfl rfl rfl
    have hp : PassesOwn (model P w) (cxOf (L2.CX P w) P w K mg base ["self", "joint", "ends", "rod", "k"] "Reader.open_ends" (defScope s_Reader_open_ends) (He.fAd K at_Reader_open_ends) cdv A outer s H E).A (cxOf (L2.CX P w) P w K mg base ["self", "joint", "ends", "rod", "k"] "Reader.open_ends" (defScope s_Reader_open_ends) (He.fAd K at_Reader_open_ends) cdv A outer s H E).env (cxOf (L2.CX P w) P w K mg base ["self", "joint", "ends", "rod", "k"] "Reader.open_ends" (defScope s_Reader_open_ends) (He.fAd K at_Reader_open_ends) cdv A outer s H E).xe := passes_of rfl
    exact (s_cons (s_set 2 sc_Reader_open_ends.nd (v_lc true [("rod", 3)] rfl sc_Reader_open_ends.nd (i_seq rfl (v_fld rfl (clsAll T) 5 (v_var 0))) (blkOk_by (by kernel_rfl)) (fun _ _ _ _ _ => (g_name 3 sc_Reader_open_ends.nd)) (fun _ _ _ _ _ => ts_nil) (fun _ _ _ _ _ => (v_sl true rfl (v_var 3) o_none (o_some v_int)))))
      (s_one (s_ret (v_lc true [("k", 4)] rfl sc_Reader_open_ends.nd (i_range2 (T.free 5) (v_bin (ob_add rfl) (v_var 1) v_int) (v_callB (ok_len rfl) rfl (T.free 2) (a_cons (v_fld rfl (clsAll T) 4 (v_var 0)) a_nil))) (blkOk_by (by kernel_rfl)) (fun _ _ _ _ _ => (g_name 4 sc_Reader_open_ends.nd)) (fun _ _ _ _ _ => (ts_one (t_cmp (oc_nin rfl (hu65 hr)) (v_tup (a_cons (v_var 1) (a_cons (v_var 4) a_nil))) (v_var 2) rfl))) (fun _ _ _ _ _ => (v_var 4))))))
theorem sc_Reader_starts : FnScope ["self", "joint"] ["self"] (defScope s_Reader_starts) := ⟨rfl, rfl, rfl, by decide +kernel, rfl, by decide +kernel, by decide +kernel⟩
theorem F_Reader_starts (T : TT K mg) : FunD K "starts" "Reader.starts" (defArgs s_Reader_starts) (defBody s_Reader_starts) (defScope s_Reader_starts) (d_Reader_starts.dvs K) [] (He.fAd K at_Reader_starts) (fdOf K at_Reader_starts) := T.c.fd 23 (d := d_Reader_starts) rfl
theorem kp_Reader_starts (T : TT K mg) : PySem.W.keepIn K (.ref (He.fAd K at_Reader_starts)) = true := (F_Reader_starts T).kp
theorem b_Reader_starts (T : TT K mg) : Binds K (fdOf K at_Reader_starts) ["self"] [] := FunD.bindsN (F_Reader_starts T) fun _ _ _ _ _ _ us hl => match us, hl with | [_], _ => rfl
theorem ok_Reader_starts (T : TT K mg) : FnOk P w K mg base (L2.CX P w) 2 (He.fAd K at_Reader_starts) (fdOf K at_Reader_starts) ["self"] (spM (tx K) 1 m_Reader_starts) :=
  fn_okM (Df.of (st := s_Reader_starts) (F_Reader_starts T)) sc_Reader_starts fun cdv A outer s H E hr => by
    have tk : Takes (cxOf (L2.CX P w) P w K mg base ["self", "joint"] "Reader.starts" (defScope s_Reader_starts) (He.fAd K at_Reader_starts) cdv A outer s H E) (WB E) := takes_of rfl rfl rfl rfl
    have hp : PassesOwn (model P w) (cxOf (L2.CX P w) P w K mg base ["self", "joint"] "Reader.starts" (defScope s_Reader_starts) (He.fAd K at_Reader_starts) cdv A outer s H E).A (cxOf (L2.CX P w) P w K mg base ["self", "joint"] "Reader.starts" (defScope s_Reader_starts) (He.fAd K at_Reader_starts) cdv A outer s H E).env (cxOf (L2.CX P w) P w K mg base ["self", "joint"] "Reader.starts" (defScope s_Reader_starts) (He.fAd K at_Reader_starts) cdv A outer s H E).xe := passes_of rfl
    exact (s_cons (s_if (t_cmp (oc_eq rfl (hu64 hr)) (v_callB (ok_len rfl) rfl (T.free 2) (a_cons (v_fld rfl (clsAll T) 5 (v_var 0)) a_nil)) (v_gint (T.gint 45)) (nomark _)) (s_one (s_ret (v_lst true a_nil))) s_nil)
      (s_one (s_ret (v_lc true [("joint", 1)] rfl sc_Reader_starts.nd (i_range (T.free 5) (v_callB (ok_len rfl) rfl (T.free 2) (a_cons (v_fld rfl (clsAll T) 4 (v_var 0)) a_nil))) (blkOk_by (by kernel_rfl)) (fun _ _ _ _ _ => (g_name 1 sc_Reader_starts.nd)) (fun _ _ _ _ _ => (ts_one (t_tru rfl (v_meth rfl (clsAll T) takes0 (one_all (P := fun c m => MetOk _ _ _ _ c m) ⟨⟨_, _, _, _, ⟨(T.met 46).1, (T.met 46).2, (kp_Reader_open_ends T)⟩, (ok_Reader_open_ends T), (hr.mono (by decide)), (b_Reader_open_ends T)⟩, by decide +kernel⟩) (v_var 0) (a_cons (v_var 1) a_nil))))) (fun _ _ _ _ _ => (v_var 1))))))
theorem sc_Reader_one_of : FnScope ["self", "joints", "names", "joint"] ["self", "joints"] (defScope s_Reader_one_of) := ⟨rfl, rfl, rfl, by decide +kernel, rfl, by decide +kernel, by decide +kernel⟩
theorem F_Reader_one_of (T : TT K mg) : FunD K "one_of" "Reader.one_of" (defArgs s_Reader_one_of) (defBody s_Reader_one_of) (defScope s_Reader_one_of) (d_Reader_one_of.dvs K) [] (He.fAd K at_Reader_one_of) (fdOf K at_Reader_one_of) := T.c.fd 24 (d := d_Reader_one_of) rfl
theorem kp_Reader_one_of (T : TT K mg) : PySem.W.keepIn K (.ref (He.fAd K at_Reader_one_of)) = true := (F_Reader_one_of T).kp
theorem b_Reader_one_of (T : TT K mg) : Binds K (fdOf K at_Reader_one_of) ["self", "joints"] [] := FunD.bindsN (F_Reader_one_of T) fun _ _ _ _ _ _ us hl => match us, hl with | [_, _], _ => rfl
theorem ok_Reader_one_of (T : TT K mg) : FnOk P w K mg base (L2.CX P w) 3 (He.fAd K at_Reader_one_of) (fdOf K at_Reader_one_of) ["self", "joints"] (spM (tx K) 2 m_Reader_one_of) :=
  fn_okM (Df.of (st := s_Reader_one_of) (F_Reader_one_of T)) sc_Reader_one_of fun cdv A outer s H E hr => by
    have tk : Takes (cxOf (L2.CX P w) P w K mg base ["self", "joints", "names", "joint"] "Reader.one_of" (defScope s_Reader_one_of) (He.fAd K at_Reader_one_of) cdv A outer s H E) (WB E) := takes_of rfl rfl rfl rfl
    have hp : PassesOwn (model P w) (cxOf (L2.CX P w) P w K mg base ["self", "joints", "names", "joint"] "Reader.one_of" (defScope s_Reader_one_of) (He.fAd K at_Reader_one_of) cdv A outer s H E).A (cxOf (L2.CX P w) P w K mg base ["self", "joints", "names", "joint"] "Reader.one_of" (defScope s_Reader_one_of) (He.fAd K at_Reader_one_of) cdv A outer s H E).env (cxOf (L2.CX P w) P w K mg base ["self", "joints", "names", "joint"] "Reader.one_of" (defScope s_Reader_one_of) (He.fAd K at_Reader_one_of) cdv A outer s H E).xe := passes_of rfl
    exact (s_cons (s_set 2 sc_Reader_one_of.nd (v_meth0 rfl (clsAll T) tk (one_all (P := fun c m => MetOk _ _ _ _ c m) ⟨⟨_, _, _, _, ⟨(T.met 35).1, (T.met 35).2, (kp_Reader_names T)⟩, (ok_Reader_names T), (hr.mono (by decide)), (b_Reader_names T)⟩, by decide +kernel⟩) (v_var 0)))
      (s_one (s_ret (v_mb PySem.F.plainAttrs_list PySem.F.slot_list_index PySem.F.type_list_index ok_index ls_ty (v_var 2) (a_cons (v_meth rfl (clsAll T) tk (one_all (P := fun c m => MetOk _ _ _ _ c m) ⟨⟨_, _, _, _, ⟨(T.met 30).1, (T.met 30).2, (kp_Cursor_take T)⟩, (ok_Cursor_take T), (hr.mono (by decide)), (b_Cursor_take T)⟩, by decide +kernel⟩) (v_fld rfl (clsAll T) 8 (v_var 0)) (a_cons (v_lc true [("joint", 3)] rfl sc_Reader_one_of.nd (i_seq rfl (v_var 1)) (blkOk_by (by kernel_rfl)) (fun _ _ _ _ _ => (g_name 3 sc_Reader_one_of.nd)) (fun _ _ _ _ _ => ts_nil) (fun _ _ _ _ _ => (v_ix rfl (v_var 2) (v_var 3)))) a_nil)) a_nil)))))
theorem sc_Reader_strength : FnScope ["self", "word"] ["self"] (defScope s_Reader_strength) := ⟨rfl, rfl, rfl, by decide +kernel, rfl, by decide +kernel, by decide +kernel⟩
theorem F_Reader_strength (T : TT K mg) : FunD K "strength" "Reader.strength" (defArgs s_Reader_strength) (defBody s_Reader_strength) (defScope s_Reader_strength) (d_Reader_strength.dvs K) [] (He.fAd K at_Reader_strength) (fdOf K at_Reader_strength) := T.c.fd 25 (d := d_Reader_strength) rfl
theorem kp_Reader_strength (T : TT K mg) : PySem.W.keepIn K (.ref (He.fAd K at_Reader_strength)) = true := (F_Reader_strength T).kp
theorem b_Reader_strength (T : TT K mg) : Binds K (fdOf K at_Reader_strength) ["self"] [] := FunD.bindsN (F_Reader_strength T) fun _ _ _ _ _ _ us hl => match us, hl with | [_], _ => rfl
theorem ok_Reader_strength (T : TT K mg) : FnOk P w K mg base (L2.CX P w) 3 (He.fAd K at_Reader_strength) (fdOf K at_Reader_strength) ["self"] (spM (tx K) 1 m_Reader_strength) :=
  fn_okM (Df.of (st := s_Reader_strength) (F_Reader_strength T)) sc_Reader_strength fun cdv A outer s H E hr => by
    have tk : Takes (cxOf (L2.CX P w) P w K mg base ["self", "word"] "Reader.strength" (defScope s_Reader_strength) (He.fAd K at_Reader_strength) cdv A outer s H E) (WB E) := takes_of rfl rfl rfl rfl
    have hp : PassesOwn (model P w) (cxOf (L2.CX P w) P w K mg base ["self", "word"] "Reader.strength" (defScope s_Reader_strength) (He.fAd K at_Reader_strength) cdv A outer s H E).A (cxOf (L2.CX P w) P w K mg base ["self", "word"] "Reader.strength" (defScope s_Reader_strength) (He.fAd K at_Reader_strength) cdv A outer s H E).env (cxOf (L2.CX P w) P w K mg base ["self", "word"] "Reader.strength" (defScope s_Reader_strength) (He.fAd K at_Reader_strength) cdv A outer s H E).xe := passes_of rfl
    exact (s_cons (s_set 1 sc_Reader_strength.nd (v_meth0 rfl (clsAll T) tk (one_all (P := fun c m => MetOk _ _ _ _ c m) ⟨⟨_, _, _, _, ⟨(T.met 26).1, (T.met 26).2, (kp_Cursor_next_word T)⟩, (ok_Cursor_next_word T), (hr.mono (by decide)), (b_Cursor_next_word T)⟩, by decide +kernel⟩) (v_fld rfl (clsAll T) 8 (v_var 0))))
      (s_cons (s_if (t_cmp (oc_eq rfl (hu64 hr)) (v_var 1) v_str (nomark _)) (s_cons (s_expr (v_meth0 rfl (clsAll T) tk (one_all (P := fun c m => MetOk _ _ _ _ c m) ⟨⟨_, _, _, _, ⟨(T.met 37).1, (T.met 37).2, (kp_Cursor_skip T)⟩, (ok_Cursor_skip T), (hr.mono (by decide)), (b_Cursor_skip T)⟩, by decide +kernel⟩) (v_fld rfl (clsAll T) 8 (v_var 0))))
      (s_one (s_ret v_non))) s_nil)
      (s_cons (s_if (PW.pt (w_or (t_cmp oc_is (v_var 1) v_non (nomark _)) (pw_or1 (t_cmp oc_is (v_call tk (ok_number_of T) (hr.mono (by decide)) (T.glo 40) (kp_number_of T) (b_number_of T) (a_cons (v_var 1) a_nil)) v_non (nomark _))))) (s_one (s_expr (v_meth0 rfl (clsAll T) tk (one_all (P := fun c m => MetOk _ _ _ _ c m) ⟨⟨_, _, _, _, ⟨(T.met 36).1, (T.met 36).2, (kp_Cursor_refuse T)⟩, (ok_Cursor_refuse T), (hr.mono (by decide)), (b_Cursor_refuse T)⟩, by decide +kernel⟩) (v_fld rfl (clsAll T) 8 (v_var 0))))) s_nil)
      (s_cons (s_expr (v_meth0 rfl (clsAll T) tk (one_all (P := fun c m => MetOk _ _ _ _ c m) ⟨⟨_, _, _, _, ⟨(T.met 37).1, (T.met 37).2, (kp_Cursor_skip T)⟩, (ok_Cursor_skip T), (hr.mono (by decide)), (b_Cursor_skip T)⟩, by decide +kernel⟩) (v_fld rfl (clsAll T) 8 (v_var 0))))
      (s_one (s_ret (v_call tk (ok_number_of T) (hr.mono (by decide)) (T.glo 40) (kp_number_of T) (b_number_of T) (a_cons (v_var 1) a_nil))))))))
theorem sc_Reader_rod : FnScope ["self", "one", "other", "push"] ["self"] (defScope s_Reader_rod) := ⟨rfl, rfl, rfl, by decide +kernel, rfl, by decide +kernel, by decide +kernel⟩
theorem F_Reader_rod (T : TT K mg) : FunD K "rod" "Reader.rod" (defArgs s_Reader_rod) (defBody s_Reader_rod) (defScope s_Reader_rod) (d_Reader_rod.dvs K) [] (He.fAd K at_Reader_rod) (fdOf K at_Reader_rod) := T.c.fd 26 (d := d_Reader_rod) rfl
theorem kp_Reader_rod (T : TT K mg) : PySem.W.keepIn K (.ref (He.fAd K at_Reader_rod)) = true := (F_Reader_rod T).kp
theorem b_Reader_rod (T : TT K mg) : Binds K (fdOf K at_Reader_rod) ["self"] [] := FunD.bindsN (F_Reader_rod T) fun _ _ _ _ _ _ us hl => match us, hl with | [_], _ => rfl
theorem ok_Reader_rod (T : TT K mg) : FnOk P w K mg base (L2.CX P w) 4 (He.fAd K at_Reader_rod) (fdOf K at_Reader_rod) ["self"] (spM (tx K) 1 m_Reader_rod) :=
  fn_okM (Df.of (st := s_Reader_rod) (F_Reader_rod T)) sc_Reader_rod fun cdv A outer s H E hr => by
    have tk : Takes (cxOf (L2.CX P w) P w K mg base ["self", "one", "other", "push"] "Reader.rod" (defScope s_Reader_rod) (He.fAd K at_Reader_rod) cdv A outer s H E) (WB E) := takes_of rfl rfl rfl rfl
    have hp : PassesOwn (model P w) (cxOf (L2.CX P w) P w K mg base ["self", "one", "other", "push"] "Reader.rod" (defScope s_Reader_rod) (He.fAd K at_Reader_rod) cdv A outer s H E).A (cxOf (L2.CX P w) P w K mg base ["self", "one", "other", "push"] "Reader.rod" (defScope s_Reader_rod) (He.fAd K at_Reader_rod) cdv A outer s H E).env (cxOf (L2.CX P w) P w K mg base ["self", "one", "other", "push"] "Reader.rod" (defScope s_Reader_rod) (He.fAd K at_Reader_rod) cdv A outer s H E).xe := passes_of rfl
    exact (s_cons (s_expr (v_meth rfl (clsAll T) tk (one_all (P := fun c m => MetOk _ _ _ _ c m) ⟨⟨_, _, _, _, ⟨(T.met 30).1, (T.met 30).2, (kp_Cursor_take T)⟩, (ok_Cursor_take T), (hr.mono (by decide)), (b_Cursor_take T)⟩, by decide +kernel⟩) (v_fld rfl (clsAll T) 8 (v_var 0)) (a_cons (v_lst true (a_cons v_str a_nil)) a_nil)))
      (s_cons (s_set 1 sc_Reader_rod.nd (v_meth rfl (clsAll T) tk (one_all (P := fun c m => MetOk _ _ _ _ c m) ⟨⟨_, _, _, _, ⟨(T.met 48).1, (T.met 48).2, (kp_Reader_one_of T)⟩, (ok_Reader_one_of T), (hr.mono (by decide)), (b_Reader_one_of T)⟩, by decide +kernel⟩) (v_var 0) (a_cons (v_meth0 rfl (clsAll T) tk (one_all (P := fun c m => MetOk _ _ _ _ c m) ⟨⟨_, _, _, _, ⟨(T.met 47).1, (T.met 47).2, (kp_Reader_starts T)⟩, (ok_Reader_starts T), (hr.mono (by decide)), (b_Reader_starts T)⟩, by decide +kernel⟩) (v_var 0)) a_nil)))
      (s_cons (s_set 2 sc_Reader_rod.nd (v_meth rfl (clsAll T) tk (one_all (P := fun c m => MetOk _ _ _ _ c m) ⟨⟨_, _, _, _, ⟨(T.met 48).1, (T.met 48).2, (kp_Reader_one_of T)⟩, (ok_Reader_one_of T), (hr.mono (by decide)), (b_Reader_one_of T)⟩, by decide +kernel⟩) (v_var 0) (a_cons (v_meth rfl (clsAll T) tk (one_all (P := fun c m => MetOk _ _ _ _ c m) ⟨⟨_, _, _, _, ⟨(T.met 46).1, (T.met 46).2, (kp_Reader_open_ends T)⟩, (ok_Reader_open_ends T), (hr.mono (by decide)), (b_Reader_open_ends T)⟩, by decide +kernel⟩) (v_var 0) (a_cons (v_var 1) a_nil)) a_nil)))
      (s_cons (s_set 3 sc_Reader_rod.nd (v_meth0 rfl (clsAll T) tk (one_all (P := fun c m => MetOk _ _ _ _ c m) ⟨⟨_, _, _, _, ⟨(T.met 49).1, (T.met 49).2, (kp_Reader_strength T)⟩, (ok_Reader_strength T), (hr.mono (by decide)), (b_Reader_strength T)⟩, by decide +kernel⟩) (v_var 0)))
      (s_one (s_expr (v_mb PySem.F.plainAttrs_list PySem.F.slot_list_append PySem.F.type_list_append ok_append ls_ty (v_fld rfl (clsAll T) 5 (v_var 0)) (a_cons (v_tup (a_cons (v_var 1) (a_cons (v_var 2) (a_cons (v_var 3) (a_cons (v_meth0 rfl (clsAll T) tk (one_all (P := fun c m => MetOk _ _ _ _ c m) ⟨⟨_, _, _, _, ⟨(T.met 49).1, (T.met 49).2, (kp_Reader_strength T)⟩, (ok_Reader_strength T), (hr.mono (by decide)), (b_Reader_strength T)⟩, by decide +kernel⟩) (v_var 0)) a_nil))))) a_nil))))))))
theorem sc_Reader_open_axes : FnScope ["self", "joint", "axis"] ["self", "joint"] (defScope s_Reader_open_axes) := ⟨rfl, rfl, rfl, by decide +kernel, rfl, by decide +kernel, by decide +kernel⟩
theorem F_Reader_open_axes (T : TT K mg) : FunD K "open_axes" "Reader.open_axes" (defArgs s_Reader_open_axes) (defBody s_Reader_open_axes) (defScope s_Reader_open_axes) (d_Reader_open_axes.dvs K) [] (He.fAd K at_Reader_open_axes) (fdOf K at_Reader_open_axes) := T.c.fd 27 (d := d_Reader_open_axes) rfl
theorem kp_Reader_open_axes (T : TT K mg) : PySem.W.keepIn K (.ref (He.fAd K at_Reader_open_axes)) = true := (F_Reader_open_axes T).kp
theorem b_Reader_open_axes (T : TT K mg) : Binds K (fdOf K at_Reader_open_axes) ["self", "joint"] [] := FunD.bindsN (F_Reader_open_axes T) fun _ _ _ _ _ _ us hl => match us, hl with | [_, _], _ => rfl
theorem ok_Reader_open_axes (T : TT K mg) : FnOk P w K mg base (L2.CX P w) 1 (He.fAd K at_Reader_open_axes) (fdOf K at_Reader_open_axes) ["self", "joint"] (spM (tx K) 2 m_Reader_open_axes) :=
  fn_okM (Df.of (st := s_Reader_open_axes) (F_Reader_open_axes T)) sc_Reader_open_axes fun cdv A outer s H E hr => by
    have tk : Takes (cxOf (L2.CX P w) P w K mg base ["self", "joint", "axis"] "Reader.open_axes" (defScope s_Reader_open_axes) (He.fAd K at_Reader_open_axes) cdv A outer s H E) (WB E) := takes_of rfl rfl rfl rfl
    have hp : PassesOwn (model P w) (cxOf (L2.CX P w) P w K mg base ["self", "joint", "axis"] "Reader.open_axes" (defScope s_Reader_open_axes) (He.fAd K at_Reader_open_axes) cdv A outer s H E).A (cxOf (L2.CX P w) P w K mg base ["self", "joint", "axis"] "Reader.open_axes" (defScope s_Reader_open_axes) (He.fAd K at_Reader_open_axes) cdv A outer s H E).env (cxOf (L2.CX P w) P w K mg base ["self", "joint", "axis"] "Reader.open_axes" (defScope s_Reader_open_axes) (He.fAd K at_Reader_open_axes) cdv A outer s H E).xe := passes_of rfl
    exact (s_one (s_ret (v_lc true [("axis", 2)] rfl sc_Reader_open_axes.nd (i_seq rfl (v_tup (a_cons v_int (a_cons v_int a_nil)))) (blkOk_by (by kernel_rfl)) (fun _ _ _ _ _ => (g_name 2 sc_Reader_open_axes.nd)) (fun _ _ _ _ _ => (ts_one (t_cmp (oc_nin rfl (hu65 hr)) (v_tup (a_cons (v_var 1) (a_cons (v_var 2) a_nil))) (v_fld rfl (clsAll T) 6 (v_var 0)) rfl))) (fun _ _ _ _ _ => (v_var 2)))))
theorem sc_Reader_loose : FnScope ["self", "joint"] ["self"] (defScope s_Reader_loose) := ⟨rfl, rfl, rfl, by decide +kernel, rfl, by decide +kernel, by decide +kernel⟩
theorem F_Reader_loose (T : TT K mg) : FunD K "loose" "Reader.loose" (defArgs s_Reader_loose) (defBody s_Reader_loose) (defScope s_Reader_loose) (d_Reader_loose.dvs K) [] (He.fAd K at_Reader_loose) (fdOf K at_Reader_loose) := T.c.fd 28 (d := d_Reader_loose) rfl
theorem kp_Reader_loose (T : TT K mg) : PySem.W.keepIn K (.ref (He.fAd K at_Reader_loose)) = true := (F_Reader_loose T).kp
theorem b_Reader_loose (T : TT K mg) : Binds K (fdOf K at_Reader_loose) ["self"] [] := FunD.bindsN (F_Reader_loose T) fun _ _ _ _ _ _ us hl => match us, hl with | [_], _ => rfl
theorem ok_Reader_loose (T : TT K mg) : FnOk P w K mg base (L2.CX P w) 2 (He.fAd K at_Reader_loose) (fdOf K at_Reader_loose) ["self"] (spM (tx K) 1 m_Reader_loose) :=
  fn_okM (Df.of (st := s_Reader_loose) (F_Reader_loose T)) sc_Reader_loose fun cdv A outer s H E hr => by
    have tk : Takes (cxOf (L2.CX P w) P w K mg base ["self", "joint"] "Reader.loose" (defScope s_Reader_loose) (He.fAd K at_Reader_loose) cdv A outer s H E) (WB E) := takes_of rfl rfl rfl rfl
    have hp : PassesOwn (model P w) (cxOf (L2.CX P w) P w K mg base ["self", "joint"] "Reader.loose" (defScope s_Reader_loose) (He.fAd K at_Reader_loose) cdv A outer s H E).A (cxOf (L2.CX P w) P w K mg base ["self", "joint"] "Reader.loose" (defScope s_Reader_loose) (He.fAd K at_Reader_loose) cdv A outer s H E).env (cxOf (L2.CX P w) P w K mg base ["self", "joint"] "Reader.loose" (defScope s_Reader_loose) (He.fAd K at_Reader_loose) cdv A outer s H E).xe := passes_of rfl
    exact (s_one (s_ret (v_lc true [("joint", 1)] rfl sc_Reader_loose.nd (i_range (T.free 5) (v_callB (ok_len rfl) rfl (T.free 2) (a_cons (v_fld rfl (clsAll T) 4 (v_var 0)) a_nil))) (blkOk_by (by kernel_rfl)) (fun _ _ _ _ _ => (g_name 1 sc_Reader_loose.nd)) (fun _ _ _ _ _ => (ts_one (t_tru rfl (v_meth rfl (clsAll T) takes0 (one_all (P := fun c m => MetOk _ _ _ _ c m) ⟨⟨_, _, _, _, ⟨(T.met 51).1, (T.met 51).2, (kp_Reader_open_axes T)⟩, (ok_Reader_open_axes T), (hr.mono (by decide)), (b_Reader_open_axes T)⟩, by decide +kernel⟩) (v_var 0) (a_cons (v_var 1) a_nil))))) (fun _ _ _ _ _ => (v_var 1)))))
theorem sc_Reader_hold : FnScope ["self", "joint", "axis"] ["self"] (defScope s_Reader_hold) := ⟨rfl, rfl, rfl, by decide +kernel, rfl, by decide +kernel, by decide +kernel⟩
theorem F_Reader_hold (T : TT K mg) : FunD K "hold" "Reader.hold" (defArgs s_Reader_hold) (defBody s_Reader_hold) (defScope s_Reader_hold) (d_Reader_hold.dvs K) [] (He.fAd K at_Reader_hold) (fdOf K at_Reader_hold) := T.c.fd 29 (d := d_Reader_hold) rfl
theorem kp_Reader_hold (T : TT K mg) : PySem.W.keepIn K (.ref (He.fAd K at_Reader_hold)) = true := (F_Reader_hold T).kp
theorem b_Reader_hold (T : TT K mg) : Binds K (fdOf K at_Reader_hold) ["self"] [] := FunD.bindsN (F_Reader_hold T) fun _ _ _ _ _ _ us hl => match us, hl with | [_], _ => rfl
theorem ok_Reader_hold (T : TT K mg) : FnOk P w K mg base (L2.CX P w) 4 (He.fAd K at_Reader_hold) (fdOf K at_Reader_hold) ["self"] (spM (tx K) 1 m_Reader_hold) :=
  fn_okM (Df.of (st := s_Reader_hold) (F_Reader_hold T)) sc_Reader_hold fun cdv A outer s H E hr => by
    have tk : Takes (cxOf (L2.CX P w) P w K mg base ["self", "joint", "axis"] "Reader.hold" (defScope s_Reader_hold) (He.fAd K at_Reader_hold) cdv A outer s H E) (WB E) := takes_of rfl rfl rfl rfl
    have hp : PassesOwn (model P w) (cxOf (L2.CX P w) P w K mg base ["self", "joint", "axis"] "Reader.hold" (defScope s_Reader_hold) (He.fAd K at_Reader_hold) cdv A outer s H E).A (cxOf (L2.CX P w) P w K mg base ["self", "joint", "axis"] "Reader.hold" (defScope s_Reader_hold) (He.fAd K at_Reader_hold) cdv A outer s H E).env (cxOf (L2.CX P w) P w K mg base ["self", "joint", "axis"] "Reader.hold" (defScope s_Reader_hold) (He.fAd K at_Reader_hold) cdv A outer s H E).xe := passes_of rfl
    exact (s_cons (s_expr (v_meth rfl (clsAll T) tk (one_all (P := fun c m => MetOk _ _ _ _ c m) ⟨⟨_, _, _, _, ⟨(T.met 30).1, (T.met 30).2, (kp_Cursor_take T)⟩, (ok_Cursor_take T), (hr.mono (by decide)), (b_Cursor_take T)⟩, by decide +kernel⟩) (v_fld rfl (clsAll T) 8 (v_var 0)) (a_cons (v_lst true (a_cons v_str a_nil)) a_nil)))
      (s_cons (s_set 1 sc_Reader_hold.nd (v_meth rfl (clsAll T) tk (one_all (P := fun c m => MetOk _ _ _ _ c m) ⟨⟨_, _, _, _, ⟨(T.met 48).1, (T.met 48).2, (kp_Reader_one_of T)⟩, (ok_Reader_one_of T), (hr.mono (by decide)), (b_Reader_one_of T)⟩, by decide +kernel⟩) (v_var 0) (a_cons (v_meth0 rfl (clsAll T) tk (one_all (P := fun c m => MetOk _ _ _ _ c m) ⟨⟨_, _, _, _, ⟨(T.met 52).1, (T.met 52).2, (kp_Reader_loose T)⟩, (ok_Reader_loose T), (hr.mono (by decide)), (b_Reader_loose T)⟩, by decide +kernel⟩) (v_var 0)) a_nil)))
      (s_cons (s_set 2 sc_Reader_hold.nd (v_meth rfl (clsAll T) tk (one_all (P := fun c m => MetOk _ _ _ _ c m) ⟨⟨_, _, _, _, ⟨(T.met 30).1, (T.met 30).2, (kp_Cursor_take T)⟩, (ok_Cursor_take T), (hr.mono (by decide)), (b_Cursor_take T)⟩, by decide +kernel⟩) (v_fld rfl (clsAll T) 8 (v_var 0)) (a_cons (v_lc true [("axis", 2)] rfl sc_Reader_hold.nd (i_seq rfl (v_meth rfl (clsAll T) tk (one_all (P := fun c m => MetOk _ _ _ _ c m) ⟨⟨_, _, _, _, ⟨(T.met 51).1, (T.met 51).2, (kp_Reader_open_axes T)⟩, (ok_Reader_open_axes T), (hr.mono (by decide)), (b_Reader_open_axes T)⟩, by decide +kernel⟩) (v_var 0) (a_cons (v_var 1) a_nil))) (blkOk_by (by kernel_rfl)) (fun _ _ _ _ _ => (g_name 2 sc_Reader_hold.nd)) (fun _ _ _ _ _ => ts_nil) (fun _ _ _ _ _ => (v_ix rfl (v_gtup (T.gtup 15) rfl) (v_var 2)))) a_nil)))
      (s_one (s_expr (v_mb PySem.F.plainAttrs_list PySem.F.slot_list_append PySem.F.type_list_append ok_append ls_ty (v_fld rfl (clsAll T) 6 (v_var 0)) (a_cons (v_tup (a_cons (v_var 1) (a_cons (v_gidx (T.gidx 53 rfl _ rfl rfl) (a_cons (v_var 2) a_nil)) a_nil))) a_nil)))))))
theorem sc_Cursor_ended : FnScope ["self"] ["self"] (defScope s_Cursor_ended) := ⟨rfl, rfl, rfl, by decide +kernel, rfl, by decide +kernel, by decide +kernel⟩
theorem F_Cursor_ended (T : TT K mg) : FunD K "ended" "Cursor.ended" (defArgs s_Cursor_ended) (defBody s_Cursor_ended) (defScope s_Cursor_ended) (d_Cursor_ended.dvs K) [] (He.fAd K at_Cursor_ended) (fdOf K at_Cursor_ended) := T.c.fd 30 (d := d_Cursor_ended) rfl
theorem kp_Cursor_ended (T : TT K mg) : PySem.W.keepIn K (.ref (He.fAd K at_Cursor_ended)) = true := (F_Cursor_ended T).kp
theorem b_Cursor_ended (T : TT K mg) : Binds K (fdOf K at_Cursor_ended) ["self"] [] := FunD.bindsN (F_Cursor_ended T) fun _ _ _ _ _ _ us hl => match us, hl with | [_], _ => rfl
theorem ok_Cursor_ended (T : TT K mg) : FnOk P w K mg base (L2.CX P w) 1 (He.fAd K at_Cursor_ended) (fdOf K at_Cursor_ended) ["self"] (spM (tx K) 1 m_Cursor_ended) :=
  fn_okM (Df.of (st := s_Cursor_ended) (F_Cursor_ended T)) sc_Cursor_ended fun cdv A outer s H E hr => by
    have tk : Takes (cxOf (L2.CX P w) P w K mg base ["self"] "Cursor.ended" (defScope s_Cursor_ended) (He.fAd K at_Cursor_ended) cdv A outer s H E) (WB E) := takes_of rfl rfl rfl rfl
    have hp : PassesOwn (model P w) (cxOf (L2.CX P w) P w K mg base ["self"] "Cursor.ended" (defScope s_Cursor_ended) (He.fAd K at_Cursor_ended) cdv A outer s H E).A (cxOf (L2.CX P w) P w K mg base ["self"] "Cursor.ended" (defScope s_Cursor_ended) (He.fAd K at_Cursor_ended) cdv A outer s H E).env (cxOf (L2.CX P w) P w K mg base ["self"] "Cursor.ended" (defScope s_Cursor_ended) (He.fAd K at_Cursor_ended) cdv A outer s H E).xe := passes_of rfl
    exact (s_one (s_ret (v_cmp oc_ge (v_fld rfl (clsAll T) 0 (v_var 0)) (v_callB (ok_len rfl) rfl (T.free 2) (a_cons (v_fld rfl (clsAll T) 7 (v_var 0)) a_nil)) (nomark _))))
theorem sc_uchecked_joints : FnScope ["joints", "names", "at", "name", "places", "place", "joint"] ["joints"] (defScope s_uchecked_joints) := ⟨rfl, rfl, rfl, by decide +kernel, rfl, by decide +kernel, by decide +kernel⟩
theorem F_uchecked_joints (T : TT K mg) : FunD K "_checked_joints" "_checked_joints" (defArgs s_uchecked_joints) (defBody s_uchecked_joints) (defScope s_uchecked_joints) (d_uchecked_joints.dvs K) [] (He.fAd K at_uchecked_joints) (fdOf K at_uchecked_joints) := T.c.fd 31 (d := d_uchecked_joints) rfl
theorem kp_uchecked_joints (T : TT K mg) : PySem.W.keepIn K (.ref (He.fAd K at_uchecked_joints)) = true := (F_uchecked_joints T).kp
theorem b_uchecked_joints (T : TT K mg) : Binds K (fdOf K at_uchecked_joints) ["joints"] [] := FunD.bindsN (F_uchecked_joints T) fun _ _ _ _ _ _ us hl => match us, hl with | [_], _ => rfl
theorem ok_uchecked_joints (T : TT K mg) : FnOk P w K mg base (L2.CX P w) 2 (He.fAd K at_uchecked_joints) (fdOf K at_uchecked_joints) ["joints"] (spM (tx K) 1 m_uchecked_joints) :=
  fn_okM (Df.of (st := s_uchecked_joints) (F_uchecked_joints T)) sc_uchecked_joints fun cdv A outer s H E hr => by
    have tk : Takes (cxOf (L2.CX P w) P w K mg base ["joints", "names", "at", "name", "places", "place", "joint"] "_checked_joints" (defScope s_uchecked_joints) (He.fAd K at_uchecked_joints) cdv A outer s H E) (WB E) := takes_of rfl rfl rfl rfl
    have hp : PassesOwn (model P w) (cxOf (L2.CX P w) P w K mg base ["joints", "names", "at", "name", "places", "place", "joint"] "_checked_joints" (defScope s_uchecked_joints) (He.fAd K at_uchecked_joints) cdv A outer s H E).A (cxOf (L2.CX P w) P w K mg base ["joints", "names", "at", "name", "places", "place", "joint"] "_checked_joints" (defScope s_uchecked_joints) (He.fAd K at_uchecked_joints) cdv A outer s H E).env (cxOf (L2.CX P w) P w K mg base ["joints", "names", "at", "name", "places", "place", "joint"] "_checked_joints" (defScope s_uchecked_joints) (He.fAd K at_uchecked_joints) cdv A outer s H E).xe := passes_of rfl
    exact (s_cons (s_if (t_not (t_chain oc_le oc_le v_int (v_callB (ok_len rfl) rfl (T.free 2) (a_cons (v_var 0) a_nil)) (v_gint (T.gint 56)))) (s_one (s_raiseB rfl tk (ia_BadFrame T) hr (T.free 27) (T.glo 57) (T.rai 58) rfl (by decide) v_str)) s_nil)
      (s_cons (s_setLc 1 true [("joint", 6)] rfl sc_uchecked_joints.nd (i_seq rfl (v_var 0)) (blkOk_by (by kernel_rfl)) (fun _ _ _ _ _ => (g_name 6 sc_uchecked_joints.nd)) (fun _ _ _ _ _ => ts_nil) (fun _ _ _ _ _ => (v_ix rfl (v_var 6) v_int)))
      (s_cons (s_for (vs := [2, 3]) hp rfl (i_enum rfl (T.free 59) (v_var 1)) (g_tup rfl rfl (gs_cons (g_name 2 sc_uchecked_joints.nd) (gs_cons (g_name 3 sc_uchecked_joints.nd) gs_nil))) (s_one (s_if (PW.pt (w_or (t_not (t_tru rfl (v_call tk (ok_is_name T) (hr.mono (by decide)) (T.glo 34) (kp_is_name T) (b_is_name T) (a_cons (v_var 3) a_nil)))) (pw_or1 (t_cmp (oc_in rfl (hu65 hr)) (v_var 3) (v_sl true rfl (v_var 1) o_none (o_some (v_var 2))) rfl)))) (s_one (s_raiseB rfl tk (ia_BadFrame T) hr (T.free 27) (T.glo 57) (T.rai 58) rfl (by decide) v_str)) s_nil)))
      (s_cons (s_setLc 4 true [("joint", 6)] rfl sc_uchecked_joints.nd (i_seq rfl (v_var 0)) (blkOk_by (by kernel_rfl)) (fun _ _ _ _ _ => (g_name 6 sc_uchecked_joints.nd)) (fun _ _ _ _ _ => ts_nil) (fun _ _ _ _ _ => (v_sl true rfl (v_var 6) (o_some v_int) o_none)))
      (s_one (s_for (vs := [2, 5]) hp rfl (i_enum rfl (T.free 59) (v_var 4)) (g_tup rfl rfl (gs_cons (g_name 2 sc_uchecked_joints.nd) (gs_cons (g_name 5 sc_uchecked_joints.nd) gs_nil))) (s_one (s_if (t_cmp (oc_in rfl (hu65 hr)) (v_var 5) (v_sl true rfl (v_var 4) o_none (o_some (v_var 2))) rfl) (s_one (s_raiseB rfl tk (ia_BadFrame T) hr (T.free 27) (T.glo 57) (T.rai 58) rfl (by decide) v_str)) s_nil))))))))
theorem sc_uweak : FnScope ["strength"] ["strength"] (defScope s_uweak) := ⟨rfl, rfl, rfl, by decide +kernel, rfl, by decide +kernel, by decide +kernel⟩
theorem F_uweak (T : TT K mg) : FunD K "_weak" "_weak" (defArgs s_uweak) (defBody s_uweak) (defScope s_uweak) (d_uweak.dvs K) [] (He.fAd K at_uweak) (fdOf K at_uweak) := T.c.fd 32 (d := d_uweak) rfl
theorem kp_uweak (T : TT K mg) : PySem.W.keepIn K (.ref (He.fAd K at_uweak)) = true := (F_uweak T).kp
theorem b_uweak (T : TT K mg) : Binds K (fdOf K at_uweak) ["strength"] [] := FunD.bindsN (F_uweak T) fun _ _ _ _ _ _ us hl => match us, hl with | [_], _ => rfl
theorem ok_uweak (T : TT K mg) : FnOk P w K mg base (L2.CX P w) 1 (He.fAd K at_uweak) (fdOf K at_uweak) ["strength"] (spM (tx K) 1 m_uweak) :=
  fn_okM (Df.of (st := s_uweak) (F_uweak T)) sc_uweak fun cdv A outer s H E hr => by
    have tk : Takes (cxOf (L2.CX P w) P w K mg base ["strength"] "_weak" (defScope s_uweak) (He.fAd K at_uweak) cdv A outer s H E) (WB E) := takes_of rfl rfl rfl rfl
    have hp : PassesOwn (model P w) (cxOf (L2.CX P w) P w K mg base ["strength"] "_weak" (defScope s_uweak) (He.fAd K at_uweak) cdv A outer s H E).A (cxOf (L2.CX P w) P w K mg base ["strength"] "_weak" (defScope s_uweak) (He.fAd K at_uweak) cdv A outer s H E).env (cxOf (L2.CX P w) P w K mg base ["strength"] "_weak" (defScope s_uweak) (He.fAd K at_uweak) cdv A outer s H E).xe := passes_of rfl
    exact (s_one (s_ret (v_and (v_cmp oc_not (v_var 0) v_non (nomark _)) (v_one (v_cmp oc_lt (v_var 0) v_int (nomark _))))))
theorem sc_uchecked_rods : FnScope ["rods", "count", "ends", "at", "rod"] ["rods", "count"] (defScope s_uchecked_rods) := ⟨rfl, rfl, rfl, by decide +kernel, rfl, by decide +kernel, by decide +kernel⟩
theorem F_uchecked_rods (T : TT K mg) : FunD K "_checked_rods" "_checked_rods" (defArgs s_uchecked_rods) (defBody s_uchecked_rods) (defScope s_uchecked_rods) (d_uchecked_rods.dvs K) [] (He.fAd K at_uchecked_rods) (fdOf K at_uchecked_rods) := T.c.fd 33 (d := d_uchecked_rods) rfl
theorem kp_uchecked_rods (T : TT K mg) : PySem.W.keepIn K (.ref (He.fAd K at_uchecked_rods)) = true := (F_uchecked_rods T).kp
theorem b_uchecked_rods (T : TT K mg) : Binds K (fdOf K at_uchecked_rods) ["rods", "count"] [] := FunD.bindsN (F_uchecked_rods T) fun _ _ _ _ _ _ us hl => match us, hl with | [_, _], _ => rfl
theorem ok_uchecked_rods (T : TT K mg) : FnOk P w K mg base (L2.CX P w) 2 (He.fAd K at_uchecked_rods) (fdOf K at_uchecked_rods) ["rods", "count"] (spM (tx K) 2 m_uchecked_rods) :=
  fn_okM (Df.of (st := s_uchecked_rods) (F_uchecked_rods T)) sc_uchecked_rods fun cdv A outer s H E hr => by
    have tk : Takes (cxOf (L2.CX P w) P w K mg base ["rods", "count", "ends", "at", "rod"] "_checked_rods" (defScope s_uchecked_rods) (He.fAd K at_uchecked_rods) cdv A outer s H E) (WB E) := takes_of rfl rfl rfl rfl
    have hp : PassesOwn (model P w) (cxOf (L2.CX P w) P w K mg base ["rods", "count", "ends", "at", "rod"] "_checked_rods" (defScope s_uchecked_rods) (He.fAd K at_uchecked_rods) cdv A outer s H E).A (cxOf (L2.CX P w) P w K mg base ["rods", "count", "ends", "at", "rod"] "_checked_rods" (defScope s_uchecked_rods) (He.fAd K at_uchecked_rods) cdv A outer s H E).env (cxOf (L2.CX P w) P w K mg base ["rods", "count", "ends", "at", "rod"] "_checked_rods" (defScope s_uchecked_rods) (He.fAd K at_uchecked_rods) cdv A outer s H E).xe := passes_of rfl
    exact (s_cons (s_if (t_cmp oc_gt (v_callB (ok_len rfl) rfl (T.free 2) (a_cons (v_var 0) a_nil)) (v_gint (T.gint 61)) (nomark _)) (s_one (s_raiseB rfl tk (ia_BadFrame T) hr (T.free 27) (T.glo 57) (T.rai 58) rfl (by decide) v_str)) s_nil)
      (s_cons (s_setLc 2 true [("rod", 4)] rfl sc_uchecked_rods.nd (i_seq rfl (v_var 0)) (blkOk_by (by kernel_rfl)) (fun _ _ _ _ _ => (g_name 4 sc_uchecked_rods.nd)) (fun _ _ _ _ _ => ts_nil) (fun _ _ _ _ _ => (v_sl true rfl (v_var 4) o_none (o_some v_int))))
      (s_one (s_for (vs := [3, 4]) hp rfl (i_enum rfl (T.free 59) (v_var 0)) (g_tup rfl rfl (gs_cons (g_name 3 sc_uchecked_rods.nd) (gs_cons (g_name 4 sc_uchecked_rods.nd) gs_nil))) (s_cons (s_if (PW.pt (w_or (t_not (t_chain3 oc_le oc_lt oc_lt v_int (v_ix rfl (v_var 4) v_int) (v_ix rfl (v_var 4) v_int) (v_var 1))) (pw_or1 (t_cmp (oc_in rfl (hu65 hr)) (v_sl true rfl (v_var 4) o_none (o_some v_int)) (v_sl true rfl (v_var 2) o_none (o_some (v_var 3))) rfl)))) (s_one (s_raiseB rfl tk (ia_BadFrame T) hr (T.free 27) (T.glo 57) (T.rai 58) rfl (by decide) v_str)) s_nil)
      (s_one (s_if (PW.pt (w_or (t_tru rfl (v_call tk (ok_uweak T) (hr.mono (by decide)) (T.glo 62) (kp_uweak T) (b_uweak T) (a_cons (v_ix rfl (v_var 4) v_int) a_nil))) (pw_or1 (t_tru rfl (v_call tk (ok_uweak T) (hr.mono (by decide)) (T.glo 62) (kp_uweak T) (b_uweak T) (a_cons (v_ix rfl (v_var 4) v_int) a_nil)))))) (s_one (s_raiseB rfl tk (ia_BadFrame T) hr (T.free 27) (T.glo 57) (T.rai 58) rfl (by decide) v_str)) s_nil)))))))
theorem sc_uchecked_holds : FnScope ["holds", "count", "at", "hold"] ["holds", "count"] (defScope s_uchecked_holds) := ⟨rfl, rfl, rfl, by decide +kernel, rfl, by decide +kernel, by decide +kernel⟩
theorem F_uchecked_holds (T : TT K mg) : FunD K "_checked_holds" "_checked_holds" (defArgs s_uchecked_holds) (defBody s_uchecked_holds) (defScope s_uchecked_holds) (d_uchecked_holds.dvs K) [] (He.fAd K at_uchecked_holds) (fdOf K at_uchecked_holds) := T.c.fd 34 (d := d_uchecked_holds) rfl
theorem kp_uchecked_holds (T : TT K mg) : PySem.W.keepIn K (.ref (He.fAd K at_uchecked_holds)) = true := (F_uchecked_holds T).kp
theorem b_uchecked_holds (T : TT K mg) : Binds K (fdOf K at_uchecked_holds) ["holds", "count"] [] := FunD.bindsN (F_uchecked_holds T) fun _ _ _ _ _ _ us hl => match us, hl with | [_, _], _ => rfl
theorem ok_uchecked_holds (T : TT K mg) : FnOk P w K mg base (L2.CX P w) 1 (He.fAd K at_uchecked_holds) (fdOf K at_uchecked_holds) ["holds", "count"] (spM (tx K) 2 m_uchecked_holds) :=
  fn_okM (Df.of (st := s_uchecked_holds) (F_uchecked_holds T)) sc_uchecked_holds fun cdv A outer s H E hr => by
    have tk : Takes (cxOf (L2.CX P w) P w K mg base ["holds", "count", "at", "hold"] "_checked_holds" (defScope s_uchecked_holds) (He.fAd K at_uchecked_holds) cdv A outer s H E) (WB E) := takes_of rfl rfl rfl rfl
    have hp : PassesOwn (model P w) (cxOf (L2.CX P w) P w K mg base ["holds", "count", "at", "hold"] "_checked_holds" (defScope s_uchecked_holds) (He.fAd K at_uchecked_holds) cdv A outer s H E).A (cxOf (L2.CX P w) P w K mg base ["holds", "count", "at", "hold"] "_checked_holds" (defScope s_uchecked_holds) (He.fAd K at_uchecked_holds) cdv A outer s H E).env (cxOf (L2.CX P w) P w K mg base ["holds", "count", "at", "hold"] "_checked_holds" (defScope s_uchecked_holds) (He.fAd K at_uchecked_holds) cdv A outer s H E).xe := passes_of rfl
    exact (s_one (s_for (vs := [2, 3]) hp rfl (i_enum rfl (T.free 59) (v_var 0)) (g_tup rfl rfl (gs_cons (g_name 2 sc_uchecked_holds.nd) (gs_cons (g_name 3 sc_uchecked_holds.nd) gs_nil))) (s_one (s_if (PW.pt (w_or (t_not (t_chain oc_le oc_lt v_int (v_ix rfl (v_var 3) v_int) (v_var 1))) (w_or (t_cmp (oc_nin rfl (hu65 hr)) (v_ix rfl (v_var 3) v_int) (v_tup (a_cons v_int (a_cons v_int a_nil))) rfl) (pw_or1 (t_cmp (oc_in rfl (hu65 hr)) (v_var 3) (v_sl true rfl (v_var 0) o_none (o_some (v_var 2))) rfl))))) (s_one (s_raiseB rfl tk (ia_BadFrame T) hr (T.free 27) (T.glo 57) (T.rai 58) rfl (by decide) v_str)) s_nil))))
theorem sc_Frame___init__ : FnScope ["self", "joints", "rods", "holds", "joint", "rod", "hold"] ["self", "joints", "rods", "holds"] (defScope s_Frame___init__) := ⟨rfl, rfl, rfl, by decide +kernel, rfl, by decide +kernel, by decide +kernel⟩
theorem F_Frame___init__ (T : TT K mg) : FunD K "__init__" "Frame.__init__" (defArgs s_Frame___init__) (defBody s_Frame___init__) (defScope s_Frame___init__) (d_Frame___init__.dvs K) [] (He.fAd K at_Frame___init__) (fdOf K at_Frame___init__) := T.c.fd 35 (d := d_Frame___init__) rfl
theorem kp_Frame___init__ (T : TT K mg) : PySem.W.keepIn K (.ref (He.fAd K at_Frame___init__)) = true := (F_Frame___init__ T).kp
theorem b_Frame___init__ (T : TT K mg) : Binds K (fdOf K at_Frame___init__) ["self", "joints", "rods", "holds"] [] := FunD.bindsN (F_Frame___init__ T) fun _ _ _ _ _ _ us hl => match us, hl with | [_, _, _, _], _ => rfl
theorem ok_Frame___init__ (T : TT K mg) : FnOk P w K mg base (L2.CX P w) 3 (He.fAd K at_Frame___init__) (fdOf K at_Frame___init__) ["self", "joints", "rods", "holds"] (spM (tx K) 4 m_Frame___init__) :=
  fn_okM (Df.of (st := s_Frame___init__) (F_Frame___init__ T)) sc_Frame___init__ fun cdv A outer s H E hr => by
    have tk : Takes (cxOf (L2.CX P w) P w K mg base ["self", "joints", "rods", "holds", "joint", "rod", "hold"] "Frame.__init__" (defScope s_Frame___init__) (He.fAd K at_Frame___init__) cdv A outer s H E) (WB E) := takes_of rfl rfl rfl rfl
    have hp : PassesOwn (model P w) (cxOf (L2.CX P w) P w K mg base ["self", "joints", "rods", "holds", "joint", "rod", "hold"] "Frame.__init__" (defScope s_Frame___init__) (He.fAd K at_Frame___init__) cdv A outer s H E).A (cxOf (L2.CX P w) P w K mg base ["self", "joints", "rods", "holds", "joint", "rod", "hold"] "Frame.__init__" (defScope s_Frame___init__) (He.fAd K at_Frame___init__) cdv A outer s H E).env (cxOf (L2.CX P w) P w K mg base ["self", "joints", "rods", "holds", "joint", "rod", "hold"] "Frame.__init__" (defScope s_Frame___init__) (He.fAd K at_Frame___init__) cdv A outer s H E).xe := passes_of rfl
    exact (s_cons (s_fld rfl (clsAll T) 4 (v_var 0) (v_callT (ok_tuple rfl) rfl (T.free 10) (a_cons (v_lc true [("joint", 4)] rfl sc_Frame___init__.nd (i_seq rfl (v_var 1)) (blkOk_by (by kernel_rfl)) (fun _ _ _ _ _ => (g_name 4 sc_Frame___init__.nd)) (fun _ _ _ _ _ => ts_nil) (fun _ _ _ _ _ => (v_callT (ok_tuple rfl) rfl (T.free 10) (a_cons (v_var 4) a_nil)))) a_nil)))
      (s_cons (s_fld rfl (clsAll T) 5 (v_var 0) (v_callT (ok_tuple rfl) rfl (T.free 10) (a_cons (v_lc true [("rod", 5)] rfl sc_Frame___init__.nd (i_seq rfl (v_var 2)) (blkOk_by (by kernel_rfl)) (fun _ _ _ _ _ => (g_name 5 sc_Frame___init__.nd)) (fun _ _ _ _ _ => ts_nil) (fun _ _ _ _ _ => (v_callT (ok_tuple rfl) rfl (T.free 10) (a_cons (v_var 5) a_nil)))) a_nil)))
      (s_cons (s_fld rfl (clsAll T) 6 (v_var 0) (v_callT (ok_tuple rfl) rfl (T.free 10) (a_cons (v_lc true [("hold", 6)] rfl sc_Frame___init__.nd (i_seq rfl (v_var 3)) (blkOk_by (by kernel_rfl)) (fun _ _ _ _ _ => (g_name 6 sc_Frame___init__.nd)) (fun _ _ _ _ _ => ts_nil) (fun _ _ _ _ _ => (v_callT (ok_tuple rfl) rfl (T.free 10) (a_cons (v_var 6) a_nil)))) a_nil)))
      (s_cons (s_expr (v_call tk (ok_uchecked_joints T) (hr.mono (by decide)) (T.glo 60) (kp_uchecked_joints T) (b_uchecked_joints T) (a_cons (v_fld rfl (clsAll T) 4 (v_var 0)) a_nil)))
      (s_cons (s_expr (v_call tk (ok_uchecked_rods T) (hr.mono (by decide)) (T.glo 63) (kp_uchecked_rods T) (b_uchecked_rods T) (a_cons (v_fld rfl (clsAll T) 5 (v_var 0)) (a_cons (v_callB (ok_len rfl) rfl (T.free 2) (a_cons (v_fld rfl (clsAll T) 4 (v_var 0)) a_nil)) a_nil))))
      (s_one (s_expr (v_call tk (ok_uchecked_holds T) (hr.mono (by decide)) (T.glo 64) (kp_uchecked_holds T) (b_uchecked_holds T) (a_cons (v_fld rfl (clsAll T) 6 (v_var 0)) (a_cons (v_callB (ok_len rfl) rfl (T.free 2) (a_cons (v_fld rfl (clsAll T) 4 (v_var 0)) a_nil)) a_nil))))))))))
theorem sc_read_frame : FnScope ["text", "reader"] ["text"] (defScope s_read_frame) := ⟨rfl, rfl, rfl, by decide +kernel, rfl, by decide +kernel, by decide +kernel⟩
theorem F_read_frame (T : TT K mg) : FunD K "read_frame" "read_frame" (defArgs s_read_frame) (defBody s_read_frame) (defScope s_read_frame) (d_read_frame.dvs K) [] (He.fAd K at_read_frame) (fdOf K at_read_frame) := T.c.fd 36 (d := d_read_frame) rfl
theorem kp_read_frame (T : TT K mg) : PySem.W.keepIn K (.ref (He.fAd K at_read_frame)) = true := (F_read_frame T).kp
theorem b_read_frame (T : TT K mg) : Binds K (fdOf K at_read_frame) ["text"] [] := FunD.bindsN (F_read_frame T) fun _ _ _ _ _ _ us hl => match us, hl with | [_], _ => rfl
theorem ok_read_frame (T : TT K mg) : FnOk P w K mg base (L2.CX P w) 6 (He.fAd K at_read_frame) (fdOf K at_read_frame) ["text"] (spM (tx K) 1 m_read_frame) :=
  fn_okM (Df.of (st := s_read_frame) (F_read_frame T)) sc_read_frame fun cdv A outer s H E hr => by
    have tk : Takes (cxOf (L2.CX P w) P w K mg base ["text", "reader"] "read_frame" (defScope s_read_frame) (He.fAd K at_read_frame) cdv A outer s H E) (WB E) := takes_of rfl rfl rfl rfl
    have hp : PassesOwn (model P w) (cxOf (L2.CX P w) P w K mg base ["text", "reader"] "read_frame" (defScope s_read_frame) (He.fAd K at_read_frame) cdv A outer s H E).A (cxOf (L2.CX P w) P w K mg base ["text", "reader"] "read_frame" (defScope s_read_frame) (He.fAd K at_read_frame) cdv A outer s H E).env (cxOf (L2.CX P w) P w K mg base ["text", "reader"] "read_frame" (defScope s_read_frame) (He.fAd K at_read_frame) cdv A outer s H E).xe := passes_of rfl
    exact (s_cons (s_set 1 sc_read_frame.nd (v_cal (cal_make tk rfl (T.make 22 23 24) (ok_Reader___init__ T) (hr.mono (by decide)) (b_Reader___init__ T)) (T.glo 25) (T.keep 24) (a_cons (v_var 0) a_nil)))
      (s_cons (s_expr (v_meth0 rfl (clsAll T) tk (one_all (P := fun c m => MetOk _ _ _ _ c m) ⟨⟨_, _, _, _, ⟨(T.met 43).1, (T.met 43).2, (kp_Reader_joint T)⟩, (ok_Reader_joint T), (hr.mono (by decide)), (b_Reader_joint T)⟩, by decide +kernel⟩) (v_var 1)))
      (s_cons (s_while hp (PW.pt (w_and (t_cmp (oc_eq rfl (hu64 hr)) (v_meth0 rfl (clsAll T) tk (one_all (P := fun c m => MetOk _ _ _ _ c m) ⟨⟨_, _, _, _, ⟨(T.met 26).1, (T.met 26).2, (kp_Cursor_next_word T)⟩, (ok_Cursor_next_word T), (hr.mono (by decide)), (b_Cursor_next_word T)⟩, by decide +kernel⟩) (v_fld rfl (clsAll T) 8 (v_var 1))) v_str (nomark _)) (pw_and1 (t_cmp oc_lt (v_callB (ok_len rfl) rfl (T.free 2) (a_cons (v_fld rfl (clsAll T) 4 (v_var 1)) a_nil)) (v_gint (T.gint 44)) (nomark _))))) (s_one (s_expr (v_meth0 rfl (clsAll T) tk (one_all (P := fun c m => MetOk _ _ _ _ c m) ⟨⟨_, _, _, _, ⟨(T.met 43).1, (T.met 43).2, (kp_Reader_joint T)⟩, (ok_Reader_joint T), (hr.mono (by decide)), (b_Reader_joint T)⟩, by decide +kernel⟩) (v_var 1)))))
      (s_cons (s_while hp (PW.pt (w_and (t_cmp (oc_eq rfl (hu64 hr)) (v_meth0 rfl (clsAll T) tk (one_all (P := fun c m => MetOk _ _ _ _ c m) ⟨⟨_, _, _, _, ⟨(T.met 26).1, (T.met 26).2, (kp_Cursor_next_word T)⟩, (ok_Cursor_next_word T), (hr.mono (by decide)), (b_Cursor_next_word T)⟩, by decide +kernel⟩) (v_fld rfl (clsAll T) 8 (v_var 1))) v_str (nomark _)) (pw_and1 (t_tru rfl (v_meth0 rfl (clsAll T) tk (one_all (P := fun c m => MetOk _ _ _ _ c m) ⟨⟨_, _, _, _, ⟨(T.met 47).1, (T.met 47).2, (kp_Reader_starts T)⟩, (ok_Reader_starts T), (hr.mono (by decide)), (b_Reader_starts T)⟩, by decide +kernel⟩) (v_var 1)))))) (s_one (s_expr (v_meth0 rfl (clsAll T) tk (one_all (P := fun c m => MetOk _ _ _ _ c m) ⟨⟨_, _, _, _, ⟨(T.met 50).1, (T.met 50).2, (kp_Reader_rod T)⟩, (ok_Reader_rod T), (hr.mono (by decide)), (b_Reader_rod T)⟩, by decide +kernel⟩) (v_var 1)))))
      (s_cons (s_while hp (PW.pt (w_and (t_cmp (oc_eq rfl (hu64 hr)) (v_meth0 rfl (clsAll T) tk (one_all (P := fun c m => MetOk _ _ _ _ c m) ⟨⟨_, _, _, _, ⟨(T.met 26).1, (T.met 26).2, (kp_Cursor_next_word T)⟩, (ok_Cursor_next_word T), (hr.mono (by decide)), (b_Cursor_next_word T)⟩, by decide +kernel⟩) (v_fld rfl (clsAll T) 8 (v_var 1))) v_str (nomark _)) (pw_and1 (t_tru rfl (v_meth0 rfl (clsAll T) tk (one_all (P := fun c m => MetOk _ _ _ _ c m) ⟨⟨_, _, _, _, ⟨(T.met 52).1, (T.met 52).2, (kp_Reader_loose T)⟩, (ok_Reader_loose T), (hr.mono (by decide)), (b_Reader_loose T)⟩, by decide +kernel⟩) (v_var 1)))))) (s_one (s_expr (v_meth0 rfl (clsAll T) tk (one_all (P := fun c m => MetOk _ _ _ _ c m) ⟨⟨_, _, _, _, ⟨(T.met 54).1, (T.met 54).2, (kp_Reader_hold T)⟩, (ok_Reader_hold T), (hr.mono (by decide)), (b_Reader_hold T)⟩, by decide +kernel⟩) (v_var 1)))))
      (s_cons (s_if (t_not (t_tru rfl (v_meth0 rfl (clsAll T) tk (one_all (P := fun c m => MetOk _ _ _ _ c m) ⟨⟨_, _, _, _, ⟨(T.met 55).1, (T.met 55).2, (kp_Cursor_ended T)⟩, (ok_Cursor_ended T), (hr.mono (by decide)), (b_Cursor_ended T)⟩, by decide +kernel⟩) (v_fld rfl (clsAll T) 8 (v_var 1))))) (s_one (s_expr (v_meth0 rfl (clsAll T) tk (one_all (P := fun c m => MetOk _ _ _ _ c m) ⟨⟨_, _, _, _, ⟨(T.met 36).1, (T.met 36).2, (kp_Cursor_refuse T)⟩, (ok_Cursor_refuse T), (hr.mono (by decide)), (b_Cursor_refuse T)⟩, by decide +kernel⟩) (v_fld rfl (clsAll T) 8 (v_var 1))))) s_nil)
      (s_one (s_ret (v_cal (CalM.pure (cal_make tk rfl (T.make 65 66 67) (ok_Frame___init__ T) (hr.mono (by decide)) (b_Frame___init__ T))) (T.glo 68) (T.keep 67) (a_cons (v_fld rfl (clsAll T) 4 (v_var 1)) (a_cons (v_fld rfl (clsAll T) 5 (v_var 1)) (a_cons (v_fld rfl (clsAll T) 6 (v_var 1)) a_nil))))))))))))
theorem sc_ulaw_told : FnScope ["words", "e"] ["words"] (defScope s_ulaw_told) := ⟨rfl, rfl, rfl, by decide +kernel, rfl, by decide +kernel, by decide +kernel⟩
theorem F_ulaw_told (T : TT K mg) : FunD K "_law_told" "_law_told" (defArgs s_ulaw_told) (defBody s_ulaw_told) (defScope s_ulaw_told) (d_ulaw_told.dvs K) [] (He.fAd K at_ulaw_told) (fdOf K at_ulaw_told) := T.c.fd 37 (d := d_ulaw_told) rfl
theorem kp_ulaw_told (T : TT K mg) : PySem.W.keepIn K (.ref (He.fAd K at_ulaw_told)) = true := (F_ulaw_told T).kp
theorem b_ulaw_told (T : TT K mg) : Binds K (fdOf K at_ulaw_told) ["words"] [] := FunD.bindsN (F_ulaw_told T) fun _ _ _ _ _ _ us hl => match us, hl with | [_], _ => rfl
theorem ok_ulaw_told (T : TT K mg) : FnOk P w K mg base (L2.CX P w) 7 (He.fAd K at_ulaw_told) (fdOf K at_ulaw_told) ["words"] (spM (tx K) 1 m_ulaw_told) :=
  fn_okM (Df.of (st := s_ulaw_told) (F_ulaw_told T)) sc_ulaw_told fun cdv A outer s H E hr => by
    have tk : Takes (cxOf (L2.CX P w) P w K mg base ["words", "e"] "_law_told" (defScope s_ulaw_told) (He.fAd K at_ulaw_told) cdv A outer s H E) (WB E) := takes_of rfl rfl rfl rfl
    have hp : PassesOwn (model P w) (cxOf (L2.CX P w) P w K mg base ["words", "e"] "_law_told" (defScope s_ulaw_told) (He.fAd K at_ulaw_told) cdv A outer s H E).A (cxOf (L2.CX P w) P w K mg base ["words", "e"] "_law_told" (defScope s_ulaw_told) (He.fAd K at_ulaw_told) cdv A outer s H E).env (cxOf (L2.CX P w) P w K mg base ["words", "e"] "_law_told" (defScope s_ulaw_told) (He.fAd K at_ulaw_told) cdv A outer s H E).xe := passes_of rfl
    exact (s_one (s_try rfl rfl rfl sc_ulaw_told.nd ⟨rfl, rfl, .inl (T.glo 28)⟩ tk (fun c h => hasXCases (p := fun v => PySem.W.exmOne K v (.ref (He.ga K ("BadText" : Str)))) (b := fun c => subX c 1) T (T.exm 70) (T.exm 71) h) (fun W pn xe tk hp => (s_one (s_ret (v_tup (a_cons v_str (a_cons (v_call tk (ok_frame_text T) (hr.mono (by decide)) (T.glo 16) (kp_frame_text T) (b_frame_text T) (a_cons (v_call tk (ok_read_frame T) (hr.mono (by decide)) (T.glo 69) (kp_read_frame T) (b_read_frame T) (a_cons (v_mb PySem.F.plainAttrs_str PySem.F.slot_str_join PySem.F.type_str_join (ok_join rfl) st_ty v_str (a_cons (v_var 0) a_nil)) a_nil)) a_nil)) a_nil)))))) (fun a oe cl d pn c fs hz hf => (s_one (s_ret (v_tup (a_cons v_str (a_cons (v_excF 1 0 (xfAll T) (noX_at T) hz hf (by decide) (pv 1)) a_nil))))))))
theorem sc_ulaw_numbers_near : FnScope ["pool", "word", "good", "at", "words", "bad", "rods", "place"] ["pool"] (defScope s_ulaw_numbers_near) := ⟨rfl, rfl, rfl, by decide +kernel, rfl, by decide +kernel, by decide +kernel⟩
theorem F_ulaw_numbers_near (T : TT K mg) : FunD K "_law_numbers_near" "_law_numbers_near" (defArgs s_ulaw_numbers_near) (defBody s_ulaw_numbers_near) (defScope s_ulaw_numbers_near) (d_ulaw_numbers_near.dvs K) [] (He.fAd K at_ulaw_numbers_near) (fdOf K at_ulaw_numbers_near) := T.c.fd 38 (d := d_ulaw_numbers_near) rfl
theorem kp_ulaw_numbers_near (T : TT K mg) : PySem.W.keepIn K (.ref (He.fAd K at_ulaw_numbers_near)) = true := (F_ulaw_numbers_near T).kp
theorem b_ulaw_numbers_near (T : TT K mg) : Binds K (fdOf K at_ulaw_numbers_near) ["pool"] [] := FunD.bindsN (F_ulaw_numbers_near T) fun _ _ _ _ _ _ us hl => match us, hl with | [_], _ => rfl
theorem ok_ulaw_numbers_near (T : TT K mg) : FnOk P w K mg base (L2.CX P w) 8 (He.fAd K at_ulaw_numbers_near) (fdOf K at_ulaw_numbers_near) ["pool"] (spM (tx K) 1 m_ulaw_numbers_near) :=
  fn_okM (Df.of (st := s_ulaw_numbers_near) (F_ulaw_numbers_near T)) sc_ulaw_numbers_near fun cdv A outer s H E hr => by
    have tk : Takes (cxOf (L2.CX P w) P w K mg base ["pool", "word", "good", "at", "words", "bad", "rods", "place"] "_law_numbers_near" (defScope s_ulaw_numbers_near) (He.fAd K at_ulaw_numbers_near) cdv A outer s H E) (WB E) := takes_of rfl rfl rfl rfl
    have hp : PassesOwn (model P w) (cxOf (L2.CX P w) P w K mg base ["pool", "word", "good", "at", "words", "bad", "rods", "place"] "_law_numbers_near" (defScope s_ulaw_numbers_near) (He.fAd K at_ulaw_numbers_near) cdv A outer s H E).A (cxOf (L2.CX P w) P w K mg base ["pool", "word", "good", "at", "words", "bad", "rods", "place"] "_law_numbers_near" (defScope s_ulaw_numbers_near) (He.fAd K at_ulaw_numbers_near) cdv A outer s H E).env (cxOf (L2.CX P w) P w K mg base ["pool", "word", "good", "at", "words", "bad", "rods", "place"] "_law_numbers_near" (defScope s_ulaw_numbers_near) (He.fAd K at_ulaw_numbers_near) cdv A outer s H E).xe := passes_of rfl
    exact (s_cons (s_set 1 sc_ulaw_numbers_near.nd (v_ix rfl (v_tup (a_cons v_str (a_cons v_str (a_cons v_str (a_cons v_str (a_cons v_str (a_cons v_str (a_cons v_str (a_cons v_str (a_cons v_str (a_cons v_str (a_cons v_str (a_cons v_str a_nil))))))))))))) (v_call tk (ok_ulaw_draw T) (hr.mono (by decide)) (T.glo 4) (kp_ulaw_draw T) (b_ulaw_draw T) (a_cons (v_var 0) (a_cons v_int a_nil)))))
      (s_cons (s_set 2 sc_ulaw_numbers_near.nd (v_cmp (oc_in rfl (hu65 hr)) (v_var 1) (v_tup (a_cons v_str (a_cons v_str (a_cons v_str (a_cons v_str (a_cons v_str (a_cons v_str a_nil))))))) rfl))
      (s_cons (s_set 3 sc_ulaw_numbers_near.nd (v_bin (ob_add rfl) v_int (v_call tk (ok_ulaw_draw T) (hr.mono (by decide)) (T.glo 4) (kp_ulaw_draw T) (b_ulaw_draw T) (a_cons (v_var 0) (a_cons v_int a_nil)))))
      (s_cons (s_set 4 sc_ulaw_numbers_near.nd (v_lst false (a_cons v_str (a_cons v_str (a_cons v_str (a_cons v_str a_nil))))))
      (s_cons (s_sub (v_ix rfl (v_tup (a_cons v_str (a_cons v_str (a_cons v_str (a_cons v_str a_nil))))) (v_call tk (ok_ulaw_draw T) (hr.mono (by decide)) (T.glo 4) (kp_ulaw_draw T) (b_ulaw_draw T) (a_cons (v_var 0) (a_cons v_int a_nil)))) (v_var 4) v_int)
      (s_cons (s_sub (v_var 1) (v_var 4) (v_var 3))
      (s_cons (s_set 5 sc_ulaw_numbers_near.nd v_non)
      (s_cons (s_if (t_not (t_tru rfl (v_var 2))) (s_one (s_set 5 sc_ulaw_numbers_near.nd (v_var 3))) s_nil)
      (s_cons (s_if (t_not (t_tru rfl (v_call tk (ok_ulaw_same T 6) (hr.mono (by decide)) (T.glo 11) (kp_ulaw_same T) (b_ulaw_same T) (a_cons (v_call tk (ok_ulaw_told T) (hr.mono (by decide)) (T.glo 72) (kp_ulaw_told T) (b_ulaw_told T) (a_cons (v_var 4) a_nil)) (a_cons (v_call tk (ok_ulaw_due T) (hr.mono (by decide)) (T.glo 13) (kp_ulaw_due T) (b_ulaw_due T) (a_cons (v_var 4) (a_cons (v_var 5) a_nil))) a_nil))))) (s_one (s_ret v_bl)) s_nil)
      (s_cons (s_set 6 sc_ulaw_numbers_near.nd (v_lst false (a_cons v_str (a_cons v_str (a_cons v_str (a_cons v_str (a_cons v_str (a_cons v_str (a_cons v_str (a_cons v_str (a_cons v_str (a_cons v_str (a_cons v_str (a_cons v_str (a_cons v_str a_nil)))))))))))))))
      (s_cons (s_set 7 sc_ulaw_numbers_near.nd (v_bin (ob_add rfl) v_int (v_call tk (ok_ulaw_draw T) (hr.mono (by decide)) (T.glo 4) (kp_ulaw_draw T) (b_ulaw_draw T) (a_cons (v_var 0) (a_cons v_int a_nil)))))
      (s_cons (s_sub (v_var 1) (v_var 6) (v_var 7))
      (s_cons (s_set 5 sc_ulaw_numbers_near.nd (v_var 7))
      (s_cons (s_if (PW.pt (w_and (t_tru rfl (v_var 2)) (pw_and1 (t_cmp (oc_ne rfl (hu64 hr)) (v_sl true rfl (v_var 1) o_none (o_some v_int)) v_str (nomark _))))) (s_one (s_set 5 sc_ulaw_numbers_near.nd v_non)) s_nil)
      (s_one (s_ret (v_call tk (ok_ulaw_same T 6) (hr.mono (by decide)) (T.glo 11) (kp_ulaw_same T) (b_ulaw_same T) (a_cons (v_call tk (ok_ulaw_told T) (hr.mono (by decide)) (T.glo 72) (kp_ulaw_told T) (b_ulaw_told T) (a_cons (v_var 6) a_nil)) (a_cons (v_call tk (ok_ulaw_due T) (hr.mono (by decide)) (T.glo 13) (kp_ulaw_due T) (b_ulaw_due T) (a_cons (v_var 6) (a_cons (v_var 5) a_nil))) a_nil)))))))))))))))))))
theorem sc_ulaw_pairs_of : FnScope ["count", "pairs", "one", "other"] ["count"] (defScope s_ulaw_pairs_of) := ⟨rfl, rfl, rfl, by decide +kernel, rfl, by decide +kernel, by decide +kernel⟩
theorem F_ulaw_pairs_of (T : TT K mg) : FunD K "_law_pairs_of" "_law_pairs_of" (defArgs s_ulaw_pairs_of) (defBody s_ulaw_pairs_of) (defScope s_ulaw_pairs_of) (d_ulaw_pairs_of.dvs K) [] (He.fAd K at_ulaw_pairs_of) (fdOf K at_ulaw_pairs_of) := T.c.fd 39 (d := d_ulaw_pairs_of) rfl
theorem kp_ulaw_pairs_of (T : TT K mg) : PySem.W.keepIn K (.ref (He.fAd K at_ulaw_pairs_of)) = true := (F_ulaw_pairs_of T).kp
theorem b_ulaw_pairs_of (T : TT K mg) : Binds K (fdOf K at_ulaw_pairs_of) ["count"] [] := FunD.bindsN (F_ulaw_pairs_of T) fun _ _ _ _ _ _ us hl => match us, hl with | [_], _ => rfl
theorem ok_ulaw_pairs_of (T : TT K mg) : FnOk P w K mg base (L2.CX P w) 1 (He.fAd K at_ulaw_pairs_of) (fdOf K at_ulaw_pairs_of) ["count"] (spM (tx K) 1 m_ulaw_pairs_of) :=
  fn_okM (Df.of (st := s_ulaw_pairs_of) (F_ulaw_pairs_of T)) sc_ulaw_pairs_of fun cdv A outer s H E hr => by
    have tk : Takes (cxOf (L2.CX P w) P w K mg base ["count", "pairs", "one", "other"] "_law_pairs_of" (defScope s_ulaw_pairs_of) (He.fAd K at_ulaw_pairs_of) cdv A outer s H E) (WB E) := takes_of rfl rfl rfl rfl
    have hp : PassesOwn (model P w) (cxOf (L2.CX P w) P w K mg base ["count", "pairs", "one", "other"] "_law_pairs_of" (defScope s_ulaw_pairs_of) (He.fAd K at_ulaw_pairs_of) cdv A outer s H E).A (cxOf (L2.CX P w) P w K mg base ["count", "pairs", "one", "other"] "_law_pairs_of" (defScope s_ulaw_pairs_of) (He.fAd K at_ulaw_pairs_of) cdv A outer s H E).env (cxOf (L2.CX P w) P w K mg base ["count", "pairs", "one", "other"] "_law_pairs_of" (defScope s_ulaw_pairs_of) (He.fAd K at_ulaw_pairs_of) cdv A outer s H E).xe := passes_of rfl
    exact (s_cons (s_set 1 sc_ulaw_pairs_of.nd (v_lst true a_nil))
      (s_cons (s_for (vs := [2]) hp rfl (i_range (T.free 5) (v_var 0)) (g_name 2 sc_ulaw_pairs_of.nd) (s_one (s_set 1 sc_ulaw_pairs_of.nd (v_binM om_catC (v_var 1) (v_lc true [("other", 3)] rfl sc_ulaw_pairs_of.nd (i_range2 (T.free 5) (v_bin (ob_add rfl) (v_var 2) v_int) (v_var 0)) (blkOk_by (by kernel_rfl)) (fun _ _ _ _ _ => (g_name 3 sc_ulaw_pairs_of.nd)) (fun _ _ _ _ _ => ts_nil) (fun _ _ _ _ _ => (v_tup (a_cons (v_var 2) (a_cons (v_var 3) a_nil)))))))))
      (s_one (s_ret (v_var 1)))))
theorem sc_ulaw_many_rods : FnScope ["pool", "words", "pairs", "bad", "k", "pair"] ["pool"] (defScope s_ulaw_many_rods) := ⟨rfl, rfl, rfl, by decide +kernel, rfl, by decide +kernel, by decide +kernel⟩
theorem F_ulaw_many_rods (T : TT K mg) : FunD K "_law_many_rods" "_law_many_rods" (defArgs s_ulaw_many_rods) (defBody s_ulaw_many_rods) (defScope s_ulaw_many_rods) (d_ulaw_many_rods.dvs K) [] (He.fAd K at_ulaw_many_rods) (fdOf K at_ulaw_many_rods) := T.c.fd 40 (d := d_ulaw_many_rods) rfl
theorem kp_ulaw_many_rods (T : TT K mg) : PySem.W.keepIn K (.ref (He.fAd K at_ulaw_many_rods)) = true := (F_ulaw_many_rods T).kp
theorem b_ulaw_many_rods (T : TT K mg) : Binds K (fdOf K at_ulaw_many_rods) ["pool"] [] := FunD.bindsN (F_ulaw_many_rods T) fun _ _ _ _ _ _ us hl => match us, hl with | [_], _ => rfl
theorem ok_ulaw_many_rods (T : TT K mg) : FnOk P w K mg base (L2.CX P w) 8 (He.fAd K at_ulaw_many_rods) (fdOf K at_ulaw_many_rods) ["pool"] (spM (tx K) 1 m_ulaw_many_rods) :=
  fn_okM (Df.of (st := s_ulaw_many_rods) (F_ulaw_many_rods T)) sc_ulaw_many_rods fun cdv A outer s H E hr => by
    have tk : Takes (cxOf (L2.CX P w) P w K mg base ["pool", "words", "pairs", "bad", "k", "pair"] "_law_many_rods" (defScope s_ulaw_many_rods) (He.fAd K at_ulaw_many_rods) cdv A outer s H E) (WB E) := takes_of rfl rfl rfl rfl
    have hp : PassesOwn (model P w) (cxOf (L2.CX P w) P w K mg base ["pool", "words", "pairs", "bad", "k", "pair"] "_law_many_rods" (defScope s_ulaw_many_rods) (He.fAd K at_ulaw_many_rods) cdv A outer s H E).A (cxOf (L2.CX P w) P w K mg base ["pool", "words", "pairs", "bad", "k", "pair"] "_law_many_rods" (defScope s_ulaw_many_rods) (He.fAd K at_ulaw_many_rods) cdv A outer s H E).env (cxOf (L2.CX P w) P w K mg base ["pool", "words", "pairs", "bad", "k", "pair"] "_law_many_rods" (defScope s_ulaw_many_rods) (He.fAd K at_ulaw_many_rods) cdv A outer s H E).xe := passes_of rfl
    exact (s_cons (s_set 1 sc_ulaw_many_rods.nd (v_call tk (ok_ulaw_joints T) (hr.mono (by decide)) (T.glo 8) (kp_ulaw_joints T) (b_ulaw_joints T) (a_cons (v_var 0) (a_cons v_int a_nil))))
      (s_cons (s_set 2 sc_ulaw_many_rods.nd (v_call tk (ok_ulaw_pairs_of T) (hr.mono (by decide)) (T.glo 74) (kp_ulaw_pairs_of T) (b_ulaw_pairs_of T) (a_cons v_int a_nil)))
      (s_cons (s_set 3 sc_ulaw_many_rods.nd v_non)
      (s_cons (s_for (vs := [4]) hp rfl (i_range (T.free 5) (v_bin (ob_add rfl) v_int (v_call tk (ok_ulaw_draw T) (hr.mono (by decide)) (T.glo 4) (kp_ulaw_draw T) (b_ulaw_draw T) (a_cons (v_var 0) (a_cons v_int a_nil))))) (g_name 4 sc_ulaw_many_rods.nd) (s_cons (s_if (t_cmp (oc_eq rfl (hu64 hr)) (v_var 4) v_int (nomark _)) (s_one (s_set 3 sc_ulaw_many_rods.nd (v_callB (ok_len rfl) rfl (T.free 2) (a_cons (v_var 1) a_nil)))) s_nil)
      (s_cons (s_set 5 sc_ulaw_many_rods.nd (v_mb PySem.F.plainAttrs_list PySem.F.slot_list_pop PySem.F.type_list_pop ok_popAt ls_ty (v_var 2) (a_cons (v_call tk (ok_ulaw_draw T) (hr.mono (by decide)) (T.glo 4) (kp_ulaw_draw T) (b_ulaw_draw T) (a_cons (v_var 0) (a_cons (v_callB (ok_len rfl) rfl (T.free 2) (a_cons (v_var 2) a_nil)) a_nil))) a_nil)))
      (s_one (s_set 1 sc_ulaw_many_rods.nd (v_bin (ob_add rfl) (v_var 1) (v_lst true (a_cons v_str (a_cons (v_call tk (ok_ulaw_name_of T) (hr.mono (by decide)) (T.glo 7) (kp_ulaw_name_of T) (b_ulaw_name_of T) (a_cons (v_ix rfl (v_var 5) v_int) a_nil)) (a_cons (v_call tk (ok_ulaw_name_of T) (hr.mono (by decide)) (T.glo 7) (kp_ulaw_name_of T) (b_ulaw_name_of T) (a_cons (v_ix rfl (v_var 5) v_int) a_nil)) (a_cons (v_calT (cal_str tk (hu2 hr) (by intro q h; cases h)) rfl (T.free 6) (a_cons (v_call tk (ok_ulaw_draw T) (hr.mono (by decide)) (T.glo 4) (kp_ulaw_draw T) (b_ulaw_draw T) (a_cons (v_var 0) (a_cons v_int a_nil))) a_nil)) (a_cons v_str a_nil))))))))))))
      (s_one (s_ret (v_call tk (ok_ulaw_same T 6) (hr.mono (by decide)) (T.glo 11) (kp_ulaw_same T) (b_ulaw_same T) (a_cons (v_call tk (ok_ulaw_told T) (hr.mono (by decide)) (T.glo 72) (kp_ulaw_told T) (b_ulaw_told T) (a_cons (v_var 1) a_nil)) (a_cons (v_call tk (ok_ulaw_due T) (hr.mono (by decide)) (T.glo 13) (kp_ulaw_due T) (b_ulaw_due T) (a_cons (v_var 1) (a_cons (v_var 3) a_nil))) a_nil)))))))))
theorem sc_ulaw_all_rods : FnScope ["pool", "count", "words", "pairs", "left", "chosen", "one", "other", "more", "bad", "whole", "k"] ["pool"] (defScope s_ulaw_all_rods) := ⟨rfl, rfl, rfl, by decide +kernel, rfl, by decide +kernel, by decide +kernel⟩
theorem F_ulaw_all_rods (T : TT K mg) : FunD K "_law_all_rods" "_law_all_rods" (defArgs s_ulaw_all_rods) (defBody s_ulaw_all_rods) (defScope s_ulaw_all_rods) (d_ulaw_all_rods.dvs K) [] (He.fAd K at_ulaw_all_rods) (fdOf K at_ulaw_all_rods) := T.c.fd 41 (d := d_ulaw_all_rods) rfl
theorem kp_ulaw_all_rods (T : TT K mg) : PySem.W.keepIn K (.ref (He.fAd K at_ulaw_all_rods)) = true := (F_ulaw_all_rods T).kp
theorem b_ulaw_all_rods (T : TT K mg) : Binds K (fdOf K at_ulaw_all_rods) ["pool"] [] := FunD.bindsN (F_ulaw_all_rods T) fun _ _ _ _ _ _ us hl => match us, hl with | [_], _ => rfl
theorem ok_ulaw_all_rods (T : TT K mg) : FnOk P w K mg base (L2.CX P w) 8 (He.fAd K at_ulaw_all_rods) (fdOf K at_ulaw_all_rods) ["pool"] (spM (tx K) 1 m_ulaw_all_rods) :=
  fn_okM (Df.of (st := s_ulaw_all_rods) (F_ulaw_all_rods T)) sc_ulaw_all_rods fun cdv A outer s H E hr => by
    have tk : Takes (cxOf (L2.CX P w) P w K mg base ["pool", "count", "words", "pairs", "left", "chosen", "one", "other", "more", "bad", "whole", "k"] "_law_all_rods" (defScope s_ulaw_all_rods) (He.fAd K at_ulaw_all_rods) cdv A outer s H E) (WB E) := takes_of rfl rfl rfl rfl
    have hp : PassesOwn (model P w) (cxOf (L2.CX P w) P w K mg base ["pool", "count", "words", "pairs", "left", "chosen", "one", "other", "more", "bad", "whole", "k"] "_law_all_rods" (defScope s_ulaw_all_rods) (He.fAd K at_ulaw_all_rods) cdv A outer s H E).A (cxOf (L2.CX P w) P w K mg base ["pool", "count", "words", "pairs", "left", "chosen", "one", "other", "more", "bad", "whole", "k"] "_law_all_rods" (defScope s_ulaw_all_rods) (He.fAd K at_ulaw_all_rods) cdv A outer s H E).env (cxOf (L2.CX P w) P w K mg base ["pool", "count", "words", "pairs", "left", "chosen", "one", "other", "more", "bad", "whole", "k"] "_law_all_rods" (defScope s_ulaw_all_rods) (He.fAd K at_ulaw_all_rods) cdv A outer s H E).xe := passes_of rfl
    exact (s_cons (s_set 1 sc_ulaw_all_rods.nd (v_bin (ob_add rfl) v_int (v_call tk (ok_ulaw_draw T) (hr.mono (by decide)) (T.glo 4) (kp_ulaw_draw T) (b_ulaw_draw T) (a_cons (v_var 0) (a_cons v_int a_nil)))))
      (s_cons (s_set 2 sc_ulaw_all_rods.nd (v_call tk (ok_ulaw_joints T) (hr.mono (by decide)) (T.glo 8) (kp_ulaw_joints T) (b_ulaw_joints T) (a_cons (v_var 0) (a_cons (v_var 1) a_nil))))
      (s_cons (s_set 3 sc_ulaw_all_rods.nd (v_call tk (ok_ulaw_pairs_of T) (hr.mono (by decide)) (T.glo 74) (kp_ulaw_pairs_of T) (b_ulaw_pairs_of T) (a_cons (v_var 1) a_nil)))
      (s_cons (s_set 4 sc_ulaw_all_rods.nd (v_call tk (ok_ulaw_draw T) (hr.mono (by decide)) (T.glo 4) (kp_ulaw_draw T) (b_ulaw_draw T) (a_cons (v_var 0) (a_cons (v_callB (ok_len rfl) rfl (T.free 2) (a_cons (v_var 3) a_nil)) a_nil))))
      (s_cons (s_setLc 5 true [("k", 11)] rfl sc_ulaw_all_rods.nd (i_range (T.free 5) (v_callB (ok_len rfl) rfl (T.free 2) (a_cons (v_var 3) a_nil))) (blkOk_by (by kernel_rfl)) (fun _ _ _ _ _ => (g_name 11 sc_ulaw_all_rods.nd)) (fun _ _ _ _ _ => (ts_one (t_cmp (oc_ne rfl (hu64 hr)) (v_var 11) (v_var 4) (nomark _)))) (fun _ _ _ _ _ => (v_ix rfl (v_var 3) (v_var 11))))
      (s_cons (s_for (vs := [6, 7]) hp rfl (i_seq rfl (v_var 5)) (g_tup rfl rfl (gs_cons (g_name 6 sc_ulaw_all_rods.nd) (gs_cons (g_name 7 sc_ulaw_all_rods.nd) gs_nil))) (s_one (s_set 2 sc_ulaw_all_rods.nd (v_bin (ob_add rfl) (v_var 2) (v_lst true (a_cons v_str (a_cons (v_call tk (ok_ulaw_name_of T) (hr.mono (by decide)) (T.glo 7) (kp_ulaw_name_of T) (b_ulaw_name_of T) (a_cons (v_var 6) a_nil)) (a_cons (v_call tk (ok_ulaw_name_of T) (hr.mono (by decide)) (T.glo 7) (kp_ulaw_name_of T) (b_ulaw_name_of T) (a_cons (v_var 7) a_nil)) (a_cons v_str (a_cons v_str a_nil))))))))))
      (s_cons (s_if (t_not (t_tru rfl (v_call tk (ok_ulaw_same T 6) (hr.mono (by decide)) (T.glo 11) (kp_ulaw_same T) (b_ulaw_same T) (a_cons (v_call tk (ok_ulaw_told T) (hr.mono (by decide)) (T.glo 72) (kp_ulaw_told T) (b_ulaw_told T) (a_cons (v_var 2) a_nil)) (a_cons (v_call tk (ok_ulaw_due T) (hr.mono (by decide)) (T.glo 13) (kp_ulaw_due T) (b_ulaw_due T) (a_cons (v_var 2) (a_cons v_non a_nil))) a_nil))))) (s_one (s_ret v_bl)) s_nil)
      (s_cons (s_set 6 sc_ulaw_all_rods.nd (v_call tk (ok_ulaw_draw T) (hr.mono (by decide)) (T.glo 4) (kp_ulaw_draw T) (b_ulaw_draw T) (a_cons (v_var 0) (a_cons (v_var 1) a_nil))))
      (s_cons (s_set 8 sc_ulaw_all_rods.nd (v_bin (ob_add rfl) (v_var 2) (v_lst true (a_cons v_str (a_cons (v_call tk (ok_ulaw_name_of T) (hr.mono (by decide)) (T.glo 7) (kp_ulaw_name_of T) (b_ulaw_name_of T) (a_cons (v_var 6) a_nil)) (a_cons (v_call tk (ok_ulaw_name_of T) (hr.mono (by decide)) (T.glo 7) (kp_ulaw_name_of T) (b_ulaw_name_of T) (a_cons (v_ix rfl (v_ix rfl (v_var 3) (v_var 4)) v_int) a_nil)) (a_cons v_str (a_cons v_str a_nil))))))))
      (s_cons (s_set 9 sc_ulaw_all_rods.nd v_non)
      (s_cons (s_if (t_cmp (oc_ne rfl (hu64 hr)) (v_var 6) (v_ix rfl (v_ix rfl (v_var 3) (v_var 4)) v_int) (nomark _)) (s_one (s_set 9 sc_ulaw_all_rods.nd (v_bin (ob_add rfl) (v_callB (ok_len rfl) rfl (T.free 2) (a_cons (v_var 2) a_nil)) v_int))) s_nil)
      (s_cons (s_if (t_not (t_tru rfl (v_call tk (ok_ulaw_same T 6) (hr.mono (by decide)) (T.glo 11) (kp_ulaw_same T) (b_ulaw_same T) (a_cons (v_call tk (ok_ulaw_told T) (hr.mono (by decide)) (T.glo 72) (kp_ulaw_told T) (b_ulaw_told T) (a_cons (v_var 8) a_nil)) (a_cons (v_call tk (ok_ulaw_due T) (hr.mono (by decide)) (T.glo 13) (kp_ulaw_due T) (b_ulaw_due T) (a_cons (v_var 8) (a_cons (v_var 9) a_nil))) a_nil))))) (s_one (s_ret v_bl)) s_nil)
      (s_cons (s_set 10 sc_ulaw_all_rods.nd (v_bin (ob_add rfl) (v_var 2) (v_lst true (a_cons v_str (a_cons (v_call tk (ok_ulaw_name_of T) (hr.mono (by decide)) (T.glo 7) (kp_ulaw_name_of T) (b_ulaw_name_of T) (a_cons (v_ix rfl (v_ix rfl (v_var 3) (v_var 4)) v_int) a_nil)) (a_cons (v_call tk (ok_ulaw_name_of T) (hr.mono (by decide)) (T.glo 7) (kp_ulaw_name_of T) (b_ulaw_name_of T) (a_cons (v_ix rfl (v_ix rfl (v_var 3) (v_var 4)) v_int) a_nil)) (a_cons v_str (a_cons v_str a_nil))))))))
      (s_cons (s_set 8 sc_ulaw_all_rods.nd (v_bin (ob_add rfl) (v_var 10) (v_lst true (a_cons v_str (a_cons v_str (a_cons v_str (a_cons v_str (a_cons v_str a_nil))))))))
      (s_one (s_ret (v_call tk (ok_ulaw_same T 6) (hr.mono (by decide)) (T.glo 11) (kp_ulaw_same T) (b_ulaw_same T) (a_cons (v_call tk (ok_ulaw_told T) (hr.mono (by decide)) (T.glo 72) (kp_ulaw_told T) (b_ulaw_told T) (a_cons (v_var 8) a_nil)) (a_cons (v_tup (a_cons v_str (a_cons (v_callB (ok_len rfl) rfl (T.free 2) (a_cons (v_var 10) a_nil)) a_nil))) a_nil)))))))))))))))))))
theorem sc_ulaw_all_holds : FnScope ["pool", "count", "words", "holds", "joint", "left", "k", "one", "more", "bad", "whole"] ["pool"] (defScope s_ulaw_all_holds) := ⟨rfl, rfl, rfl, by decide +kernel, rfl, by decide +kernel, by decide +kernel⟩
theorem F_ulaw_all_holds (T : TT K mg) : FunD K "_law_all_holds" "_law_all_holds" (defArgs s_ulaw_all_holds) (defBody s_ulaw_all_holds) (defScope s_ulaw_all_holds) (d_ulaw_all_holds.dvs K) [] (He.fAd K at_ulaw_all_holds) (fdOf K at_ulaw_all_holds) := T.c.fd 42 (d := d_ulaw_all_holds) rfl
theorem kp_ulaw_all_holds (T : TT K mg) : PySem.W.keepIn K (.ref (He.fAd K at_ulaw_all_holds)) = true := (F_ulaw_all_holds T).kp
theorem b_ulaw_all_holds (T : TT K mg) : Binds K (fdOf K at_ulaw_all_holds) ["pool"] [] := FunD.bindsN (F_ulaw_all_holds T) fun _ _ _ _ _ _ us hl => match us, hl with | [_], _ => rfl
theorem ok_ulaw_all_holds (T : TT K mg) : FnOk P w K mg base (L2.CX P w) 8 (He.fAd K at_ulaw_all_holds) (fdOf K at_ulaw_all_holds) ["pool"] (spM (tx K) 1 m_ulaw_all_holds) :=
  fn_okM (Df.of (st := s_ulaw_all_holds) (F_ulaw_all_holds T)) sc_ulaw_all_holds fun cdv A outer s H E hr => by
    have tk : Takes (cxOf (L2.CX P w) P w K mg base ["pool", "count", "words", "holds", "joint", "left", "k", "one", "more", "bad", "whole"] "_law_all_holds" (defScope s_ulaw_all_holds) (He.fAd K at_ulaw_all_holds) cdv A outer s H E) (WB E) := takes_of rfl rfl rfl rfl
    have hp : PassesOwn (model P w) (cxOf (L2.CX P w) P w K mg base ["pool", "count", "words", "holds", "joint", "left", "k", "one", "more", "bad", "whole"] "_law_all_holds" (defScope s_ulaw_all_holds) (He.fAd K at_ulaw_all_holds) cdv A outer s H E).A (cxOf (L2.CX P w) P w K mg base ["pool", "count", "words", "holds", "joint", "left", "k", "one", "more", "bad", "whole"] "_law_all_holds" (defScope s_ulaw_all_holds) (He.fAd K at_ulaw_all_holds) cdv A outer s H E).env (cxOf (L2.CX P w) P w K mg base ["pool", "count", "words", "holds", "joint", "left", "k", "one", "more", "bad", "whole"] "_law_all_holds" (defScope s_ulaw_all_holds) (He.fAd K at_ulaw_all_holds) cdv A outer s H E).xe := passes_of rfl
    exact (s_cons (s_set 1 sc_ulaw_all_holds.nd (v_bin (ob_add rfl) v_int (v_call tk (ok_ulaw_draw T) (hr.mono (by decide)) (T.glo 4) (kp_ulaw_draw T) (b_ulaw_draw T) (a_cons (v_var 0) (a_cons v_int a_nil)))))
      (s_cons (s_set 2 sc_ulaw_all_holds.nd (v_call tk (ok_ulaw_joints T) (hr.mono (by decide)) (T.glo 8) (kp_ulaw_joints T) (b_ulaw_joints T) (a_cons (v_var 0) (a_cons (v_var 1) a_nil))))
      (s_cons (s_set 3 sc_ulaw_all_holds.nd (v_lst true a_nil))
      (s_cons (s_for (vs := [4]) hp rfl (i_range (T.free 5) (v_var 1)) (g_name 4 sc_ulaw_all_holds.nd) (s_one (s_set 3 sc_ulaw_all_holds.nd (v_bin (ob_add rfl) (v_var 3) (v_lst true (a_cons (v_tup (a_cons (v_var 4) (a_cons v_str a_nil))) (a_cons (v_tup (a_cons (v_var 4) (a_cons v_str a_nil))) a_nil)))))))
      (s_cons (s_set 5 sc_ulaw_all_holds.nd (v_call tk (ok_ulaw_draw T) (hr.mono (by decide)) (T.glo 4) (kp_ulaw_draw T) (b_ulaw_draw T) (a_cons (v_var 0) (a_cons (v_callB (ok_len rfl) rfl (T.free 2) (a_cons (v_var 3) a_nil)) a_nil))))
      (s_cons (s_for (vs := [6]) hp rfl (i_range (T.free 5) (v_callB (ok_len rfl) rfl (T.free 2) (a_cons (v_var 3) a_nil))) (g_name 6 sc_ulaw_all_holds.nd) (s_one (s_if (t_cmp (oc_ne rfl (hu64 hr)) (v_var 6) (v_var 5) (nomark _)) (s_one (s_set 2 sc_ulaw_all_holds.nd (v_bin (ob_add rfl) (v_var 2) (v_lst true (a_cons v_str (a_cons (v_call tk (ok_ulaw_name_of T) (hr.mono (by decide)) (T.glo 7) (kp_ulaw_name_of T) (b_ulaw_name_of T) (a_cons (v_ix rfl (v_ix rfl (v_var 3) (v_var 6)) v_int) a_nil)) (a_cons (v_ix rfl (v_ix rfl (v_var 3) (v_var 6)) v_int) a_nil))))))) s_nil)))
      (s_cons (s_if (t_not (t_tru rfl (v_call tk (ok_ulaw_same T 6) (hr.mono (by decide)) (T.glo 11) (kp_ulaw_same T) (b_ulaw_same T) (a_cons (v_call tk (ok_ulaw_told T) (hr.mono (by decide)) (T.glo 72) (kp_ulaw_told T) (b_ulaw_told T) (a_cons (v_var 2) a_nil)) (a_cons (v_call tk (ok_ulaw_due T) (hr.mono (by decide)) (T.glo 13) (kp_ulaw_due T) (b_ulaw_due T) (a_cons (v_var 2) (a_cons v_non a_nil))) a_nil))))) (s_one (s_ret v_bl)) s_nil)
      (s_cons (s_set 7 sc_ulaw_all_holds.nd (v_call tk (ok_ulaw_draw T) (hr.mono (by decide)) (T.glo 4) (kp_ulaw_draw T) (b_ulaw_draw T) (a_cons (v_var 0) (a_cons (v_var 1) a_nil))))
      (s_cons (s_set 8 sc_ulaw_all_holds.nd (v_bin (ob_add rfl) (v_var 2) (v_lst true (a_cons v_str (a_cons (v_call tk (ok_ulaw_name_of T) (hr.mono (by decide)) (T.glo 7) (kp_ulaw_name_of T) (b_ulaw_name_of T) (a_cons (v_var 7) a_nil)) (a_cons (v_ix rfl (v_ix rfl (v_var 3) (v_var 5)) v_int) a_nil))))))
      (s_cons (s_set 9 sc_ulaw_all_holds.nd v_non)
      (s_cons (s_if (t_cmp (oc_ne rfl (hu64 hr)) (v_var 7) (v_ix rfl (v_ix rfl (v_var 3) (v_var 5)) v_int) (nomark _)) (s_one (s_set 9 sc_ulaw_all_holds.nd (v_bin (ob_add rfl) (v_callB (ok_len rfl) rfl (T.free 2) (a_cons (v_var 2) a_nil)) v_int))) s_nil)
      (s_cons (s_if (t_not (t_tru rfl (v_call tk (ok_ulaw_same T 6) (hr.mono (by decide)) (T.glo 11) (kp_ulaw_same T) (b_ulaw_same T) (a_cons (v_call tk (ok_ulaw_told T) (hr.mono (by decide)) (T.glo 72) (kp_ulaw_told T) (b_ulaw_told T) (a_cons (v_var 8) a_nil)) (a_cons (v_call tk (ok_ulaw_due T) (hr.mono (by decide)) (T.glo 13) (kp_ulaw_due T) (b_ulaw_due T) (a_cons (v_var 8) (a_cons (v_var 9) a_nil))) a_nil))))) (s_one (s_ret v_bl)) s_nil)
      (s_cons (s_set 10 sc_ulaw_all_holds.nd (v_bin (ob_add rfl) (v_var 2) (v_lst true (a_cons v_str (a_cons (v_call tk (ok_ulaw_name_of T) (hr.mono (by decide)) (T.glo 7) (kp_ulaw_name_of T) (b_ulaw_name_of T) (a_cons (v_ix rfl (v_ix rfl (v_var 3) (v_var 5)) v_int) a_nil)) (a_cons (v_ix rfl (v_ix rfl (v_var 3) (v_var 5)) v_int) a_nil))))))
      (s_one (s_ret (v_call tk (ok_ulaw_same T 6) (hr.mono (by decide)) (T.glo 11) (kp_ulaw_same T) (b_ulaw_same T) (a_cons (v_call tk (ok_ulaw_told T) (hr.mono (by decide)) (T.glo 72) (kp_ulaw_told T) (b_ulaw_told T) (a_cons (v_bin (ob_add rfl) (v_var 10) (v_lst true (a_cons v_str (a_cons v_str (a_cons v_str a_nil))))) a_nil)) (a_cons (v_tup (a_cons v_str (a_cons (v_callB (ok_len rfl) rfl (T.free 2) (a_cons (v_var 10) a_nil)) a_nil))) a_nil))))))))))))))))))
theorem sc_law : FnScope ["script", "pool", "count", "words", "bad"] ["script"] (defScope s_law) := ⟨rfl, rfl, rfl, by decide +kernel, rfl, by decide +kernel, by decide +kernel⟩
theorem F_law (T : TT K mg) : FunD K "law" "law" (defArgs s_law) (defBody s_law) (defScope s_law) (d_law.dvs K) [] (He.fAd K at_law) (fdOf K at_law) := T.c.fd 43 (d := d_law) rfl
theorem kp_law (T : TT K mg) : PySem.W.keepIn K (.ref (He.fAd K at_law)) = true := (F_law T).kp
theorem b_law (T : TT K mg) : Binds K (fdOf K at_law) ["script"] [] := FunD.bindsN (F_law T) fun _ _ _ _ _ _ us hl => match us, hl with | [_], _ => rfl
theorem ok_law (T : TT K mg) : FnOk P w K mg base (L2.CX P w) 9 (He.fAd K at_law) (fdOf K at_law) ["script"] (spM (tx K) 1 m_law) :=
  fn_okM (Df.of (st := s_law) (F_law T)) sc_law fun cdv A outer s H E hr => by
    have tk : Takes (cxOf (L2.CX P w) P w K mg base ["script", "pool", "count", "words", "bad"] "law" (defScope s_law) (He.fAd K at_law) cdv A outer s H E) (WB E) := takes_of rfl rfl rfl rfl
    have hp : PassesOwn (model P w) (cxOf (L2.CX P w) P w K mg base ["script", "pool", "count", "words", "bad"] "law" (defScope s_law) (He.fAd K at_law) cdv A outer s H E).A (cxOf (L2.CX P w) P w K mg base ["script", "pool", "count", "words", "bad"] "law" (defScope s_law) (He.fAd K at_law) cdv A outer s H E).env (cxOf (L2.CX P w) P w K mg base ["script", "pool", "count", "words", "bad"] "law" (defScope s_law) (He.fAd K at_law) cdv A outer s H E).xe := passes_of rfl
    exact (s_cons (s_set 1 sc_law.nd (v_call tk (ok_ulaw_pool T) (hr.mono (by decide)) (T.glo 1) (kp_ulaw_pool T) (b_ulaw_pool T) (a_cons (v_var 0) (a_cons v_int a_nil))))
      (s_cons (s_set 2 sc_law.nd (v_bin (ob_add rfl) v_int (v_call tk (ok_ulaw_draw T) (hr.mono (by decide)) (T.glo 4) (kp_ulaw_draw T) (b_ulaw_draw T) (a_cons (v_var 1) (a_cons v_int a_nil)))))
      (s_cons (s_set 3 sc_law.nd (v_call tk (ok_ulaw_joints T) (hr.mono (by decide)) (T.glo 8) (kp_ulaw_joints T) (b_ulaw_joints T) (a_cons (v_var 1) (a_cons (v_var 2) a_nil))))
      (s_cons (s_set 4 sc_law.nd v_non)
      (s_cons (s_if (t_cmp (oc_eq rfl (hu64 hr)) (v_var 2) v_int (nomark _)) (s_one (s_set 4 sc_law.nd v_int)) s_nil)
      (s_cons (s_if (PW.pt (w_or (t_not (t_tru rfl (v_call tk (ok_ulaw_same T 6) (hr.mono (by decide)) (T.glo 11) (kp_ulaw_same T) (b_ulaw_same T) (a_cons (v_call tk (ok_ulaw_told T) (hr.mono (by decide)) (T.glo 72) (kp_ulaw_told T) (b_ulaw_told T) (a_cons (v_var 3) a_nil)) (a_cons (v_call tk (ok_ulaw_due T) (hr.mono (by decide)) (T.glo 13) (kp_ulaw_due T) (b_ulaw_due T) (a_cons (v_var 3) (a_cons (v_var 4) a_nil))) a_nil))))) (pw_or1 (t_not (t_tru rfl (v_call tk (ok_ulaw_numbers_near T) (hr.mono (by decide)) (T.glo 73) (kp_ulaw_numbers_near T) (b_ulaw_numbers_near T) (a_cons (v_var 1) a_nil))))))) (s_one (s_ret v_bl)) s_nil)
      (s_one (s_ret (v_and (v_call tk (ok_ulaw_many_rods T) (hr.mono (by decide)) (T.glo 75) (kp_ulaw_many_rods T) (b_ulaw_many_rods T) (a_cons (v_var 1) a_nil)) (v_and (v_call tk (ok_ulaw_all_rods T) (hr.mono (by decide)) (T.glo 76) (kp_ulaw_all_rods T) (b_ulaw_all_rods T) (a_cons (v_var 1) a_nil)) (v_one (v_call tk (ok_ulaw_all_holds T) (hr.mono (by decide)) (T.glo 77) (kp_ulaw_all_holds T) (b_ulaw_all_holds T) (a_cons (v_var 1) a_nil)))))))))))))
end
end K04

namespace K04
open PySem L2 Z
abbrev hk : PySem.W.Hook := hookI 5 facts fn ini
def ob (s : PySem.W.SharedT) : He.AlD × List IniW := obsIG 5 facts fn ini (HandSHeadRun.getT s)
theorem ob_eq (s : PySem.W.SharedT) : ob s = hk.obs s.abs := obsIG_eq (HandSHeadRun.getT_eq s)
abbrev R : PySem.W.OpenRow := PySem.W.OpenLaw.row PySem.Challenge.rw_stillframe_k04_bounds_of_texts
theorem run (w : World) : HandSHeadRun.RunEqI R (PySem.W.view R.prog [44]) hk ob 9000 [("_wall" : Str), ("FrameError" : Str), ("BadText" : Str), ("BadFrame" : Str), ("KEYS" : Str), ("LETTERS" : Str), ("DIGITS" : Str), ("words_of" : Str), ("is_name" : Str), ("plain_number" : Str), ("number_of" : Str), ("whole_of" : Str), ("Cursor" : Str), ("MOST_JOINTS_frame" : Str), ("MOST_RODS_frame" : Str), ("Frame" : Str), ("_checked_joints" : Str), ("_weak" : Str), ("_checked_rods" : Str), ("_checked_holds" : Str), ("MOST_JOINTS_frametext" : Str), ("MOST_RODS_frametext" : Str), ("AXES" : Str), ("Reader" : Str), ("read_frame" : Str), ("strength_word" : Str), ("frame_text" : Str), ("_law_pool" : Str), ("_law_draw" : Str), ("_law_same" : Str), ("_law_name_of" : Str), ("_law_told" : Str), ("_law_joints" : Str), ("_law_due" : Str), ("_law_pairs_of" : Str), ("_law_many_rods" : Str), ("_law_all_rods" : Str), ("_law_all_holds" : Str), ("_law_numbers_near" : Str)] w := by
  unfold HandSHeadRun.RunEqI
  kernel_rfl
end K04
open PySem PySem.W PySem.Calls PyProof.Rows
theorem PySem.Challenge.holds_of_K04 (hl : ∀ ns : List Int, ns.length ≤ 63 → (∀ k ∈ ns, Z.nb k ≤ 1048576) → ∃ s, K04.m_law [.frz (ns.map .int)] [] = .ok (.bl true) s) : PySem.Challenge.rw_stillframe_k04_bounds_of_texts.Holds := by
  w_on; o_law
  refine HandSHeadRun.head_imp (r := OpenLaw.row PySem.Challenge.rw_stillframe_k04_bounds_of_texts) (q := view (OpenLaw.row PySem.Challenge.rw_stillframe_k04_bounds_of_texts).prog [44]) (H := K04.hk) (ob := K04.ob) (M := 9000) (loose := [("_wall" : Str), ("FrameError" : Str), ("BadText" : Str), ("BadFrame" : Str), ("KEYS" : Str), ("LETTERS" : Str), ("DIGITS" : Str), ("words_of" : Str), ("is_name" : Str), ("plain_number" : Str), ("number_of" : Str), ("whole_of" : Str), ("Cursor" : Str), ("MOST_JOINTS_frame" : Str), ("MOST_RODS_frame" : Str), ("Frame" : Str), ("_checked_joints" : Str), ("_weak" : Str), ("_checked_rods" : Str), ("_checked_holds" : Str), ("MOST_JOINTS_frametext" : Str), ("MOST_RODS_frametext" : Str), ("AXES" : Str), ("Reader" : Str), ("read_frame" : Str), ("strength_word" : Str), ("frame_text" : Str), ("_law_pool" : Str), ("_law_draw" : Str), ("_law_same" : Str), ("_law_name_of" : Str), ("_law_told" : Str), ("_law_joints" : Str), ("_law_due" : Str), ("_law_pairs_of" : Str), ("_law_many_rods" : Str), ("_law_all_rods" : Str), ("_law_all_holds" : Str), ("_law_numbers_near" : Str)]) (d := HandSHeadRun.topDef (OpenLaw.row PySem.Challenge.rw_stillframe_k04_bounds_of_texts).prog 44) (kwd := []) K04.ob_eq
    K04.run (by kernel_rfl) (by kernel_rfl) (by kernel_rfl) (by rfl) (by first | assumption | decide +kernel) (by decide +kernel) ⟨rfl, rfl, rfl, rfl, rfl, by decide +kernel⟩ ?hw ?hc
  case hw => w_witness2
  case hc =>
    refine Z.walk_ofB (l := PySem.Challenge.rw_stillframe_k04_bounds_of_texts) (n := 63) (k := 9) (x := "script") (CX := fun w => L2.CX (PySem.Challenge.rw_stillframe_k04_bounds_of_texts).prog w) rfl (by decide) (by kernel_rfl) ⟨rfl, by decide, by decide⟩ ?F Z.cx_no
    intro w mg fa h Y G hmg0
    obtain ⟨K, KX, c, ci⟩ := Y
    have hmg : mg ("law" : PySem.Str) = some (.ref fa) := by
      have e : (HandSHeadRun.topDef (OpenLaw.row PySem.Challenge.rw_stillframe_k04_bounds_of_texts).prog 44).name = ("law" : PySem.Str) := by kernel_rfl
      rw [← e]
      exact hmg0
    have T : K04.TT K mg := Z.txtI_of KX G c ci
    have e := hmg.symm.trans (T.glo 95)
    cases e
    refine ⟨K, Z.fdOf K K04.at_law, Z.spM (K04.tx K) 1 K04.m_law, KX, ?_, fun H a ns hn hb _ hS => Z.law_sp rfl rfl hS (hl ns hn hb), fun base KB GB => K04.ok_law T⟩
    exact fun s v => L2.FunD.bindsA (ps := ["script"]) (K04.F_law T) (fun _ _ _ _ _ _ us hl => match us, hl with | [_], _ => rfl) s [v] rfl

theorem PySem.Challenge.cw_stillframe_k04_bounds_of_texts_holds : PySem.Challenge.rw_stillframe_k04_bounds_of_texts.Holds := by
  exact PySem.Challenge.holds_of_K04 K04.law_true
#print axioms PySem.Challenge.cw_stillframe_k04_bounds_of_texts_holds
