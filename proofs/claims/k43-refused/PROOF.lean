import PyProof.Rows.All
import Wide.All
import OpenK.AllK
import Wide.FinOn
import HandS.ForMost
import HandS.ForExc
import HandS.Wide
import HandS.Gcd
import HandS.IsInst
import HandS.CallSlots
import HandS.Text
import HandS.TupAny
import HandS.Deep
import HandS.WideBits
import HandS.Defaults
import HandS.Zip
import HandS.ExcIs
import HandS.TryOnly
import HandS.ExcField
import HandS.FStr
import HandS.MakeKw
import HandS.MakeKwOnly
import HandS.Words
import HandS.WordsExc
import HandS.Head0
import HandS.Head1
import HandS.Head2
import HandS.Head3
import HandS.HeadEnd
import HandS.HeadHook1
import HandS.HeadHook2
import KE.IntBitsLaws
import KE.KExcSuper
import KE.KSuper
import KE.KExcIs
import HandS.SetFor
import HandS.More
import HandS.TryMany
import HandS.HotCalls
import HandS.EndBits
import PySem.Challenge.RW_stillframe_k43_what_is_refused
set_option Elab.async false
set_option linter.all false
set_option maxRecDepth 100000
set_option maxHeartbeats 0
/-! Z: a plain reading of a Python text: values MV, a store of cells, the relation to what the hand layer tracks. -/
namespace Z
open PySem L2

/-- a value: inline data (never changed), or a cell of the store -/
inductive MV where
  | non | bl (b : Bool) | int (i : Int) | str (s : Str)
  | tup (xs : List MV) | lst (xs : List MV) | frz (xs : List MV) | ins (c : Nat) (xs : List MV)
  | ref (n : Nat) | fn (k : Nat) | exc
/-- what may change -/
inductive Cell where
  | lst (xs : List MV) | ins (c : Nat) (fs : List (Nat × MV)) | dct (kvs : List (MV × MV))
abbrev Sto := List Cell

/-! ### the names of fields, by number; the classes, by number -/
def fnames : List Str := ("at" : Str) :: ("what" : Str) :: ("num" : Str) :: ("den" : Str) :: ("joints" : Str) :: ("rods" : Str) :: ("holds" : Str) :: ("words" : Str) :: ("cursor" : Str) :: ("width" : Str) :: ("many" : Str) :: ("steps" : Str) :: ("loose" : Str) :: ("height" : Str) :: ("flips" : Str) :: ("rows" : Str) :: ("basis" : Str) :: ("costs" : Str) :: ("frame" : Str) :: ("axes" : Str) :: ("sides" : Str) :: ("bounded" : Str) :: ("bounds" : Str) :: ("loads" : Str) :: ("leads" : Str) :: ("size" : Str) :: ("pairs" : Str) :: ("squares" : Str) :: ("first" : Str) :: ("deeds" : Str) :: ("frames" : Str) :: ("later" : Str) :: ("watches" : Str) :: ("known" : Str) :: []
def fnm (i : Nat) : Str := fnames.getD i "?"
theorem fnames_nodup : fnames.Nodup := by decide +kernel
theorem fnm_inj {i j : Nat} (hi : i < 34) (hj : j < 34) (h : fnm i = fnm j) : i = j := by
  have li : i < fnames.length := hi
  have lj : j < fnames.length := hj
  unfold fnm at h
  rw [List.getD_eq_getElem?_getD, List.getD_eq_getElem?_getD, List.getElem?_eq_getElem li, List.getElem?_eq_getElem lj] at h
  exact (List.getElem_inj fnames_nodup).mp h
/-- the fields of each class, in the order in which they are stored -/
def fieldTab : List (Nat × List Nat) := [(1, [0]), (2, [1]), (3, [1]), (4, [1]), (5, [0]), (6, [1]), (8, [1]), (9, [1]), (10, [1]), (11, [1]), (12, [1]),
  (20, [2, 3]), (21, [4, 5, 6]), (22, [7, 0]), (23, [8, 4, 5, 6]), (24, [9, 10, 11, 12]), (25, [13, 9, 14, 15, 16, 3, 17]), (26, [18, 19, 20, 21, 9, 15, 22]), (27, [18, 23, 5, 19, 9, 15]),
  (28, [24]), (29, [25, 5]), (30, [25, 26]), (31, [25, 5]), (32, [27]), (33, [18, 28, 29, 30, 31, 32, 33])]
def fieldsOf (c : Nat) : List Nat := (fieldTab.lookup c).getD []
theorem fieldTab_lt : (fieldTab.all fun p => p.2.all fun f => decide (f < 34)) = true := by decide +kernel
theorem lookup_mem {α : Type} : ∀ {l : List (Nat × α)} {c : Nat} {x : α}, l.lookup c = some x → (c, x) ∈ l
  | (d, y) :: l, c, x, h => by
    rw [List.lookup_cons] at h
    split at h
    · rename_i e
      have e' : c = d := by simpa using e
      cases h; subst e'; exact List.mem_cons_self
    · exact List.mem_cons_of_mem _ (lookup_mem h)
theorem fieldsOf_lt {c f : Nat} (h : f ∈ fieldsOf c) : f < 34 := by
  unfold fieldsOf at h
  cases e : fieldTab.lookup c with
  | none => rw [e] at h; exact absurd h (by simp)
  | some l =>
    rw [e] at h
    have m := lookup_mem e
    have q := List.all_eq_true.mp fieldTab_lt _ m
    have q2 := List.all_eq_true.mp q f h
    simpa using q2
/-- a field of inline data: its place -/
def zipLook : List Nat → List MV → Nat → Option MV
  | i :: is, v :: vs, f => if i = f then some v else zipLook is vs f
  | _, _, _ => none
def putN (f : Nat) (v : MV) : List (Nat × MV) → List (Nat × MV)
  | [] => [(f, v)]
  | (g, w) :: r => if g = f then (g, v) :: r else (g, w) :: putN f v r
def lookN (f : Nat) : List (Nat × MV) → Option MV
  | [] => none
  | (g, w) :: r => if g = f then some w else lookN f r

/-! ### the relation -/
/-- the text's written part: where its classes and defs stand -/
structure Co where
  K : PySem.W.Frag
  cls : Nat → Addr
  has : Nat → Bool
  hasX : Nat → Bool
  fnA : Nat → Addr
/-- .. and the exception that is handled: its class, its fields, the class object, its dict -/
structure Tx extends Co where
  exc : Option (Nat × List (Nat × MV) × Value × Option Addr × Addr)

def FzT (K : PySem.W.Frag) (ρ : List Addr) (H : Hp) (a : Addr) (ys : List V) : Prop :=
  (a ∉ ρ ∧ Rd H a (.tup ys)) ∨ ∃ (o : Obj) (its : Array Value) (n : Nat), K.lookup a = some o ∧ o.cls = .type "tuple" ∧ o.data = .seq its n ∧ its.size ≤ sizeLine ∧ Vals ys its.toList
/-- a list that is locked, or of the written part: read, copied -/
def FzL (K : PySem.W.Frag) (ρ : List Addr) (H : Hp) (a : Addr) (ys : List V) : Prop :=
  (a ∉ ρ ∧ Rd H a (.lst ys)) ∨ ∃ (o : Obj) (its : Array Value) (n : Nat), K.lookup a = some o ∧ o.cls = .type "list" ∧ o.dict = none ∧ o.data = .seq its n ∧ its.size ≤ sizeLine ∧ Vals ys its.toList
theorem FzT.sq {K : PySem.W.Frag} {ρ : List Addr} {H : Hp} {a : Addr} {ys : List V} (h : FzT K ρ H a ys) : SqT K H a ys := h.imp (·.2) id
theorem FzL.sq {K : PySem.W.Frag} {ρ : List Addr} {H : Hp} {a : Addr} {ys : List V} (h : FzL K ρ H a ys) : SqL K H a ys := h.imp (·.2) id

mutual
def RV' (T : Co) (ρ : List Addr) (H : Hp) : MV → V → Prop
  | .non, v => v = .non
  | .bl b, v => v = .bl b
  | .int i, v => v = .int i
  | .str s, v => v = .str s
  | .tup xs, v => ∃ a ys, v = .ref a ∧ FzT T.K ρ H a ys ∧ RVs' T ρ H xs ys
  | .lst xs, v => ∃ a ys, v = .ref a ∧ a ∉ ρ ∧ H a = some (.lst ys) ∧ RVs' T ρ H xs ys
  | .frz xs, v => ∃ a ys, v = .ref a ∧ FzL T.K ρ H a ys ∧ RVs' T ρ H xs ys
  | .ins c xs, v => ∃ a dx vs, v = .ref a ∧ a ∉ ρ ∧ T.has c = true ∧ xs.length = (fieldsOf c).length ∧ H a = some (.ins (T.cls c) dx (((fieldsOf c).map fnm).zip vs)) ∧ RVs' T ρ H xs vs
  | .ref n, v => ∃ a, ρ[n]? = some a ∧ v = .ref a
  | .fn k, v => v = .ref (T.fnA k)
  | .exc, _ => False
def RVs' (T : Co) (ρ : List Addr) (H : Hp) : List MV → List V → Prop
  | [], vs => vs = []
  | x :: xs, vs => ∃ y ys, vs = y :: ys ∧ RV' T ρ H x y ∧ RVs' T ρ H xs ys
end
abbrev RV (T : Tx) := RV' T.toCo
abbrev RVs (T : Tx) := RVs' T.toCo

/-- a dict's key -/
def keyOf : MV → Option Key
  | .int i => some (.inl i)
  | .str s => some (.inr s)
  | _ => none
def keysOf : MV → Option (List Key)
  | .tup xs => xs.mapM keyOf
  | _ => none
def RD (T : Tx) (ρ : List Addr) (H : Hp) (kvs : List (MV × MV)) (o : HO) : Prop :=
  (∃ ys : List (Key × V), o = .dK ys ∧ kvs.map (fun p => keyOf p.1) = ys.map (fun p => some p.1) ∧ RVs T ρ H (kvs.map (·.2)) (ys.map (·.2))) ∨
  (∃ ys : List (List Key × V), o = .dT ys ∧ kvs.map (fun p => keysOf p.1) = ys.map (fun p => some p.1) ∧ RVs T ρ H (kvs.map (·.2)) (ys.map (·.2)))
def RC (T : Tx) (ρ : List Addr) (H : Hp) : Cell → Option HO → Prop
  | .lst xs, o => ∃ ys, o = some (.lst ys) ∧ RVs T ρ H xs ys
  | .ins c fs, o => ∃ dx vs, o = some (.ins (T.cls c) dx ((fs.map fun p => fnm p.1).zip vs)) ∧ T.has c = true ∧ (∀ p ∈ fs, p.1 ∈ fieldsOf c) ∧ fs.length ≤ 40 ∧ RVs T ρ H (fs.map (·.2)) vs
  | .dct kvs, o => ∃ u, o = some u ∧ RD T ρ H kvs u
/-- an exception -/
def RX (T : Tx) (ρ : List Addr) (H : Hp) (c : Nat) (fs : List (Nat × MV)) (cl : Value) (d : Option Addr) : Prop :=
  cl = .ref (T.cls c) ∧ T.hasX c = true ∧ (∀ p ∈ fs, p.1 < 34) ∧ ((fs = [] ∧ d = none) ∨ ∃ dd vs, d = some dd ∧ fs ≠ [] ∧ dd ∉ ρ ∧ H dd = some (.xd ((fs.map fun p => fnm p.1).zip vs)) ∧ RVs T ρ H (fs.map (·.2)) vs)
structure Sim (T : Tx) (ρ : List Addr) (st : Sto) (H : Hp) : Prop where
  len : ρ.length = st.length
  nd : ρ.Nodup
  exc : ∀ c fs cl d a, T.exc = some (c, fs, cl, d, a) → RX T ρ H c fs cl d
  cell : ∀ (i : Nat) (a : Addr) (c : Cell), ρ[i]? = some a → st[i]? = some c → RC T ρ H c (H a)
/-- what is still true later: cells have come, what is inline stays -/
structure Fut (T : Tx) (ρ : List Addr) (H : Hp) (ρ' : List Addr) (st' : Sto) (H' : Hp) : Prop where
  more : ∃ e, ρ' = ρ ++ e ∧ ∀ a ∈ e, H a = none
  sim : Sim T ρ' st' H'
  keep : ∀ a o, a ∉ ρ → H a = some o → H' a = some o

section
variable {T : Tx} {ρ ρ' ρ1 ρ2 : List Addr} {H H' H1 H2 : Hp} {st st' st1 st2 : Sto}
theorem RC.some {c : Cell} {o : Option HO} (h : RC T ρ H c o) : ∃ u, o = some u := by
  cases c with
  | lst xs => obtain ⟨ys, e, _⟩ := h; exact ⟨_, e⟩
  | ins c fs => obtain ⟨dx, vs, e, _⟩ := h; exact ⟨_, e⟩
  | dct kvs => obtain ⟨u, e, _⟩ := h; exact ⟨_, e⟩
theorem Sim.tracked (S : Sim T ρ st H) {a : Addr} (h : a ∈ ρ) : ∃ u, H a = some u := by
  obtain ⟨i, hi, e⟩ := List.mem_iff_getElem.mp h
  have e1 : ρ[i]? = some a := by rw [List.getElem?_eq_getElem hi, e]
  have hs : i < st.length := by rw [← S.len]; exact hi
  exact (S.cell i a st[i] e1 (List.getElem?_eq_getElem hs)).some
theorem Sim.at (S : Sim T ρ st H) {i : Nat} {c : Cell} (h : st[i]? = some c) : ∃ a, ρ[i]? = some a ∧ RC T ρ H c (H a) := by
  have hi : i < ρ.length := by rw [S.len]; exact (List.getElem?_eq_some_iff.mp h).1
  exact ⟨ρ[i], List.getElem?_eq_getElem hi, S.cell i _ c (List.getElem?_eq_getElem hi) h⟩
theorem Sim.inj (S : Sim T ρ st H) {i j : Nat} {a : Addr} (h : ρ[i]? = some a) (h' : ρ[j]? = some a) : i = j := by
  obtain ⟨hi, e⟩ := List.getElem?_eq_some_iff.mp h
  obtain ⟨hj, e'⟩ := List.getElem?_eq_some_iff.mp h'
  exact (List.getElem_inj S.nd).mp (e.trans e'.symm)
/-! ### later -/
/-- the part of Fut that values lean on -/
structure Lat (ρ : List Addr) (H : Hp) (ρ' : List Addr) (H' : Hp) : Prop where
  more : ∃ e, ρ' = ρ ++ e ∧ ∀ a ∈ e, H a = none
  keep : ∀ a o, a ∉ ρ → H a = some o → H' a = some o
theorem Fut.lat (F : Fut T ρ H ρ' st' H') : Lat ρ H ρ' H' := ⟨F.more, F.keep⟩
theorem Lat.refl : Lat ρ H ρ H := ⟨⟨[], by simp, by simp⟩, fun _ _ _ h => h⟩
theorem Lat.out (L : Lat ρ H ρ' H') {a : Addr} {o : HO} (n : a ∉ ρ) (h : H a = some o) : a ∉ ρ' ∧ H' a = some o := by
  obtain ⟨e, rfl, he⟩ := L.more
  refine ⟨fun m => ?_, L.keep a o n h⟩
  rcases List.mem_append.mp m with m | m
  · exact n m
  · rw [he a m] at h; cases h
theorem Lat.rd (L : Lat ρ H ρ' H') {a : Addr} {u : HO} (n : a ∉ ρ) (h : Rd H a u) : a ∉ ρ' ∧ Rd H' a u := by
  rcases h with h | ⟨o, h⟩
  · exact ⟨(L.out n h).1, .inl (L.out n h).2⟩
  · exact ⟨(L.out n h).1, .inr ⟨o, (L.out n h).2⟩⟩
theorem Lat.ix (L : Lat ρ H ρ' H') {i : Nat} {a : Addr} (h : ρ[i]? = some a) : ρ'[i]? = some a := by
  obtain ⟨e, rfl, _⟩ := L.more
  have hi := (List.getElem?_eq_some_iff.mp h).1
  rw [List.getElem?_append_left hi]; exact h
mutual
theorem RV.later (L : Lat ρ H ρ' H') : ∀ (m : MV) (v : V), RV T ρ H m v → RV T ρ' H' m v
  | .non, v, h => h
  | .bl _, v, h => h
  | .int _, v, h => h
  | .str _, v, h => h
  | .fn _, v, h => h
  | .exc, v, h => h
  | .tup xs, v, h => by
    obtain ⟨a, ys, e, z, r⟩ := h
    refine ⟨a, ys, e, ?_, RVs.later L xs ys r⟩
    rcases z with ⟨n, z⟩ | z
    · exact .inl (L.rd n z)
    · exact .inr z
  | .lst xs, v, h => by
    obtain ⟨a, ys, e, n, z, r⟩ := h
    exact ⟨a, ys, e, (L.out n z).1, (L.out n z).2, RVs.later L xs ys r⟩
  | .frz xs, v, h => by
    obtain ⟨a, ys, e, z, r⟩ := h
    refine ⟨a, ys, e, ?_, RVs.later L xs ys r⟩
    rcases z with ⟨n, z⟩ | z
    · exact .inl (L.rd n z)
    · exact .inr z
  | .ins c xs, v, h => by
    obtain ⟨a, dx, vs, e, n, hc, hl, z, r⟩ := h
    exact ⟨a, dx, vs, e, (L.out n z).1, hc, hl, (L.out n z).2, RVs.later L xs vs r⟩
  | .ref n, v, h => by
    obtain ⟨a, e, e2⟩ := h
    exact ⟨a, L.ix e, e2⟩
theorem RVs.later (L : Lat ρ H ρ' H') : ∀ (ms : List MV) (vs : List V), RVs T ρ H ms vs → RVs T ρ' H' ms vs
  | [], vs, h => h
  | x :: xs, vs, h => by
    obtain ⟨y, ys, e, h1, h2⟩ := h
    exact ⟨y, ys, e, RV.later L x y h1, RVs.later L xs ys h2⟩
end
theorem Lat.trans (a : Lat ρ H ρ1 H1) (b : Lat ρ1 H1 ρ2 H2) (S : ∀ x ∈ ρ, ∃ u, H1 x = some u) : Lat ρ H ρ2 H2 := by
  obtain ⟨e1, rfl, n1⟩ := a.more
  obtain ⟨e2, rfl, n2⟩ := b.more
  refine ⟨⟨e1 ++ e2, by rw [List.append_assoc], fun x hx => ?_⟩, fun x o n h => (b.out (a.out n h).1 (a.out n h).2).2⟩
  rcases List.mem_append.mp hx with hx | hx
  · exact n1 x hx
  · cases q : H x with
    | none => rfl
    | some o =>
      by_cases hr : x ∈ ρ
      · obtain ⟨u, hu⟩ := S x hr
        rw [n2 x hx] at hu; cases hu
      · have := (a.out hr q).2
        rw [n2 x hx] at this; cases this
theorem Fut.refl (S : Sim T ρ st H) : Fut T ρ H ρ st H := ⟨Lat.refl.more, S, Lat.refl.keep⟩
theorem Fut.sub (F : Fut T ρ H ρ' st' H') : ∀ x ∈ ρ, ∃ u, H' x = some u := fun x hx => by
  obtain ⟨e, rfl, _⟩ := F.more
  exact F.sim.tracked (List.mem_append_left _ hx)
theorem Fut.trans (a : Fut T ρ H ρ1 st1 H1) (b : Fut T ρ1 H1 ρ2 st2 H2) : Fut T ρ H ρ2 st2 H2 :=
  let L := a.lat.trans b.lat a.sub
  ⟨L.more, b.sim, L.keep⟩
theorem RVs.length : ∀ {ms : List MV} {vs : List V}, RVs T ρ H ms vs → ms.length = vs.length
  | [], vs, h => by subst h; rfl
  | x :: xs, vs, h => by
    obtain ⟨y, ys, rfl, _, h2⟩ := h
    rw [List.length_cons, List.length_cons, RVs.length h2]
theorem RVs.get : ∀ {ms : List MV} {vs : List V} {i : Nat} {m : MV}, RVs T ρ H ms vs → ms[i]? = some m → ∃ v, vs[i]? = some v ∧ RV T ρ H m v
  | [], vs, i, m, _, e => by simp at e
  | x :: xs, vs, 0, m, h, e => by
    obtain ⟨y, ys, rfl, h1, _⟩ := h
    simp at e; subst e
    exact ⟨y, rfl, h1⟩
  | x :: xs, vs, i + 1, m, h, e => by
    obtain ⟨y, ys, rfl, _, h2⟩ := h
    obtain ⟨v, q, r⟩ := RVs.get (i := i) h2 (by simpa using e)
    exact ⟨v, by simpa using q, r⟩
theorem RVs.getV : ∀ {ms : List MV} {vs : List V} {i : Nat} {v : V}, RVs T ρ H ms vs → vs[i]? = some v → ∃ m, ms[i]? = some m ∧ RV T ρ H m v := fun {ms vs i v} h e => by
  have hi : i < ms.length := by rw [h.length]; exact (List.getElem?_eq_some_iff.mp e).1
  obtain ⟨v', e', r⟩ := h.get (List.getElem?_eq_getElem hi)
  rw [e] at e'; cases e'
  exact ⟨_, List.getElem?_eq_getElem hi, r⟩
theorem RVs.append : ∀ {ms ns : List MV} {vs us : List V}, RVs T ρ H ms vs → RVs T ρ H ns us → RVs T ρ H (ms ++ ns) (vs ++ us)
  | [], ns, vs, us, h, h' => by cases h; exact h'
  | x :: xs, ns, vs, us, h, h' => by
    obtain ⟨y, ys, rfl, h1, h2⟩ := h
    exact ⟨y, ys ++ us, rfl, h1, RVs.append h2 h'⟩
theorem RVs.one {m : MV} {v : V} (h : RV T ρ H m v) : RVs T ρ H [m] [v] := ⟨v, [], rfl, h, rfl⟩
theorem RVs.set {m : MV} {v : V} (r : RV T ρ H m v) : ∀ {ms : List MV} {vs : List V} (i : Nat), RVs T ρ H ms vs → RVs T ρ H (ms.set i m) (vs.set i v)
  | [], vs, i, h => by cases h; exact rfl
  | x :: xs, vs, 0, h => by
    obtain ⟨y, ys, rfl, _, h2⟩ := h
    exact ⟨v, ys, rfl, r, h2⟩
  | x :: xs, vs, i + 1, h => by
    obtain ⟨y, ys, rfl, h1, h2⟩ := h
    exact ⟨y, ys.set i v, rfl, h1, RVs.set r i h2⟩
theorem RVs.drop : ∀ {ms : List MV} {vs : List V} (i : Nat), RVs T ρ H ms vs → RVs T ρ H (ms.drop i) (vs.drop i)
  | ms, vs, 0, h => h
  | [], vs, i + 1, h => by cases h; exact rfl
  | x :: xs, vs, i + 1, h => by
    obtain ⟨y, ys, rfl, h1, h2⟩ := h
    exact RVs.drop i h2
theorem RVs.take : ∀ {ms : List MV} {vs : List V} (i : Nat), RVs T ρ H ms vs → RVs T ρ H (ms.take i) (vs.take i)
  | ms, vs, 0, h => rfl
  | [], vs, i + 1, h => by cases h; exact rfl
  | x :: xs, vs, i + 1, h => by
    obtain ⟨y, ys, rfl, h1, h2⟩ := h
    exact ⟨y, ys.take i, rfl, h1, RVs.take i h2⟩
theorem RVs.erase : ∀ {ms : List MV} {vs : List V} (i : Nat), RVs T ρ H ms vs → RVs T ρ H (ms.eraseIdx i) (vs.eraseIdx i)
  | [], vs, i, h => by cases h; exact rfl
  | x :: xs, vs, 0, h => by
    obtain ⟨y, ys, rfl, h1, h2⟩ := h
    exact h2
  | x :: xs, vs, i + 1, h => by
    obtain ⟨y, ys, rfl, h1, h2⟩ := h
    exact ⟨y, ys.eraseIdx i, rfl, h1, RVs.erase i h2⟩
theorem RC.later (L : Lat ρ H ρ' H') : ∀ {c : Cell} {o : Option HO}, RC T ρ H c o → RC T ρ' H' c o
  | .lst xs, o, h => by obtain ⟨ys, e, r⟩ := h; exact ⟨ys, e, RVs.later L _ _ r⟩
  | .ins c fs, o, h => by obtain ⟨dx, vs, e, hc, hf, hz, r⟩ := h; exact ⟨dx, vs, e, hc, hf, hz, RVs.later L _ _ r⟩
  | .dct kvs, o, h => by
    obtain ⟨u, e, r⟩ := h
    refine ⟨u, e, ?_⟩
    rcases r with ⟨ys, e2, k, r⟩ | ⟨ys, e2, k, r⟩
    · exact .inl ⟨ys, e2, k, RVs.later L _ _ r⟩
    · exact .inr ⟨ys, e2, k, RVs.later L _ _ r⟩
theorem RX.later (L : Lat ρ H ρ' H') {c : Nat} {fs : List (Nat × MV)} {cl : Value} {d : Option Addr} (h : RX T ρ H c fs cl d) : RX T ρ' H' c fs cl d := by
  obtain ⟨h1, h2, h3, h4⟩ := h
  refine ⟨h1, h2, h3, ?_⟩
  rcases h4 with h4 | ⟨dd, vs, e, ne, n, z, r⟩
  · exact .inl h4
  · exact .inr ⟨dd, vs, e, ne, (L.out n z).1, (L.out n z).2, RVs.later L _ _ r⟩
/-! ### what may happen to the store -/
/-- a new object that is no cell -/
theorem Sim.fresh (S : Sim T ρ st H) {p : Addr} {o : HO} (hp : H p = none) : Fut T ρ H ρ st (upd H p o) := by
  have np : p ∉ ρ := fun h => by obtain ⟨u, e⟩ := S.tracked h; rw [hp] at e; cases e
  have L : Lat ρ H ρ (upd H p o) := ⟨Lat.refl.more, fun a u _ h => by rw [upd_ne (ne_of_none h hp)]; exact h⟩
  refine ⟨L.more, ⟨S.len, S.nd, fun c fs cl d a h => (S.exc c fs cl d a h).later L, fun i a c e1 e2 => ?_⟩, L.keep⟩
  have r := S.cell i a c e1 e2
  obtain ⟨u, hu⟩ := r.some
  rw [upd_ne (ne_of_none hu hp)]
  exact r.later L
theorem Sim.free (S : Sim T ρ st H) {p : Addr} (hp : H p = none) : p ∉ ρ := fun h => by obtain ⟨u, e⟩ := S.tracked h; rw [hp] at e; cases e
/-- a new cell -/
theorem Sim.push (S : Sim T ρ st H) {p : Addr} {o : HO} {c : Cell} (hp : H p = none) (r : ∀ ρ' H', Lat ρ H ρ' H' → RC T ρ' H' c (some o)) : Fut T ρ H (ρ ++ [p]) (st ++ [c]) (upd H p o) := by
  have np := S.free hp
  have L : Lat ρ H (ρ ++ [p]) (upd H p o) := ⟨⟨[p], rfl, fun a h => by rw [List.mem_singleton.mp h]; exact hp⟩, fun a u _ h => by rw [upd_ne (ne_of_none h hp)]; exact h⟩
  refine ⟨L.more, ⟨by simp [S.len], ?_, fun c fs cl d a h => (S.exc c fs cl d a h).later L, fun i a d e1 e2 => ?_⟩, L.keep⟩
  · rw [List.nodup_append]
    refine ⟨S.nd, by simp, fun a ha b hb => ?_⟩
    rw [List.mem_singleton.mp hb]
    exact fun e => np (e ▸ ha)
  · by_cases hi : i < st.length
    · rw [List.getElem?_append_left (by rw [S.len]; exact hi)] at e1
      rw [List.getElem?_append_left hi] at e2
      have q := S.cell i a d e1 e2
      obtain ⟨u, hu⟩ := q.some
      rw [upd_ne (ne_of_none hu hp)]
      exact q.later L
    · have hl := (List.getElem?_eq_some_iff.mp e2).1
      rw [List.length_append, List.length_singleton] at hl
      have ei : i = st.length := by omega
      subst ei
      rw [List.getElem?_append_right (Nat.le_refl _), Nat.sub_self] at e2
      rw [← S.len, List.getElem?_append_right (Nat.le_refl _), Nat.sub_self] at e1
      simp at e1 e2
      subst e1 e2
      rw [upd_same]
      exact r _ _ L
/-- a cell changed -/
theorem Sim.set (S : Sim T ρ st H) {i : Nat} {a : Addr} {o : HO} {c : Cell} (h : ρ[i]? = some a) (r : ∀ ρ' H', Lat ρ H ρ' H' → RC T ρ' H' c (some o)) : Fut T ρ H ρ (st.set i c) (upd H a o) := by
  have ma : a ∈ ρ := List.mem_of_getElem? h
  have L : Lat ρ H ρ (upd H a o) := ⟨Lat.refl.more, fun b u n e => by rw [upd_ne (fun z => n (by rw [z]; exact ma))]; exact e⟩
  refine ⟨L.more, ⟨by rw [List.length_set]; exact S.len, S.nd, fun c fs cl d a h => (S.exc c fs cl d a h).later L, fun j b d e1 e2 => ?_⟩, L.keep⟩
  by_cases hj : j = i
  · subst hj
    rw [h] at e1; cases e1
    have hl := (List.getElem?_eq_some_iff.mp e2).1
    rw [List.length_set] at hl
    rw [List.getElem?_set_self hl] at e2
    cases e2
    rw [upd_same]
    exact r _ _ L
  · rw [List.getElem?_set_ne (Ne.symm hj)] at e2
    have hb : b ≠ a := fun z => hj (S.inj e1 (z ▸ h))
    rw [upd_ne hb]
    exact (S.cell j b d e1 e2).later L
end
section
variable {T : Tx} {ρ ρ' : List Addr} {H H' : Hp}
theorem RV'.later {m : MV} {v : V} (h : RV' T.toCo ρ H m v) (L : Lat ρ H ρ' H') : RV T ρ' H' m v := RV.later (T := T) L m v h
theorem RVs'.later {ms : List MV} {vs : List V} (h : RVs' T.toCo ρ H ms vs) (L : Lat ρ H ρ' H') : RVs T ρ' H' ms vs := RVs.later (T := T) L ms vs h
theorem RVs'.length {ms : List MV} {vs : List V} (h : RVs' T.toCo ρ H ms vs) : ms.length = vs.length := RVs.length (T := T) h
theorem RVs'.get {ms : List MV} {vs : List V} {i : Nat} {m : MV} (h : RVs' T.toCo ρ H ms vs) (e : ms[i]? = some m) : ∃ v, vs[i]? = some v ∧ RV T ρ H m v := RVs.get (T := T) h e
theorem RVs'.append {ms ns : List MV} {vs us : List V} (h : RVs' T.toCo ρ H ms vs) (h' : RVs' T.toCo ρ H ns us) : RVs T ρ H (ms ++ ns) (vs ++ us) := RVs.append (T := T) h h'
theorem RVs'.set {ms : List MV} {vs : List V} {m : MV} {v : V} (h : RVs' T.toCo ρ H ms vs) (r : RV' T.toCo ρ H m v) (i : Nat) : RVs T ρ H (ms.set i m) (vs.set i v) := RVs.set (T := T) r i h
theorem RVs'.isEmpty {xs : List MV} {ys : List V} (r : RVs' T.toCo ρ H xs ys) : xs.isEmpty = ys.isEmpty := by
  have := RVs.length (T := T) r
  cases xs <;> cases ys <;> first | rfl | (simp at this)
end
end Z

namespace Z
open PySem L2

/-! ### the plain reading's own monad -/
inductive R (α : Type) where
  | ok (a : α) (s : Sto) | ex (c : Nat) (fs : List (Nat × MV)) (s : Sto) | bad
abbrev M (α : Type) := Sto → R α
def M.ret {α : Type} (a : α) : M α := fun s => .ok a s
def M.bnd {α β : Type} (m : M α) (f : α → M β) : M β := fun s => match m s with
  | .ok a t => f a t
  | .ex c fs t => .ex c fs t
  | .bad => .bad
def M.opt {α : Type} (o : Option α) : M α := fun s => match o with
  | some a => .ok a s
  | none => .bad
abbrev Ev := List (Option MV)
def REnv (T : Tx) (ρ : List Addr) (H : Hp) : Ev → St → Prop
  | [], σ => σ = []
  | none :: e, σ => ∃ o σ', σ = o :: σ' ∧ REnv T ρ H e σ'
  | some m :: e, σ => ∃ v σ', σ = some v :: σ' ∧ (RV T ρ H m v ∨ (m = .exc ∧ ∃ c fs cl d a, T.exc = some (c, fs, cl, d, a) ∧ v = .ref a)) ∧ REnv T ρ H e σ'
def Out {α β : Type} (T : Tx) (W : WX) (rel : List Addr → Hp → α → β → Prop) (ρ : List Addr) (H : Hp) (σ : St) (r : R α) (Q : β → Hp → Prop) : Prop :=
  match r with
  | .ok a s' => ∀ ρ' H' b, Fut T ρ H ρ' s' H' → rel ρ' H' a b → Q b H'
  | .ex c fs s' => ∀ ρ' H' cl d, Fut T ρ H ρ' s' H' → RX T ρ' H' c fs cl d → W cl d σ H'
  | .bad => False
def tG {α β : Type} (T : Tx) (W : WX) (rel : List Addr → Hp → α → β → Prop) (m : Ev → M α) : St → Hp → (β → Hp → Prop) → Prop := fun σ H Q =>
  ∃ ρ st env, Sim T ρ st H ∧ REnv T ρ H env σ ∧ Out T W rel ρ H σ (m env st) Q
abbrev tE (T : Tx) (W : WX) (m : Ev → M MV) : TE := tG T W (RV T) m
abbrev relB : List Addr → Hp → Bool → Bool → Prop := fun _ _ a b => a = b
abbrev tT (T : Tx) (W : WX) (m : Ev → M Bool) : TT := tG T W relB m
abbrev tA (T : Tx) (W : WX) (m : Ev → M (List MV)) : TA := tG T W (RVs T) m

section
variable {T : Tx} {W : WX} {ρ ρ' ρ1 : List Addr} {H H' H1 : Hp} {σ : St} {st s1 : Sto} {α β γ δ : Type}
theorem REnv.later (L : Lat ρ H ρ' H') : ∀ {e : Ev} {σ : St}, REnv T ρ H e σ → REnv T ρ' H' e σ
  | [], _, h => h
  | none :: e, _, h => by obtain ⟨o, σ', q, r⟩ := h; exact ⟨o, σ', q, REnv.later L r⟩
  | some m :: e, _, h => by obtain ⟨v, σ', q, r1, r⟩ := h; exact ⟨v, σ', q, r1.imp (fun z => z.later L) id, REnv.later L r⟩
theorem REnv.get : ∀ {e : Ev} {σ : St} {i : Nat} {m : MV}, REnv T ρ H e σ → e[i]? = some (some m) → ∃ v, σ[i]? = some (some v) ∧ (RV T ρ H m v ∨ (m = .exc ∧ ∃ c fs cl d a, T.exc = some (c, fs, cl, d, a) ∧ v = .ref a))
  | [], _, _, _, _, q => by simp at q
  | none :: e, _, 0, m, _, q => by simp at q
  | none :: e, _, i + 1, m, h, q => by
    obtain ⟨o, σ', rfl, r⟩ := h
    obtain ⟨v, q1, q2⟩ := REnv.get (i := i) r (by simpa using q)
    exact ⟨v, by simpa using q1, q2⟩
  | some m' :: e, _, 0, m, h, q => by
    obtain ⟨v, σ', rfl, r1, r⟩ := h
    simp at q; subst q
    exact ⟨v, rfl, r1⟩
  | some m' :: e, _, i + 1, m, h, q => by
    obtain ⟨v, σ', rfl, r1, r⟩ := h
    obtain ⟨v, q1, q2⟩ := REnv.get (i := i) r (by simpa using q)
    exact ⟨v, by simpa using q1, q2⟩
theorem REnv.set {m : MV} {v : V} (r : RV T ρ H m v) : ∀ {e : Ev} {σ : St} (i : Nat), REnv T ρ H e σ → REnv T ρ H (e.set i (some m)) (σ.set i (some v))
  | [], _, i, h => by cases h; exact rfl
  | none :: e, _, 0, h => by obtain ⟨o, σ', rfl, q⟩ := h; exact ⟨v, σ', rfl, .inl r, q⟩
  | none :: e, _, i + 1, h => by obtain ⟨o, σ', rfl, q⟩ := h; exact ⟨o, σ'.set i (some v), rfl, REnv.set r i q⟩
  | some m' :: e, _, 0, h => by obtain ⟨o, σ', rfl, _, q⟩ := h; exact ⟨v, σ', rfl, .inl r, q⟩
  | some m' :: e, _, i + 1, h => by obtain ⟨o, σ', rfl, r1, q⟩ := h; exact ⟨o, σ'.set i (some v), rfl, r1, REnv.set r i q⟩
theorem REnv.unset : ∀ {e : Ev} {σ : St} (i : Nat), REnv T ρ H e σ → REnv T ρ H (e.set i none) (σ.set i none)
  | [], _, i, h => by cases h; exact rfl
  | none :: e, _, 0, h => by obtain ⟨o, σ', rfl, q⟩ := h; exact ⟨none, σ', rfl, q⟩
  | none :: e, _, i + 1, h => by obtain ⟨o, σ', rfl, q⟩ := h; exact ⟨o, σ'.set i none, rfl, REnv.unset i q⟩
  | some m' :: e, _, 0, h => by obtain ⟨o, σ', rfl, _, q⟩ := h; exact ⟨none, σ', rfl, q⟩
  | some m' :: e, _, i + 1, h => by obtain ⟨o, σ', rfl, r1, q⟩ := h; exact ⟨o, σ'.set i none, rfl, r1, REnv.unset i q⟩
theorem REnv.start : ∀ {ms : List MV} {vs : List V}, RVs T ρ H ms vs → ∀ n : Nat, REnv T ρ H (ms.map some ++ List.replicate n none) (vs.map some ++ List.replicate n none)
  | [], vs, h, 0 => by cases h; exact rfl
  | [], vs, h, n + 1 => by cases h; exact ⟨none, _, rfl, REnv.start (ms := []) (vs := []) rfl n⟩
  | m :: ms, vs, h, n => by obtain ⟨y, ys, rfl, h1, h2⟩ := h; exact ⟨y, _, rfl, .inl h1, REnv.start h2 n⟩
theorem REnv.len : ∀ {e : Ev} {σ : St}, REnv T ρ H e σ → e.length = σ.length
  | [], _, h => by cases h; rfl
  | none :: e, _, h => by obtain ⟨o, σ', rfl, r⟩ := h; simp [REnv.len r]
  | some m :: e, _, h => by obtain ⟨o, σ', rfl, _, r⟩ := h; simp [REnv.len r]

theorem Out.imp {rel : List Addr → Hp → α → β → Prop} {r : R α} {Q Q' : β → Hp → Prop} (h : Out T W rel ρ H σ r Q) (q : ∀ b H', Q b H' → Q' b H') : Out T W rel ρ H σ r Q' := by
  cases r with
  | ok a s => exact fun ρ' H' b F r => q _ _ (h ρ' H' b F r)
  | ex c fs s => exact h
  | bad => exact h
theorem Out.fut {rel : List Addr → Hp → α → β → Prop} {r : R α} {Q : β → Hp → Prop} (F : Fut T ρ H ρ1 s1 H1) (h : Out T W rel ρ H σ r Q) : Out T W rel ρ1 H1 σ r Q := by
  cases r with
  | ok a s => exact fun ρ' H' b F' r => h ρ' H' b (F.trans F') r
  | ex c fs s => exact fun ρ' H' cl d F' r => h ρ' H' cl d (F.trans F') r
  | bad => exact h
theorem Out.bnd {rel : List Addr → Hp → α → β → Prop} {rel' : List Addr → Hp → γ → δ → Prop} {m : M α} {f : α → M γ} {Q : δ → Hp → Prop} (h : Out T W rel' ρ H σ (M.bnd m f st) Q) :
    Out T W rel ρ H σ (m st) (fun b H1 => ∃ ρ1 s1 a, Fut T ρ H ρ1 s1 H1 ∧ rel ρ1 H1 a b ∧ Out T W rel' ρ1 H1 σ (f a s1) Q) := by
  unfold M.bnd at h
  cases e : m st with
  | ok a t =>
    rw [e] at h
    exact fun ρ1 H1 b F r => ⟨ρ1, t, a, F, r, h.fut F⟩
  | ex c fs t =>
    rw [e] at h
    exact h
  | bad =>
    rw [e] at h
    exact h
theorem Out.now {rel : List Addr → Hp → α → β → Prop} {a : α} {b : β} {Q : β → Hp → Prop} (S : Sim T ρ st H) (h : Out T W rel ρ H σ (M.ret a st) Q) (r : rel ρ H a b) : Q b H := h ρ H b (Fut.refl S) r
/-- the state of a further step -/
theorem tG.step {rel : List Addr → Hp → α → β → Prop} {rel' : List Addr → Hp → γ → δ → Prop} {m : Ev → M α} {f : Ev → α → M γ} {Q : δ → Hp → Prop} (h : tG T W rel' (fun env => M.bnd (m env) (f env)) σ H Q) :
    tG T W rel m σ H (fun b H1 => ∃ ρ1 s1 env a, Sim T ρ1 s1 H1 ∧ REnv T ρ1 H1 env σ ∧ rel ρ1 H1 a b ∧ Out T W rel' ρ1 H1 σ (f env a s1) Q) := by
  obtain ⟨ρ, st, env, S, E, h⟩ := h
  exact ⟨ρ, st, env, S, E, h.bnd.imp fun b H1 ⟨ρ1, s1, a, F, r, q⟩ => ⟨ρ1, s1, env, a, F.sim, E.later F.lat, r, q⟩⟩
end

section
variable {X : Cx} {e : Expr} {st : Stmt} {sts : List Stmt}
theorem pe_mono {t t' : TE} (h : PE X e t) (q : ∀ σ H Q, t' σ H Q → t σ H Q) : PE X e t' := ⟨fun pins s σ H Q I z => h.run pins s σ H Q I (q σ H Q z)⟩
theorem pt_mono {t t' : TT} (h : PT X e t) (q : ∀ σ H Q, t' σ H Q → t σ H Q) : PT X e t' := ⟨fun pins s σ H Q I z => h.run pins s σ H Q I (q σ H Q z)⟩
theorem pw_mono {t t' : TT} (h : PW X e t) (q : ∀ σ H Q, t' σ H Q → t σ H Q) : PW X e t' := ⟨fun w pins s σ H Q I z => h.run w pins s σ H Q I (q σ H Q z)⟩
theorem pa_mono {es : List Expr} {t t' : TA} (h : PA X es t) (q : ∀ σ H Q, t' σ H Q → t σ H Q) : PA X es t' := ⟨fun pos pins s σ H Q I z => h.run pos pins s σ H Q I (q σ H Q z)⟩
theorem ps_mono {t t' : TS} (h : PS X st t) (q : ∀ D σ H, t' D σ H → t D σ H) : PS X st t' := ⟨fun pins s σ H D I z => h.run pins s σ H D I (q D σ H z)⟩
theorem pss_mono {t t' : TS} (h : PSs X sts t) (q : ∀ D σ H, t' D σ H → t D σ H) : PSs X sts t' := ⟨fun pins s σ H D I z => h.run pins s σ H D I (q D σ H z)⟩
end

/-! ### names, constants -/
def mVar (i : Nat) : Ev → M MV := fun env s => match env.getD i none with
  | some .exc => .bad
  | some v => .ok v s
  | none => .bad
def mC (v : MV) : Ev → M MV := fun _ => M.ret v
section
variable {X : Cx} {T : Tx} {W : WX} {ma mb mc : Ev → M MV} {a b c : Expr} {pos : Pos}
theorem v_var (i : Nat) {x : Str} (hN : X.N[i]? = some x := by rfl) (hv : Vis X.env.scope x := by first | exact Or.inl rfl | exact Or.inr (Or.inl rfl) | exact Or.inr (Or.inr rfl)) (hd : (x == ("__debug__" : Str)) = false := by decide)
    (hcd : (x == ("__classdict__" : Str)) = false := by decide) : PE X (.Name x pos) (tE T W (mVar i)) := by
  refine pe_mono (pv i hN hv hd hcd) fun σ H Q h => ?_
  obtain ⟨ρ, st, env, S, E, h⟩ := h
  unfold mVar at h
  cases e : env.getD i none with
  | none => simp only [e] at h; exact h.elim
  | some m =>
    simp only [e] at h
    have e' : env[i]? = some (some m) := by
      rw [List.getD_eq_getElem?_getD] at e
      cases q : env[i]? with
      | none => rw [q] at e; cases e
      | some o => rw [q] at e; simp at e; rw [e]
    obtain ⟨v, q, r⟩ := E.get e'
    rcases r with r | ⟨rfl, _⟩
    · cases m with
      | exc => exact r.elim
      | _ => exact ⟨v, q, h ρ H v (Fut.refl S) r⟩
    · exact h.elim
theorem v_c {v : MV} {w : V} (h : PE X a (tC w)) (r : ∀ ρ H, RV T ρ H v w) : PE X a (tE T W (mC v)) := by
  refine pe_mono h fun σ H Q h => ?_
  obtain ⟨ρ, st, env, S, E, h⟩ := h
  exact h ρ H w (Fut.refl S) (r _ _)
theorem v_int {i : Int} {j : Nat} : PE X (.Constant (.int i) j pos) (tE T W (mC (.int i))) := v_c pe_int fun _ _ => rfl
theorem v_bl {i : Bool} {j : Nat} : PE X (.Constant (.bool i) j pos) (tE T W (mC (.bl i))) := v_c pe_bl fun _ _ => rfl
theorem v_non {j : Nat} : PE X (.Constant .none j pos) (tE T W (mC .non)) := v_c pe_non fun _ _ => rfl
theorem v_str {i : Str} {j : Nat} : PE X (.Constant (.str i) j pos) (tE T W (mC (.str i))) := v_c pe_str fun _ _ => rfl

/-! ### operators on values: f reads the store, makes inline data -/
def mBin (f : Sto → MV → MV → Option MV) (ma mb : Ev → M MV) : Ev → M MV := fun env => M.bnd (ma env) fun x => M.bnd (mb env) fun y s => M.opt (f s x y) s
def mUn (f : Sto → MV → Option MV) (ma : Ev → M MV) : Ev → M MV := fun env => M.bnd (ma env) fun x s => M.opt (f s x) s
/-- what an operator on values is asked -/
def rB (T : Tx) (f : Sto → MV → MV → Option MV) : R2 := fun x y H Q => ∃ ρ st a b v, Sim T ρ st H ∧ RV T ρ H a x ∧ RV T ρ H b y ∧ f st a b = some v ∧ ∀ H' u, Fut T ρ H ρ st H' → RV T ρ H' v u → Q u H'
def rU1 (T : Tx) (f : Sto → MV → Option MV) : V → Hp → VK → Prop := fun x H Q => ∃ ρ st a v, Sim T ρ st H ∧ RV T ρ H a x ∧ f st a = some v ∧ ∀ H' u, Fut T ρ H ρ st H' → RV T ρ H' v u → Q u H'
theorem opt_out {α β : Type} {rel : List Addr → Hp → α → β → Prop} {ρ : List Addr} {H : Hp} {σ : St} {o : Option α} {st : Sto} {Q : β → Hp → Prop} (h : Out T W rel ρ H σ (M.opt o st) Q) : ∃ a, o = some a ∧ ∀ ρ' H' b, Fut T ρ H ρ' st H' → rel ρ' H' a b → Q b H' := by
  unfold M.opt at h
  cases o with
  | none => exact h.elim
  | some a => exact ⟨a, rfl, h⟩
theorem bin_red {f : Sto → MV → MV → Option MV} {σ : St} {H : Hp} {Q : VK} (h : tE T W (mBin f ma mb) σ H Q) : tOp (rB T f) (tE T W ma) (tE T W mb) σ H Q := by
  obtain ⟨ρ, st, env, S, E, h⟩ := h
  refine ⟨ρ, st, env, S, E, h.bnd.imp fun x H1 ⟨ρ1, s1, a, F1, r1, q1⟩ => ?_⟩
  refine ⟨ρ1, s1, env, F1.sim, E.later F1.lat, (Out.bnd q1).imp fun y H2 ⟨ρ2, s2, b, F2, r2, q2⟩ => ?_⟩
  obtain ⟨v, e, q3⟩ := opt_out q2
  exact ⟨ρ2, s2, a, b, v, F2.sim, r1.later F2.lat, r2, e, fun H' u F r => q3 ρ2 H' u F r⟩
theorem v_bin {op : Operator} {f : Sto → MV → MV → Option MV} (ho : OpR X (binaryOp op) (rB T f)) (ha : PE X a (tE T W ma)) (hb : PE X b (tE T W mb)) : PE X (.BinOp a op b pos) (tE T W (mBin f ma mb)) :=
  pe_mono (pe_op ho ha hb) fun σ H Q h => bin_red h
theorem v_un {op : UnaryOp} {f : Sto → MV → Option MV} (ho : UnR X (unaryOp op) (rU1 T f)) (ha : PE X a (tE T W ma)) : PE X (.UnaryOp op a pos) (tE T W (mUn f ma)) := by
  refine pe_mono (pe_un ho ha) fun σ H Q h => ?_
  obtain ⟨ρ, st, env, S, E, h⟩ := h
  refine ⟨ρ, st, env, S, E, h.bnd.imp fun x H1 ⟨ρ1, s1, a, F1, r1, q1⟩ => ?_⟩
  obtain ⟨v, e, q3⟩ := opt_out q1
  exact ⟨ρ1, s1, a, v, F1.sim, r1, e, fun H' u F r => q3 ρ1 H' u F r⟩
end

/-- the items of a list that stands inline or in a cell -/
def listOf (s : Sto) : MV → Option (List MV)
  | .lst xs => some xs
  | .ref n => match s[n]? with
    | some (.lst xs) => some xs
    | _ => none
  | _ => none
/-- .. of a list, a locked list, a tuple -/
def seqOf (s : Sto) : MV → Option (List MV)
  | .tup xs => some xs
  | .frz xs => some xs
  | .lst xs => some xs
  | .ref n => match s[n]? with
    | some (.lst xs) => some xs
    | _ => none
  | _ => none
section
variable {T : Tx} {ρ : List Addr} {H : Hp} {st : Sto} {m : MV} {v : V} {xs : List MV}
theorem list_of (S : Sim T ρ st H) (r : RV T ρ H m v) (h : listOf st m = some xs) : ∃ a ys, v = .ref a ∧ H a = some (.lst ys) ∧ RVs T ρ H xs ys := by
  cases m with
  | lst zs =>
    cases h
    obtain ⟨a, ys, e, _, e2, r⟩ := r
    exact ⟨a, ys, e, e2, r⟩
  | ref n =>
    obtain ⟨a, e, rfl⟩ := r
    unfold listOf at h
    cases q : st[n]? with
    | none => simp only [q] at h; cases h
    | some c =>
      cases c with
      | lst zs =>
        simp only [q] at h; cases h
        obtain ⟨ys, e2, r⟩ := S.cell n a _ e q
        exact ⟨a, ys, rfl, e2, r⟩
      | ins c fs => simp only [q] at h; cases h
      | dct kvs => simp only [q] at h; cases h
  | _ => cases h
theorem seq_of (S : Sim T ρ st H) (r : RV T ρ H m v) (h : seqOf st m = some xs) : ∃ a ys, v = .ref a ∧ (SqL T.K H a ys ∨ SqT T.K H a ys) ∧ RVs T ρ H xs ys := by
  cases m with
  | tup zs =>
    cases h
    obtain ⟨a, ys, e, z, r⟩ := r
    exact ⟨a, ys, e, .inr z.sq, r⟩
  | frz zs =>
    cases h
    obtain ⟨a, ys, e, z, r⟩ := r
    exact ⟨a, ys, e, .inl z.sq, r⟩
  | lst zs =>
    obtain ⟨a, ys, e, z, q⟩ := list_of S r h
    exact ⟨a, ys, e, .inl (SqL.of z), q⟩
  | ref n =>
    obtain ⟨a, ys, e, z, q⟩ := list_of S r h
    exact ⟨a, ys, e, .inl (SqL.of z), q⟩
  | _ => cases h
end

end Z

namespace Z
open PySem L2

/-! ### arithmetic -/
def line : Nat := 100000
theorem line_le {n : Nat} (h : n ≤ line) : n ≤ sizeLine := Nat.le_trans h (by decide)
theorem line_lt {n : Nat} (h : n < line) : n < sizeLine := Nat.lt_of_lt_of_le h (by decide)
def catOf (s : Sto) (x y : MV) : Option MV := match listOf s x, listOf s y with
  | some xs, some ys => if xs.length + ys.length ≤ line then some (.lst (xs ++ ys)) else none
  | _, _ => none
def bAdd (s : Sto) : MV → MV → Option MV
  | .int i, .int j => some (.int (i + j))
  | .str a, .str b => if a.length + b.length ≤ line then some (.str (a ++ b)) else none
  | .tup xs, .tup ys => if xs = [] ∨ line < xs.length + ys.length then none else some (.tup (xs ++ ys))
  | .lst xs, y => catOf s (.lst xs) y
  | .ref n, y => catOf s (.ref n) y
  | _, _ => none
def bSub (_ : Sto) : MV → MV → Option MV
  | .int i, .int j => some (.int (i - j))
  | _, _ => none
def CMulV (i j : Int) : Prop := i.natAbs.log2 + j.natAbs.log2 < 100000000
theorem CMulV.ok {i j : Int} (h : CMulV i j) : IntMulOk i j := by
  have b : ∀ x : Int, Builtin.Int.intBits x ≤ x.natAbs.log2 + 1 := fun x => by
    unfold Builtin.Int.intBits
    split <;> omega
  have h1 := b i
  have h2 := b j
  have h3 : i.natAbs.log2 + j.natAbs.log2 < 100000000 := h
  have e : bitsLine = 134217728 := by decide
  unfold IntMulOk
  intro z
  rw [Bool.and_eq_true] at z
  have z2 := z.2
  unfold Builtin.Int.intTooBig at z2
  have z3 := of_decide_eq_true z2
  rw [e] at z3
  omega
open PySem.Spec PyProof.Rows in
theorem op_mulV {X : Cx} : OpR X (binaryOp .Mult) (rI CMulV fun i j => .int (i * j)) := opI fun _ _ _ _ _ _ _ hc q => mul_int q hc.ok
def mulOk (i j : Int) : Bool := decide (i.natAbs.log2 + j.natAbs.log2 < 100000000)
def repOf (s : Sto) (x : MV) (k : Int) : Option MV := match listOf s x with
  | some xs => if 0 ≤ k ∧ k < 2 ^ 62 ∧ xs.length * k.toNat ≤ line then some (.lst (List.replicate k.toNat xs).flatten) else none
  | none => none
def bMul (s : Sto) : MV → MV → Option MV
  | .int i, .int j => if mulOk i j then some (.int (i * j)) else none
  | .lst xs, .int k => repOf s (.lst xs) k
  | .ref n, .int k => repOf s (.ref n) k
  | _, _ => none
def divOk (j : Int) : Bool := decide (0 < j ∧ j.natAbs.log2 < 9000)
def bDiv (_ : Sto) : MV → MV → Option MV
  | .int i, .int j => if divOk j then some (.int (i / j)) else if j < 0 ∧ -1073741824 < j then some (.int (i.fdiv j)) else none
  | _, _ => none
def bMod (_ : Sto) : MV → MV → Option MV
  | .int i, .int j => if 0 < j then some (.int (i % j)) else if j < 0 then some (.int (i.fmod j)) else none
  | _, _ => none
def bPow (_ : Sto) : MV → MV → Option MV
  | .int i, .int j => if 0 ≤ j ∧ j ≤ 100000 ∧ i.natAbs < 2 ^ 64 then some (.int (i ^ j.toNat)) else none
  | _, _ => none
def uNeg (_ : Sto) : MV → Option MV
  | .int i => some (.int (-i))
  | _ => none
section
variable {X : Cx} {T : Tx}
theorem rB_now {f : Sto → MV → MV → Option MV} {x y : V} {H : Hp} {Q : VK} {ρ : List Addr} {st : Sto} {v : MV} {u : V} (S : Sim T ρ st H) (q : ∀ H' u, Fut T ρ H ρ st H' → RV T ρ H' v u → Q u H') (r : RV T ρ H v u) : Q u H := q H u (Fut.refl S) r
theorem q_new {ρ : List Addr} {st : Sto} {H : Hp} {v : MV} {Q : VK} {o : HO} (S : Sim T ρ st H) (q : ∀ H' u, Fut T ρ H ρ st H' → RV T ρ H' v u → Q u H') (r : ∀ p H', p ∉ ρ → H' p = some o → Lat ρ H ρ H' → RV T ρ H' v (.ref p)) : ∀ p, H p = none → Q (.ref p) (upd H p o) := fun p hp =>
  let F := S.fresh (o := o) hp
  q _ _ F (r p _ (S.free hp) upd_same F.lat)
theorem cat_ok {pins : List (Addr × Obj)} {s : Shared} {σ : St} {H : Hp} {x y : V} {v u : Value} {Q : VK} {ρ : List Addr} {st : Sto} {a b w : MV} (I : Inv X pins σ H s) (rx : RelV x v) (ry : RelV y u) (S : Sim T ρ st H) (ra : RV T ρ H a x) (rb : RV T ρ H b y)
    (e : catOf st a b = some w) (q : ∀ H' u, Fut T ρ H ρ st H' → RV T ρ H' w u → Q u H') : wpAny (model X.prog X.w) X.A (binaryOp .Add v u) (EP X pins σ Q) X.xe s := by
  unfold catOf at e
  split at e
  · rename_i xs ys h1 h2
    split at e
    · rename_i hl
      cases e
      obtain ⟨p1, vs, rfl, e1, r1⟩ := list_of S ra h1
      obtain ⟨p2, us, rfl, e2, r2⟩ := list_of S rb h2
      exact op_cat pins s σ H _ _ v u Q I rx ry ⟨p1, p2, vs, us, rfl, rfl, e1, e2, by rw [← r1.length, ← r2.length]; exact line_le hl, q_new S q fun p H' n hp L => ⟨p, _, rfl, n, hp, (r1.append r2).later L⟩⟩
    · cases e
  · cases e
theorem ob_add (hK : T.K = X.K) : OpR X (binaryOp .Add) (rB T bAdd) := by
  intro pins s σ H x y v u Q I rx ry ⟨ρ, st, a, b, w, S, ra, rb, e, q⟩
  unfold bAdd at e
  split at e
  · cases e
    exact op_add pins s σ H x y v u Q I rx ry ⟨_, _, ra, rb, rB_now (f := bAdd) (x := x) (y := y) S q rfl⟩
  · split at e
    · rename_i hl
      cases e
      exact op_add_str pins s σ H x y v u Q I rx ry ⟨_, _, ra, rb, line_le hl, rB_now (f := bAdd) (x := x) (y := y) S q rfl⟩
    · cases e
  · rename_i xs ys
    split at e
    · cases e
    · rename_i hn
      cases e
      obtain ⟨p1, vs, rfl, z1, r1⟩ := ra
      obtain ⟨p2, us, rfl, z2, r2⟩ := rb
      have l1 := r1.length
      have l2 := r2.length
      have hx : xs ≠ [] := fun z => hn (.inl z)
      have hv : vs ≠ [] := fun z => by rw [z] at l1; exact hx (List.length_eq_zero_iff.mp l1)
      refine op_catT pins s σ H _ _ v u Q I rx ry ⟨p1, p2, vs, us, rfl, rfl, hK ▸ z1.sq, hK ▸ z2.sq, hv, ?_, fun e => ?_, fun _ => ?_⟩
      · rw [← l1, ← l2]; exact line_le (by have := fun z => hn (.inr z); omega)
      · subst e
        have e2 : ys = [] := List.length_eq_zero_iff.mp l2
        subst e2
        rw [List.append_nil] at q
        exact q H _ (Fut.refl S) ⟨p1, vs, rfl, z1, r1⟩
      · exact q_new S q fun p H' n hp L => ⟨p, _, rfl, .inl ⟨n, .inl hp⟩, (r1.append r2).later L⟩
  · exact cat_ok I rx ry S ra rb e q
  · exact cat_ok I rx ry S ra rb e q
  · cases e
theorem ob_sub : OpR X (binaryOp .Sub) (rB T bSub) := by
  intro pins s σ H x y v u Q I rx ry ⟨ρ, st, a, b, w, S, ra, rb, e, q⟩
  unfold bSub at e
  split at e
  · cases e
    exact op_sub pins s σ H x y v u Q I rx ry ⟨_, _, ra, rb, rB_now (f := bSub) (x := x) (y := y) S q rfl⟩
  · cases e
theorem rep_ok {pins : List (Addr × Obj)} {s : Shared} {σ : St} {H : Hp} {x y : V} {v u : Value} {Q : VK} {ρ : List Addr} {st : Sto} {a w : MV} {k : Int} (I : Inv X pins σ H s) (rx : RelV x v) (ry : RelV y u) (S : Sim T ρ st H) (ra : RV T ρ H a x) (rb : RV T ρ H (.int k) y)
    (e : repOf st a k = some w) (q : ∀ H' u, Fut T ρ H ρ st H' → RV T ρ H' w u → Q u H') : wpAny (model X.prog X.w) X.A (binaryOp .Mult v u) (EP X pins σ Q) X.xe s := by
  unfold repOf at e
  split at e
  · rename_i xs h1
    split at e
    · rename_i hl
      cases e
      obtain ⟨p1, vs, rfl, e1, r1⟩ := list_of S ra h1
      refine op_rep pins s σ H _ _ v u Q I rx ry ⟨p1, k, vs, rfl, rb, e1, by omega, by omega, by rw [← r1.length]; exact line_le hl.2.2, q_new S q fun p H' n hp L => ⟨p, _, rfl, n, hp, ?_⟩⟩
      have r2 := r1.later L
      have go : ∀ n : Nat, RVs T ρ H' (List.replicate n xs).flatten (List.replicate n vs).flatten := fun n => by
        induction n with
        | zero => exact rfl
        | succ n ih => rw [List.replicate_succ, List.replicate_succ, List.flatten_cons, List.flatten_cons]; exact r2.append ih
      exact go _
    · cases e
  · cases e
theorem ob_mul : OpR X (binaryOp .Mult) (rB T bMul) := by
  intro pins s σ H x y v u Q I rx ry ⟨ρ, st, a, b, w, S, ra, rb, e, q⟩
  unfold bMul at e
  split at e
  · split at e
    · rename_i hl
      cases e
      exact op_mulV pins s σ H x y v u Q I rx ry ⟨_, _, ra, rb, (by unfold CMulV; exact of_decide_eq_true hl), rB_now (f := bMul) (x := x) (y := y) S q rfl⟩
    · cases e
  · exact rep_ok I rx ry S ra rb e q
  · exact rep_ok I rx ry S ra rb e q
  · cases e
theorem ob_div : OpR X (binaryOp .FloorDiv) (rB T bDiv) := by
  intro pins s σ H x y v u Q I rx ry ⟨ρ, st, a, b, w, S, ra, rb, e, q⟩
  unfold bDiv at e
  split at e
  · split at e
    · rename_i hl
      cases e
      exact op_fdivW pins s σ H x y v u Q I rx ry ⟨_, _, ra, rb, (by unfold CDivW; exact of_decide_eq_true hl), rB_now (f := bDiv) (x := x) (y := y) S q rfl⟩
    · split at e
      · rename_i hl
        cases e
        exact op_fdivN pins s σ H x y v u Q I rx ry ⟨_, _, ra, rb, by unfold CDivN; omega, rB_now (f := bDiv) (x := x) (y := y) S q rfl⟩
      · cases e
  · cases e
theorem ob_mod : OpR X (binaryOp .Mod) (rB T bMod) := by
  intro pins s σ H x y v u Q I rx ry ⟨ρ, st, a, b, w, S, ra, rb, e, q⟩
  unfold bMod at e
  split at e
  · split at e
    · rename_i hl
      cases e
      exact op_mod pins s σ H x y v u Q I rx ry ⟨_, _, ra, rb, hl, rB_now (f := bMod) (x := x) (y := y) S q rfl⟩
    · split at e
      · rename_i hl
        cases e
        exact op_modN pins s σ H x y v u Q I rx ry ⟨_, _, ra, rb, by omega, rB_now (f := bMod) (x := x) (y := y) S q rfl⟩
      · cases e
  · cases e
theorem ob_pow : OpR X (binaryOp .Pow) (rB T bPow) := by
  intro pins s σ H x y v u Q I rx ry ⟨ρ, st, a, b, w, S, ra, rb, e, q⟩
  unfold bPow at e
  split at e
  · split at e
    · rename_i hl
      cases e
      exact op_pow pins s σ H x y v u Q I rx ry ⟨_, _, ra, rb, ⟨hl.1, by omega, hl.2.2⟩, rB_now (f := bPow) (x := x) (y := y) S q rfl⟩
    · cases e
  · cases e
theorem ou_neg : UnR X (unaryOp .USub) (rU1 T uNeg) := by
  intro pins s σ H x v Q I rx ⟨ρ, st, a, w, S, ra, e, q⟩
  unfold uNeg at e
  split at e
  · cases e
    exact un_neg pins s σ H x v Q I rx ⟨_, ra, q H _ (Fut.refl S) rfl⟩
  · cases e
end

/-! ### comparisons -/
def mCmp (f : Sto → MV → MV → Option Bool) (ma mb : Ev → M MV) : Ev → M Bool := fun env => M.bnd (ma env) fun x => M.bnd (mb env) fun y s => M.opt (f s x y) s
def mV (m : Ev → M Bool) : Ev → M MV := fun env => M.bnd (m env) fun b => M.ret (.bl b)
def rP (T : Tx) (f : Sto → MV → MV → Option Bool) : R2 := fun x y H Q => ∃ ρ st a b k, Sim T ρ st H ∧ RV T ρ H a x ∧ RV T ρ H b y ∧ f st a b = some k ∧ Q (.bl k) H
section
variable {X : Cx} {T : Tx} {W : WX} {ma mb mc : Ev → M MV} {m m' : Ev → M Bool} {a b c : Expr} {pos : Pos} {f g : Sto → MV → MV → Option Bool}
theorem t_cmp {op : CmpOp} (ho : OpR X (compareOp op) (rP T f)) (ha : PE X a (tE T W ma)) (hb : PE X b (tE T W mb)) (hm : behindInMarks op b = false) : PT X (.Compare a [op] [b] pos) (tT T W (mCmp f ma mb)) :=
  pt_mono (pt_cmpR ho ha hb hm) fun σ H Q h => by
    obtain ⟨ρ, st, env, S, E, h⟩ := h
    refine ⟨ρ, st, env, S, E, h.bnd.imp fun x H1 ⟨ρ1, s1, a, F1, r1, q1⟩ => ?_⟩
    refine ⟨ρ1, s1, env, F1.sim, E.later F1.lat, (Out.bnd q1).imp fun y H2 ⟨ρ2, s2, b, F2, r2, q2⟩ => ?_⟩
    obtain ⟨v, e, q3⟩ := opt_out q2
    exact ⟨ρ2, s2, a, b, v, F2.sim, r1.later F2.lat, r2, e, v, rfl, q3 ρ2 H2 v (Fut.refl F2.sim) rfl⟩
theorem v_cmp {op : CmpOp} (ho : OpR X (compareOp op) (rP T f)) (ha : PE X a (tE T W ma)) (hb : PE X b (tE T W mb)) (hm : behindInMarks op b = false) : PE X (.Compare a [op] [b] pos) (tE T W (mV (mCmp f ma mb))) :=
  pe_mono (pe_cmpR ho ha hb hm) fun σ H Q h => by
    obtain ⟨ρ, st, env, S, E, h⟩ := h
    have h1 := (Out.bnd (rel := relB) h)
    refine ⟨ρ, st, env, S, E, (Out.bnd h1).imp fun x H1 ⟨ρ1, s1, a, F1, r1, q1⟩ => ?_⟩
    refine ⟨ρ1, s1, env, F1.sim, E.later F1.lat, (Out.bnd q1).imp fun y H2 ⟨ρ2, s2, b, F2, r2, q2⟩ => ?_⟩
    obtain ⟨v, e, q3⟩ := opt_out q2
    obtain ⟨ρ3, s3, k, F3, rfl, q4⟩ := q3 ρ2 H2 v (Fut.refl F2.sim) rfl
    exact ⟨ρ2, s2, a, b, k, F2.sim, r1.later F2.lat, r2, e, q4 ρ3 H2 _ (Fut.refl F3.sim) rfl⟩
/-- a test as a value -/
theorem v_of_bl {e : Expr} {t : TE} (h : PE X e t) (q : ∀ σ H Q, tT T W m σ H (fun b H' => Q (.bl b) H') → t σ H Q) : PE X e (tE T W (mV m)) := pe_mono h fun σ H Q h => by
  refine q σ H Q ?_
  obtain ⟨ρ, st, env, S, E, h⟩ := h
  refine ⟨ρ, st, env, S, E, (Out.bnd (rel := relB) h).imp fun b H1 ⟨ρ1, s1, k, F1, e, q1⟩ => ?_⟩
  subst e
  exact q1 ρ1 H1 _ (Fut.refl F1.sim) rfl
/-! a op1 b op2 c -/
def mChain (f g : Sto → MV → MV → Option Bool) (ma mb mc : Ev → M MV) : Ev → M Bool := fun env => M.bnd (ma env) fun x => M.bnd (mb env) fun y => M.bnd (fun s => M.opt (f s x y) s) fun k =>
  if k = true then M.bnd (mc env) fun z s => M.opt (g s y z) s else M.ret false
theorem chain_red {σ : St} {H : Hp} {Q : Bool → Hp → Prop} (h : tT T W (mChain f g ma mb mc) σ H Q) : tTest (tChain (rP T f) (rP T g) (tE T W ma) (tE T W mb) (tE T W mc)) σ H Q := by
  obtain ⟨ρ, st, env, S, E, h⟩ := h
  refine ⟨ρ, st, env, S, E, h.bnd.imp fun x H1 ⟨ρ1, s1, a, F1, r1, q1⟩ => ?_⟩
  refine ⟨ρ1, s1, env, F1.sim, E.later F1.lat, (Out.bnd q1).imp fun y H2 ⟨ρ2, s2, b, F2, r2, q2⟩ => ?_⟩
  obtain ⟨k, e, q3⟩ := opt_out (Out.bnd (rel := relB) q2)
  refine ⟨ρ2, s2, a, b, k, F2.sim, r1.later F2.lat, r2, e, k, rfl, ?_⟩
  obtain ⟨ρ3, s3, k', F3, rfl, q4⟩ := q3 ρ2 H2 k (Fut.refl F2.sim) rfl
  cases k' with
  | false =>
    rw [if_neg (by decide)] at q4
    rw [if_neg (by decide)]
    exact ⟨false, rfl, q4 ρ3 H2 false (Fut.refl F3.sim) rfl⟩
  | true =>
    rw [if_pos rfl] at q4
    rw [if_pos rfl]
    refine ⟨ρ3, s3, env, F3.sim, E.later (F1.trans (F2.trans F3)).lat, (Out.bnd q4).imp fun z H4 ⟨ρ4, s4, d, F4, r4, q5⟩ => ?_⟩
    obtain ⟨k2, e2, q6⟩ := opt_out q5
    exact ⟨ρ4, s4, b, d, k2, F4.sim, r2.later (F3.trans F4).lat, r4, e2, k2, rfl, q6 ρ4 H4 k2 (Fut.refl F4.sim) rfl⟩
theorem t_chain {op op' : CmpOp} (ho : OpR X (compareOp op) (rP T f)) (ho' : OpR X (compareOp op') (rP T g)) (ha : PE X a (tE T W ma)) (hb : PE X b (tE T W mb)) (hc : PE X c (tE T W mc)) (hm : lastMarks [op, op'] [b, c] = false := by with_unfolding_all rfl) :
    PT X (.Compare a [op, op'] [b, c] pos) (tT T W (mChain f g ma mb mc)) := pt_mono (pt_chain ho ho' ha hb hc hm) fun σ H Q h => chain_red h
theorem v_chain {op op' : CmpOp} (ho : OpR X (compareOp op) (rP T f)) (ho' : OpR X (compareOp op') (rP T g)) (ha : PE X a (tE T W ma)) (hb : PE X b (tE T W mb)) (hc : PE X c (tE T W mc)) (hm : lastMarks [op, op'] [b, c] = false := by with_unfolding_all rfl) :
    PE X (.Compare a [op, op'] [b, c] pos) (tE T W (mV (mChain f g ma mb mc))) := v_of_bl (pe_chain ho ho' ha hb hc hm) fun σ H Q h => by
  have q := chain_red h
  obtain ⟨ρ, st, env, S, E, h⟩ := q
  refine ⟨ρ, st, env, S, E, h.imp fun x H1 q1 => ?_⟩
  obtain ⟨ρ1, st1, env1, S1, E1, h1⟩ := q1
  refine ⟨ρ1, st1, env1, S1, E1, h1.imp fun y H2 q2 => ?_⟩
  obtain ⟨ρ2, st2, a, b, k, S2, r1, r2, e, k', ek, q3⟩ := q2
  refine ⟨ρ2, st2, a, b, k, S2, r1, r2, e, k', ek, ?_⟩
  split at q3
  · rename_i hk
    rw [if_pos hk]
    obtain ⟨ρ3, st3, env3, S3, E3, h3⟩ := q3
    refine ⟨ρ3, st3, env3, S3, E3, h3.imp fun z H4 q4 => ?_⟩
    obtain ⟨ρ4, st4, c, d, k4, S4, r4, r5, e4, k5, ek5, q5⟩ := q4
    cases ek5
    exact ⟨ρ4, st4, c, d, k4, S4, r4, r5, e4, q5⟩
  · rename_i hk
    rw [if_neg hk]
    obtain ⟨k5, ek5, q5⟩ := q3
    cases ek5
    exact q5
/-! tests: and, or, not, truth -/
def mAnd (m m' : Ev → M Bool) : Ev → M Bool := fun env => M.bnd (m env) fun k => if k = true then m' env else M.ret false
def mOr (m m' : Ev → M Bool) : Ev → M Bool := fun env => M.bnd (m env) fun k => if k = true then M.ret true else m' env
def mNot (m : Ev → M Bool) : Ev → M Bool := fun env => M.bnd (m env) fun k => M.ret (!k)
theorem not_red {σ : St} {H : Hp} {Q : Bool → Hp → Prop} (h : tT T W (mNot m) σ H Q) : tNot (tT T W m) σ H Q := by
  obtain ⟨ρ, st, env, S, E, h⟩ := h
  refine ⟨ρ, st, env, S, E, h.bnd.imp fun k H1 ⟨ρ1, s1, k', F1, r1, q1⟩ => ?_⟩
  subst r1
  exact q1 ρ1 H1 _ (Fut.refl F1.sim) rfl
theorem and_red {σ : St} {H : Hp} {Q : Bool → Hp → Prop} (h : tT T W (mAnd m m') σ H Q) : tAnd (tT T W m) (tT T W m') σ H Q := by
  obtain ⟨ρ, st, env, S, E, h⟩ := h
  refine ⟨ρ, st, env, S, E, h.bnd.imp fun k H1 ⟨ρ1, s1, k', F1, r1, q1⟩ => ?_⟩
  subst r1
  cases k' with
  | true =>
    rw [if_pos rfl] at q1
    exact ⟨ρ1, s1, env, F1.sim, E.later F1.lat, q1⟩
  | false =>
    rw [if_neg (by decide)] at q1
    exact q1 ρ1 H1 _ (Fut.refl F1.sim) rfl
theorem or_red {σ : St} {H : Hp} {Q : Bool → Hp → Prop} (h : tT T W (mOr m m') σ H Q) : tOr (tT T W m) (tT T W m') σ H Q := by
  obtain ⟨ρ, st, env, S, E, h⟩ := h
  refine ⟨ρ, st, env, S, E, h.bnd.imp fun k H1 ⟨ρ1, s1, k', F1, r1, q1⟩ => ?_⟩
  subst r1
  cases k' with
  | false =>
    rw [if_neg (by decide)] at q1
    exact ⟨ρ1, s1, env, F1.sim, E.later F1.lat, q1⟩
  | true =>
    rw [if_pos rfl] at q1
    exact q1 ρ1 H1 _ (Fut.refl F1.sim) rfl
theorem t_not (h : PT X a (tT T W m)) : PT X (.UnaryOp .Not a pos) (tT T W (mNot m)) := pt_mono (pt_not h) fun σ H Q h => not_red h
theorem w_and {rest : List Expr} (h : PT X a (tT T W m)) (h' : PW X (.BoolOp .And (b :: rest) pos) (tT T W m')) : PW X (.BoolOp .And (a :: b :: rest) pos) (tT T W (mAnd m m')) := pw_mono (pw_and h h') fun σ H Q h => and_red h
theorem w_or {rest : List Expr} (h : PT X a (tT T W m)) (h' : PW X (.BoolOp .Or (b :: rest) pos) (tT T W m')) : PW X (.BoolOp .Or (a :: b :: rest) pos) (tT T W (mOr m m')) := pw_mono (pw_or h h') fun σ H Q h => or_red h
/-- a value whose truth is asked -/
def truOf (s : Sto) : MV → Option Bool
  | .non => some false
  | .bl b => some b
  | .int i => some (i != 0)
  | .str x => if x.length ≤ line then some ((x.length : Int) != 0) else none
  | .tup xs => some (!xs.isEmpty)
  | .lst xs => some (!xs.isEmpty)
  | .frz xs => some (!xs.isEmpty)
  | .ref n => match s[n]? with
    | some (.lst xs) => some (!xs.isEmpty)
    | _ => none
  | _ => none
theorem RVs.isEmpty {ρ : List Addr} {H : Hp} {xs : List MV} {ys : List V} (r : RVs T ρ H xs ys) : xs.isEmpty = ys.isEmpty := by
  have := r.length
  cases xs <;> cases ys <;> first | rfl | (simp at this)
theorem tru_of {ρ : List Addr} {H : Hp} {st : Sto} {x : MV} {v : V} {k : Bool} (hK : T.K = X.K) (S : Sim T ρ st H) (r : RV T ρ H x v) (h : truOf st x = some k) : TruV X.K v H k := by
  cases x with
  | non => cases r; cases h; rfl
  | bl b => cases r; cases h; rfl
  | int i => cases r; cases h; rfl
  | str z =>
    cases r
    simp only [truOf] at h
    split at h
    · rename_i hl; cases h; exact ⟨line_le hl, rfl⟩
    · cases h
  | tup xs =>
    cases h
    obtain ⟨a, ys, rfl, z, r⟩ := r
    exact .inr (.inl ⟨ys, hK ▸ z.sq, by rw [r.isEmpty]⟩)
  | lst xs =>
    cases h
    obtain ⟨a, ys, rfl, _, z, r⟩ := r
    exact .inl ⟨ys, SqL.of z, by rw [r.isEmpty]⟩
  | frz xs =>
    cases h
    obtain ⟨a, ys, rfl, z, r⟩ := r
    exact .inl ⟨ys, hK ▸ z.sq, by rw [r.isEmpty]⟩
  | ref n =>
    have q : ∃ xs, st[n]? = some (.lst xs) ∧ k = !xs.isEmpty := by
      simp only [truOf] at h
      split at h
      · rename_i xs e; cases h; exact ⟨xs, e, rfl⟩
      · cases h
    obtain ⟨xs, e, rfl⟩ := q
    obtain ⟨a, e1, rfl⟩ := r
    obtain ⟨ys, e2, r⟩ := S.cell n a _ e1 e
    exact .inl ⟨ys, SqL.of e2, by rw [r.isEmpty]⟩
  | ins c xs => cases h
  | fn k => cases h
  | exc => cases h
def mTru (ma : Ev → M MV) : Ev → M Bool := fun env => M.bnd (ma env) fun x s => M.opt (truOf s x) s
theorem t_tru (hK : T.K = X.K) (ha : PE X a (tE T W ma)) (he : ∀ whole, isTrue a X.env whole = (do let v ← whole; standAt a.pos; holding [v] (truthy v)) := by intro _; rfl) : PT X a (tT T W (mTru ma)) :=
  pt_mono (pt_truth ha he) fun σ H Q h => by
    obtain ⟨ρ, st, env, S, E, h⟩ := h
    refine ⟨ρ, st, env, S, E, h.bnd.imp fun x H1 ⟨ρ1, s1, a, F1, r1, q1⟩ => ?_⟩
    obtain ⟨k, e, q2⟩ := opt_out q1
    exact ⟨k, tru_of hK F1.sim r1 e, q2 ρ1 H1 k (Fut.refl F1.sim) rfl⟩
/-! .. as values: what comes from the left must be a bool -/
def mAndV (ma mb : Ev → M MV) : Ev → M MV := fun env => M.bnd (ma env) fun x => match x with
  | .bl true => mb env
  | .bl false => M.ret (.bl false)
  | _ => fun _ => .bad
def mOrV (ma mb : Ev → M MV) : Ev → M MV := fun env => M.bnd (ma env) fun x => match x with
  | .bl true => M.ret (.bl true)
  | .bl false => mb env
  | _ => fun _ => .bad
def mNotV (ma : Ev → M MV) : Ev → M MV := fun env => M.bnd (ma env) fun x => match x with
  | .bl k => M.ret (.bl !k)
  | _ => fun _ => .bad
theorem v_and {rest : List Expr} (ha : PE X a (tE T W ma)) (hb : PE X (.BoolOp .And (b :: rest) pos) (tE T W mb)) : PE X (.BoolOp .And (a :: b :: rest) pos) (tE T W (mAndV ma mb)) :=
  pe_mono (pe_and ha hb) fun σ H Q h => by
    obtain ⟨ρ, st, env, S, E, h⟩ := h
    refine ⟨ρ, st, env, S, E, h.bnd.imp fun x H1 ⟨ρ1, s1, a, F1, r1, q1⟩ => ?_⟩
    cases a with
    | bl k =>
      cases r1
      refine ⟨k, rfl, ?_⟩
      cases k with
      | true => exact ⟨ρ1, s1, env, F1.sim, E.later F1.lat, q1⟩
      | false => exact q1 ρ1 H1 _ (Fut.refl F1.sim) rfl
    | _ => exact False.elim q1
theorem v_or {rest : List Expr} (ha : PE X a (tE T W ma)) (hb : PE X (.BoolOp .Or (b :: rest) pos) (tE T W mb)) : PE X (.BoolOp .Or (a :: b :: rest) pos) (tE T W (mOrV ma mb)) :=
  pe_mono (pe_or ha hb) fun σ H Q h => by
    obtain ⟨ρ, st, env, S, E, h⟩ := h
    refine ⟨ρ, st, env, S, E, h.bnd.imp fun x H1 ⟨ρ1, s1, a, F1, r1, q1⟩ => ?_⟩
    cases a with
    | bl k =>
      cases r1
      refine ⟨k, rfl, ?_⟩
      cases k with
      | false => exact ⟨ρ1, s1, env, F1.sim, E.later F1.lat, q1⟩
      | true => exact q1 ρ1 H1 _ (Fut.refl F1.sim) rfl
    | _ => exact False.elim q1
theorem v_one {op} (h : PE X a (tE T W ma)) : PE X (.BoolOp op [a] pos) (tE T W ma) := pe_one h
theorem v_not (ha : PE X a (tE T W ma)) : PE X (.UnaryOp .Not a pos) (tE T W (mNotV ma)) := pe_mono (pe_not ha) fun σ H Q h => by
  obtain ⟨ρ, st, env, S, E, h⟩ := h
  refine ⟨ρ, st, env, S, E, h.bnd.imp fun x H1 ⟨ρ1, s1, a, F1, r1, q1⟩ => ?_⟩
  cases a with
  | bl k =>
    cases r1
    exact ⟨k, rfl, q1 ρ1 H1 _ (Fut.refl F1.sim) rfl⟩
  | _ => exact False.elim q1
/-! a if t else b -/
def mIte (m : Ev → M Bool) (ma mb : Ev → M MV) : Ev → M MV := fun env => M.bnd (m env) fun k => if k = true then ma env else mb env
theorem v_ite (h : PT X c (tT T W m)) (ha : PE X a (tE T W ma)) (hb : PE X b (tE T W mb)) : PE X (.IfExp c a b pos) (tE T W (mIte m ma mb)) := pe_mono (pe_ifExp h ha hb) fun σ H Q h => by
  obtain ⟨ρ, st, env, S, E, h⟩ := h
  refine ⟨ρ, st, env, S, E, h.bnd.imp fun k H1 ⟨ρ1, s1, k', F1, r1, q1⟩ => ?_⟩
  subst r1
  cases k' with
  | true =>
    rw [if_pos rfl] at q1
    exact ⟨ρ1, s1, env, F1.sim, E.later F1.lat, q1⟩
  | false =>
    rw [if_neg (by decide)] at q1
    exact ⟨ρ1, s1, env, F1.sim, E.later F1.lat, q1⟩
end
end Z

namespace Z
open PySem L2

/-! ### data: what == looks at -/
def toPy (s : Sto) : Nat → MV → Option PyData
  | 0, _ => none
  | _ + 1, .non => some .none
  | _ + 1, .bl b => some (.bool b)
  | _ + 1, .int i => some (.int i)
  | _ + 1, .str x => some (.str x)
  | k + 1, .tup xs => (xs.mapM (toPy s k)).map .tuple
  | k + 1, .lst xs => (xs.mapM (toPy s k)).map .list
  | k + 1, .frz xs => (xs.mapM (toPy s k)).map .list
  | k + 1, .ref n => match s[n]? with
    | some (.lst xs) => (xs.mapM (toPy s k)).map .list
    | _ => none
  | _ + 1, .ins _ _ => none
  | _ + 1, .fn _ => none
  | _ + 1, .exc => none
theorem mapM_cons_some {α β : Type} {f : α → Option β} {x : α} {xs : List α} {ds : List β} (h : (x :: xs).mapM f = some ds) : ∃ d es, f x = some d ∧ xs.mapM f = some es ∧ ds = d :: es := by
  rw [List.mapM_cons] at h
  cases e : f x with
  | none => rw [e] at h; cases h
  | some d =>
    rw [e] at h
    cases e2 : xs.mapM f with
    | none => rw [e2] at h; cases h
    | some es => rw [e2] at h; cases h; exact ⟨d, es, rfl, rfl, rfl⟩
section
variable {T : Tx} {ρ : List Addr} {H : Hp} {st : Sto}
theorem dp_all {f : MV → Option PyData} (hf : ∀ m v d, RV T ρ H m v → f m = some d → Dp T.K H v d) : ∀ {xs : List MV} {vs : List V} {ds : List PyData}, RVs T ρ H xs vs → xs.mapM f = some ds → DpAll T.K H vs ds
  | [], vs, ds, r, h => by cases r; cases h; exact .nil
  | x :: xs, vs, ds, r, h => by
    obtain ⟨v, us, rfl, r1, r2⟩ := r
    obtain ⟨d, es, h1, h2, rfl⟩ := mapM_cons_some h
    exact .cons (hf x v d r1 h1) (dp_all hf r2 h2)
theorem dp_of (S : Sim T ρ st H) : ∀ (k : Nat) (m : MV) (v : V) (d : PyData), RV T ρ H m v → toPy st k m = some d → Dp T.K H v d := by
  intro k
  induction k with
  | zero => intro m v d _ h; cases h
  | succ k ih =>
    intro m v d r h
    have seq : ∀ {xs : List MV} {vs : List V} {g : List PyData → PyData}, RVs T ρ H xs vs → (xs.mapM (toPy st k)).map g = some d → ∃ ds, d = g ds ∧ DpAll T.K H vs ds := fun {xs vs g} r h => by
      cases e : xs.mapM (toPy st k) with
      | none => rw [e] at h; cases h
      | some ds => rw [e] at h; cases h; exact ⟨ds, rfl, dp_all ih r e⟩
    cases m with
    | non => cases h; cases r; exact .non
    | bl b => cases h; cases r; exact .bl b
    | int i => cases h; cases r; exact .int i
    | str x => cases h; cases r; exact .str x
    | tup xs =>
      obtain ⟨a, ys, rfl, z, r⟩ := r
      obtain ⟨ds, rfl, q⟩ := seq r h
      exact .tup z.sq q
    | lst xs =>
      obtain ⟨a, ys, rfl, _, z, r⟩ := r
      obtain ⟨ds, rfl, q⟩ := seq r h
      exact .lst (SqL.of z) q
    | frz xs =>
      obtain ⟨a, ys, rfl, z, r⟩ := r
      obtain ⟨ds, rfl, q⟩ := seq r h
      exact .lst z.sq q
    | ref n =>
      obtain ⟨a, e1, rfl⟩ := r
      have q : ∃ xs, st[n]? = some (.lst xs) ∧ (xs.mapM (toPy st k)).map .list = some d := by
        simp only [toPy] at h
        split at h
        · rename_i xs e; exact ⟨xs, e, h⟩
        · cases h
      obtain ⟨xs, e, h⟩ := q
      obtain ⟨ys, e2, r⟩ := S.cell n a _ e1 e
      obtain ⟨ds, rfl, q⟩ := seq r h
      exact .lst (SqL.of e2) q
    | ins c xs => cases h
    | fn k => cases h
    | exc => cases h
end
def deepEq (s : Sto) (x y : MV) : Option Bool := match toPy s 30 x, toPy s 30 y with
  | some d, some e => if SeqAt.shaped d = true ∧ SeqAt.shaped e = true then some (PyData.eqv d e) else none
  | _, _ => none
def cEq (s : Sto) : MV → MV → Option Bool
  | .int i, .int j => some (decide (i = j))
  | .str a, .str b => some (decide (a = b))
  | .bl a, .bl b => some (a == b)
  | .non, .non => some true
  | .non, .int _ => some false
  | .int _, .non => some false
  | .non, .str _ => some false
  | .str _, .non => some false
  | .int _, .str _ => some false
  | .str _, .int _ => some false
  | x, y => deepEq s x y
def cNe (s : Sto) (x y : MV) : Option Bool := (cEq s x y).map (!·)
def cLt (_ : Sto) : MV → MV → Option Bool
  | .int i, .int j => some (decide (i < j))
  | .str a, .str b => some (decide (a.cps.toList < b.cps.toList))
  | _, _ => none
def cLe (_ : Sto) : MV → MV → Option Bool
  | .int i, .int j => some (decide (i ≤ j))
  | .str a, .str b => some (!decide (b.cps.toList < a.cps.toList))
  | _, _ => none
def cGt (_ : Sto) : MV → MV → Option Bool
  | .int i, .int j => some (decide (j < i))
  | _, _ => none
def cGe (_ : Sto) : MV → MV → Option Bool
  | .int i, .int j => some (decide (j ≤ i))
  | _, _ => none
def isN : MV → Bool
  | .non => true
  | _ => false
def cIs (_ : Sto) (x : MV) : MV → Option Bool
  | .non => some (isN x)
  | _ => none
def cNot (_ : Sto) (x : MV) : MV → Option Bool
  | .non => some (!isN x)
  | _ => none
def flatM : MV → Bool
  | .non => true
  | .bl _ => true
  | .int _ => true
  | .str _ => true
  | _ => false
def flatEq : MV → MV → Bool
  | .non, .non => true
  | .bl a, .bl b => a == b
  | .bl a, .int b => (if a then 1 else 0) == b
  | .int a, .bl b => a == (if b then 1 else 0)
  | .int a, .int b => a == b
  | .str a, .str b => a == b
  | _, _ => false
def deepIn (s : Sto) (x : MV) (ys : List MV) : Option Bool := match toPy s 30 x, ys.mapM (toPy s 30) with
  | some d, some es => if SeqAt.shaped d = true ∧ SeqAt.shaped (.list es) = true then some (es.any fun z => PyData.eqv z d) else none
  | _, _ => none
def cIn (s : Sto) (x y : MV) : Option Bool := match seqOf s y with
  | some ys => if flatM x && ys.all flatM then some (ys.any fun z => flatEq z x) else deepIn s x ys
  | none => match x, y with
    | .str a, .str b => some (!(Builtin.Str.occurrences b a 0 b.length 1).isEmpty)
    | _, _ => none
def cNin (s : Sto) (x y : MV) : Option Bool := (cIn s x y).map (!·)
section
variable {X : Cx} {T : Tx}
theorem flat_of {ρ : List Addr} {H : Hp} {m : MV} {v : V} (r : RV T ρ H m v) (h : flatM m = true) : flatV v = true := by
  cases m <;> (try (cases h; done)) <;> (cases r; rfl)
theorem flat_all {ρ : List Addr} {H : Hp} : ∀ {ms : List MV} {vs : List V}, RVs T ρ H ms vs → ms.all flatM = true → vs.all flatV = true
  | [], vs, r, _ => by cases r; rfl
  | m :: ms, vs, r, h => by
    obtain ⟨v, us, rfl, r1, r2⟩ := r
    rw [List.all_cons, Bool.and_eq_true] at h
    rw [List.all_cons, flat_of r1 h.1, flat_all r2 h.2]; rfl
theorem flat_eq {ρ : List Addr} {H : Hp} {m n : MV} {v u : V} (r : RV T ρ H m v) (r' : RV T ρ H n u) (h : flatM m = true) (h' : flatM n = true) : eqV v u = flatEq m n := by
  cases m <;> (try (cases h; done)) <;> cases n <;> (try (cases h'; done)) <;> (cases r; cases r'; rfl)
theorem flat_any {ρ : List Addr} {H : Hp} {x : MV} {v : V} (rx : RV T ρ H x v) (fx : flatM x = true) : ∀ {ms : List MV} {vs : List V}, RVs T ρ H ms vs → ms.all flatM = true → inV v vs = ms.any fun z => flatEq z x
  | [], vs, r, _ => by cases r; rfl
  | m :: ms, vs, r, h => by
    obtain ⟨u, us, rfl, r1, r2⟩ := r
    rw [List.all_cons, Bool.and_eq_true] at h
    have q : inV v us = ms.any fun z => flatEq z x := flat_any rx fx r2 h.2
    show (eqV u v || inV v us) = _
    rw [q, flat_eq r1 rx h.1 fx]; rfl
theorem deep_eq_ok (hK : T.K = X.K) (hu : X.A.units + 64 < cLine) {ρ : List Addr} {st : Sto} {H : Hp} {a b : MV} {x y : V} {k : Bool} (S : Sim T ρ st H) (ra : RV T ρ H a x) (rb : RV T ρ H b y) (e : deepEq st a b = some k) :
    ∃ d e', Dp X.K H x d ∧ Dp X.K H y e' ∧ SeqAt.shaped d = true ∧ SeqAt.shaped e' = true ∧ PyData.eqv d e' = k := by
  unfold deepEq at e
  split at e
  · rename_i d e' h1 h2
    split at e
    · rename_i hs
      cases e
      exact ⟨d, e', hK ▸ dp_of S 30 a x d ra h1, hK ▸ dp_of S 30 b y e' rb h2, hs.1, hs.2, rfl⟩
    · cases e
  · cases e
/-- == and != at once -/
theorem eq_cases (hK : T.K = X.K) (hu : X.A.units + 64 < cLine) {ρ : List Addr} {st : Sto} {H : Hp} {a b : MV} {x y : V} {k : Bool} (S : Sim T ρ st H) (ra : RV T ρ H a x) (rb : RV T ρ H b y) (e : cEq st a b = some k) :
    (scal x y = true ∧ decide (x = y) = k) ∨ ∃ d e', Dp X.K H x d ∧ Dp X.K H y e' ∧ SeqAt.shaped d = true ∧ SeqAt.shaped e' = true ∧ PyData.eqv d e' = k := by
  unfold cEq at e
  split at e
  · cases e; cases ra; cases rb
    exact .inl ⟨rfl, by rw [dec_int]; rfl⟩
  · cases e; cases ra; cases rb
    refine .inl ⟨rfl, ?_⟩
    rename_i p q
    by_cases h : p = q
    · subst h; simp
    · rw [decide_eq_false h, decide_eq_false (fun z => h (V.str.inj z))]
  · cases e; cases ra; cases rb; exact .inl ⟨rfl, dec_bl⟩
  · cases e; cases ra; cases rb; exact .inl ⟨rfl, by simp⟩
  · cases e; cases ra; cases rb; exact .inl ⟨rfl, by simp⟩
  · cases e; cases ra; cases rb; exact .inl ⟨rfl, by simp⟩
  · cases e; cases ra; cases rb; exact .inl ⟨rfl, by simp⟩
  · cases e; cases ra; cases rb; exact .inl ⟨rfl, by simp⟩
  · cases e; cases ra; cases rb; exact .inl ⟨rfl, by simp⟩
  · cases e; cases ra; cases rb; exact .inl ⟨rfl, by simp⟩
  · exact .inr (deep_eq_ok hK hu S ra rb e)
theorem oc_eq (hK : T.K = X.K) (hu : X.A.units + 64 < cLine) : OpR X (compareOp .Eq) (rP T cEq) := by
  intro pins s σ H x y v u Q I rx ry ⟨ρ, st, a, b, k, S, ra, rb, e, q⟩
  rcases eq_cases hK hu S ra rb e with ⟨h1, h2⟩ | ⟨d, e', h1, h2, h3, h4, h5⟩
  · exact op_eq pins s σ H x y v u Q I rx ry ⟨h1, by rw [h2]; exact q⟩
  · exact op_eqD hu pins s σ H x y v u Q I rx ry ⟨d, e', h1, h2, h3, h4, by rw [h5]; exact q⟩
theorem oc_ne (hK : T.K = X.K) (hu : X.A.units + 64 < cLine) : OpR X (compareOp .NotEq) (rP T cNe) := by
  intro pins s σ H x y v u Q I rx ry ⟨ρ, st, a, b, k, S, ra, rb, e, q⟩
  unfold cNe at e
  cases e1 : cEq st a b with
  | none => rw [e1] at e; cases e
  | some k' =>
    rw [e1] at e; cases e
    rcases eq_cases hK hu S ra rb e1 with ⟨h1, h2⟩ | ⟨d, e', h1, h2, h3, h4, h5⟩
    · exact op_ne pins s σ H x y v u Q I rx ry ⟨h1, by rw [h2]; exact q⟩
    · exact op_neD hu pins s σ H x y v u Q I rx ry ⟨d, e', h1, h2, h3, h4, by rw [h5]; exact q⟩
theorem oc_lt : OpR X (compareOp .Lt) (rP T cLt) := by
  intro pins s σ H x y v u Q I rx ry ⟨ρ, st, a, b, k, S, ra, rb, e, q⟩
  unfold cLt at e
  split at e
  · cases e; exact op_lt pins s σ H x y v u Q I rx ry ⟨_, _, ra, rb, q⟩
  · cases e; exact op_lt_str pins s σ H x y v u Q I rx ry ⟨_, _, ra, rb, q⟩
  · cases e
theorem oc_le : OpR X (compareOp .LtE) (rP T cLe) := by
  intro pins s σ H x y v u Q I rx ry ⟨ρ, st, a, b, k, S, ra, rb, e, q⟩
  unfold cLe at e
  split at e
  · cases e; exact op_le pins s σ H x y v u Q I rx ry ⟨_, _, ra, rb, q⟩
  · cases e; exact op_le_str pins s σ H x y v u Q I rx ry ⟨_, _, ra, rb, q⟩
  · cases e
theorem oc_gt : OpR X (compareOp .Gt) (rP T cGt) := by
  intro pins s σ H x y v u Q I rx ry ⟨ρ, st, a, b, k, S, ra, rb, e, q⟩
  unfold cGt at e
  split at e
  · cases e; exact op_gt pins s σ H x y v u Q I rx ry ⟨_, _, ra, rb, q⟩
  · cases e
theorem oc_ge : OpR X (compareOp .GtE) (rP T cGe) := by
  intro pins s σ H x y v u Q I rx ry ⟨ρ, st, a, b, k, S, ra, rb, e, q⟩
  unfold cGe at e
  split at e
  · cases e; exact op_ge pins s σ H x y v u Q I rx ry ⟨_, _, ra, rb, q⟩
  · cases e
theorem isN_of {ρ : List Addr} {H : Hp} {m : MV} {v : V} (r : RV T ρ H m v) : decide (v = .non) = isN m := by
  cases m with
  | non => cases r; rfl
  | bl _ => cases r; rfl
  | int _ => cases r; rfl
  | str _ => cases r; rfl
  | fn _ => cases r; rfl
  | exc => exact r.elim
  | ref n => obtain ⟨a, _, rfl⟩ := r; rfl
  | tup _ => obtain ⟨a, _, rfl, _⟩ := r; rfl
  | lst _ => obtain ⟨a, _, rfl, _⟩ := r; rfl
  | frz _ => obtain ⟨a, _, rfl, _⟩ := r; rfl
  | ins _ _ => obtain ⟨a, _, _, rfl, _⟩ := r; rfl
theorem oc_is : OpR X (compareOp .Is) (rP T cIs) := by
  intro pins s σ H x y v u Q I rx ry ⟨ρ, st, a, b, k, S, ra, rb, e, q⟩
  unfold cIs at e
  split at e
  · cases e; exact op_isN pins s σ H x y v u Q I rx ry ⟨rb, by rw [isN_of ra]; exact q⟩
  · cases e
theorem oc_not : OpR X (compareOp .IsNot) (rP T cNot) := by
  intro pins s σ H x y v u Q I rx ry ⟨ρ, st, a, b, k, S, ra, rb, e, q⟩
  unfold cNot at e
  split at e
  · cases e; exact op_notN pins s σ H x y v u Q I rx ry ⟨rb, by rw [isN_of ra]; exact q⟩
  · cases e
theorem deep_in {hu : X.A.units + 65 < cLine} {pins : List (Addr × Obj)} {s : Shared} {σ : St} {H : Hp} {x y : V} {v u : Value} {d : PyData} {ds : List PyData} {ys : List V} {p : Addr} (neg : Bool) {Q : VK} (I : Inv X pins σ H s) (rx : RelV x v) (ry : RelV y u) (hp : y = .ref p) (hq : SqL X.K H p ys ∨ SqT X.K H p ys)
    (hx : Dp X.K H x d) (hys : DpAll X.K H ys ds) (sd : SeqAt.shaped d = true) (se : SeqAt.shaped (.list ds) = true) (q : Q (.bl (if neg then !(ds.any fun z => PyData.eqv z d) else (ds.any fun z => PyData.eqv z d))) H) :
    wpAny (model X.prog X.w) X.A (compareOp (if neg then .NotIn else .In) v u) (EP X pins σ Q) X.xe s := by
  subst hp
  cases ry
  obtain ⟨bs, r1⟩ := Dp.reads I d x v hx rx
  have hxs : PyData.canLayAll0 ds = true := SeqAt.canLay_of_shaped se
  have hroom : X.A.units + 1 + min (PyData.depthAll ds) d.depth < cLine := PyProof.Rows.room_in_shaped sd hu
  rcases hq with hq | hq
  · obtain ⟨its, r, pl, hz⟩ := I.list hq
    obtain ⟨as, h4⟩ := Dp.readsAll I ds ys its hys r
    have he := SeqAt.items_eqAt (A := X.A) (s := s) (vs := its.toArray) (show ReadsAll s.heap its.toArray.toList ds as from h4) r1 hxs (SeqAt.canLay_of_shaped sd) hroom
    have ha := SeqAt.any_by_data (s := s) (vs := its.toArray) (d := d) (show ReadsAll s.heap its.toArray.toList ds as from h4) hxs
    cases neg with
    | false => exact SeqAt.in_listAt _ pl.isList he ⟨.bl _, H, I, rfl, by rw [ha]; exact q⟩
    | true => exact SeqAt.notIn_listAt _ pl.isList he ⟨.bl _, H, I, rfl, by rw [ha]; exact q⟩
  · obtain ⟨its, r, pl, hz⟩ := I.tuple hq
    obtain ⟨as, h4⟩ := Dp.readsAll I ds ys its hys r
    have he := SeqAt.items_eqAt (A := X.A) (s := s) (vs := its.toArray) (show ReadsAll s.heap its.toArray.toList ds as from h4) r1 hxs (SeqAt.canLay_of_shaped sd) hroom
    have ha := SeqAt.any_by_data (s := s) (vs := its.toArray) (d := d) (show ReadsAll s.heap its.toArray.toList ds as from h4) hxs
    cases neg with
    | false => exact SeqAt.in_tupleAt _ pl he ⟨.bl _, H, I, rfl, by rw [ha]; exact q⟩
    | true => exact SeqAt.notIn_tupleAt _ pl he ⟨.bl _, H, I, rfl, by rw [ha]; exact q⟩
theorem in_cases (hK : T.K = X.K) {ρ : List Addr} {st : Sto} {H : Hp} {a b : MV} {x y : V} {k : Bool} (S : Sim T ρ st H) (ra : RV T ρ H a x) (rb : RV T ρ H b y) (e : cIn st a b = some k) :
    (∃ p xs, y = .ref p ∧ (SqL X.K H p xs ∨ SqT X.K H p xs) ∧ flatV x = true ∧ xs.all flatV = true ∧ inV x xs = k) ∨
    (∃ p ys d ds, y = .ref p ∧ (SqL X.K H p ys ∨ SqT X.K H p ys) ∧ Dp X.K H x d ∧ DpAll X.K H ys ds ∧ SeqAt.shaped d = true ∧ SeqAt.shaped (.list ds) = true ∧ (ds.any fun z => PyData.eqv z d) = k) ∨
    ∃ i j, x = .str i ∧ y = .str j ∧ (!(Builtin.Str.occurrences j i 0 j.length 1).isEmpty) = k := by
  unfold cIn at e
  split at e
  · rename_i ys h
    obtain ⟨p, us, rfl, hq, r⟩ := seq_of S rb h
    rw [hK] at hq
    split at e
    · rename_i hf
      rw [Bool.and_eq_true] at hf
      cases e
      exact .inl ⟨p, us, rfl, hq, flat_of ra hf.1, flat_all r hf.2, flat_any ra hf.1 r hf.2⟩
    · unfold deepIn at e
      split at e
      · rename_i d es h1 h2
        split at e
        · rename_i hs
          cases e
          exact .inr (.inl ⟨p, us, d, es, rfl, hq, hK ▸ dp_of S 30 a x d ra h1, hK ▸ dp_all (dp_of S 30) r h2, hs.1, hs.2, rfl⟩)
        · cases e
      · cases e
  · split at e
    · cases e
      cases ra; cases rb
      exact .inr (.inr ⟨_, _, rfl, rfl, rfl⟩)
    · cases e
theorem oc_in (hK : T.K = X.K) (hu : X.A.units + 65 < cLine) : OpR X (compareOp .In) (rP T cIn) := by
  intro pins s σ H x y v u Q I rx ry ⟨ρ, st, a, b, k, S, ra, rb, e, q⟩
  rcases in_cases (X := X) hK S ra rb e with ⟨p, xs, h1, h2, h3, h4, rfl⟩ | ⟨p, ys, d, ds, h1, h2, h3, h4, h5, h6, rfl⟩ | ⟨i, j, h1, h2, rfl⟩
  · exact op_in_seq pins s σ H x y v u Q I rx ry ⟨p, xs, h1, h2, h3, h4, q⟩
  · exact deep_in (hu := hu) false I rx ry h1 h2 h3 h4 h5 h6 q
  · exact op_in_str pins s σ H x y v u Q I rx ry ⟨i, j, h1, h2, q⟩
theorem oc_nin (hK : T.K = X.K) (hu : X.A.units + 65 < cLine) : OpR X (compareOp .NotIn) (rP T cNin) := by
  intro pins s σ H x y v u Q I rx ry ⟨ρ, st, a, b, k, S, ra, rb, e, q⟩
  unfold cNin at e
  cases e1 : cIn st a b with
  | none => rw [e1] at e; cases e
  | some k' =>
    rw [e1] at e; cases e
    rcases in_cases (X := X) hK S ra rb e1 with ⟨p, xs, h1, h2, h3, h4, rfl⟩ | ⟨p, ys, d, ds, h1, h2, h3, h4, h5, h6, rfl⟩ | ⟨i, j, h1, h2, rfl⟩
    · exact op_notIn_seq pins s σ H x y v u Q I rx ry ⟨p, xs, h1, h2, h3, h4, q⟩
    · exact deep_in (hu := hu) true I rx ry h1 h2 h3 h4 h5 h6 q
    · exact L2.op_notin_str pins s σ H x y v u Q I rx ry ⟨i, j, h1, h2, q⟩
end
end Z

namespace Z
open PySem L2

/-! ### lists made: inline (fr), or a new cell -/
def mkList (fr : Bool) (xs : List MV) : M MV := fun s => if fr = true then .ok (.lst xs) s else .ok (.ref s.length) (s ++ [.lst xs])
section
variable {X : Cx} {T : Tx} {W : WX} {ρ : List Addr} {H : Hp} {st : Sto} {σ : St}
theorem mk_out {fr : Bool} {xs : List MV} {vs : List V} {Q : VK} (S : Sim T ρ st H) (h : Out T W (RV T) ρ H σ (mkList fr xs st) Q) (r : RVs T ρ H xs vs) : ∀ p, H p = none → Q (.ref p) (upd H p (.lst vs)) := fun p hp => by
  unfold mkList at h
  cases fr with
  | true =>
    rw [if_pos rfl] at h
    have F := S.fresh (o := .lst vs) hp
    exact h _ _ _ F ⟨p, vs, rfl, S.free hp, upd_same, r.later F.lat⟩
  | false =>
    rw [if_neg (by decide)] at h
    have F := S.push (c := .lst xs) (o := .lst vs) hp fun ρ' H' L => ⟨vs, rfl, r.later L⟩
    refine h _ _ _ F ⟨p, ?_, rfl⟩
    rw [← S.len]; simp
theorem tup_out {xs : List MV} {vs : List V} {Q : VK} (S : Sim T ρ st H) (h : Out T W (RV T) ρ H σ (M.ret (.tup xs) st) Q) (r : RVs T ρ H xs vs) : ∀ p, H p = none → Q (.ref p) (upd H p (.tup vs)) := fun p hp => by
  have F := S.fresh (o := .tup vs) hp
  exact h _ _ _ F ⟨p, vs, rfl, .inl ⟨S.free hp, .inl upd_same⟩, r.later F.lat⟩
end

/-! ### displays -/
def mNil : Ev → M (List MV) := fun _ => M.ret []
def mCons (m : Ev → M MV) (r : Ev → M (List MV)) : Ev → M (List MV) := fun env => M.bnd (m env) fun x => M.bnd (r env) fun xs => M.ret (x :: xs)
def mTup (as : Ev → M (List MV)) : Ev → M MV := fun env => M.bnd (as env) fun xs => if xs.length ≤ line then M.ret (.tup xs) else fun _ => .bad
def mLst (fr : Bool) (as : Ev → M (List MV)) : Ev → M MV := fun env => M.bnd (as env) fun xs => if xs.length ≤ line then mkList fr xs else fun _ => .bad
section
variable {X : Cx} {T : Tx} {W : WX} {ma mb mc : Ev → M MV} {as : Ev → M (List MV)} {a b c e : Expr} {es : List Expr} {pos : Pos}
theorem a_nil : PA X [] (tA T W mNil) := pa_mono pa_nil fun σ H Q h => by
  obtain ⟨ρ, st, env, S, E, h⟩ := h
  exact h ρ H [] (Fut.refl S) rfl
theorem a_cons (ha : PE X e (tE T W ma)) (hr : PA X es (tA T W as)) (hs : starEach (e :: es) X.env = (false, eval e X.env) :: starEach es X.env := by rfl) : PA X (e :: es) (tA T W (mCons ma as)) :=
  pa_mono (pa_cons ha hr hs) fun σ H Q h => by
    obtain ⟨ρ, st, env, S, E, h⟩ := h
    refine ⟨ρ, st, env, S, E, h.bnd.imp fun x H1 ⟨ρ1, s1, a, F1, r1, q1⟩ => ?_⟩
    refine ⟨ρ1, s1, env, F1.sim, E.later F1.lat, (Out.bnd q1).imp fun xs H2 ⟨ρ2, s2, as, F2, r2, q2⟩ => ?_⟩
    exact q2 ρ2 H2 _ (Fut.refl F2.sim) ⟨x, xs, rfl, r1.later F2.lat, r2⟩
theorem v_tup {k : Nat} (h : PA X es (tA T W as)) : PE X (.Tuple es k pos) (tE T W (mTup as)) := pe_mono (pe_tup h) fun σ H Q h => by
  obtain ⟨ρ, st, env, S, E, h⟩ := h
  refine ⟨ρ, st, env, S, E, h.bnd.imp fun vs H1 ⟨ρ1, s1, xs, F1, r1, q1⟩ => ?_⟩
  split at q1
  · rename_i hl
    exact ⟨by rw [← r1.length]; exact line_le hl, tup_out F1.sim q1 r1⟩
  · exact q1.elim
theorem v_lst (fr : Bool) (h : PA X es (tA T W as)) : PE X (.List es pos) (tE T W (mLst fr as)) := pe_mono (pe_lst h) fun σ H Q h => by
  obtain ⟨ρ, st, env, S, E, h⟩ := h
  refine ⟨ρ, st, env, S, E, h.bnd.imp fun vs H1 ⟨ρ1, s1, xs, F1, r1, q1⟩ => ?_⟩
  split at q1
  · rename_i hl
    exact ⟨by rw [← r1.length]; exact line_le hl, mk_out F1.sim q1 r1⟩
  · exact q1.elim
end

/-! ### places -/
def ixF (s : Sto) : MV → MV → Option MV
  | .str z, .int i => if z.length ≤ line then (atI z.cps.toList i).map fun c => .str ⟨#[c]⟩ else none
  | x, .int i => match seqOf s x with
    | some xs => atI xs i
    | none => none
  | _, _ => none
theorem atI_rel {T : Tx} {ρ : List Addr} {H : Hp} {xs : List MV} {vs : List V} {i : Int} {m : MV} (r : RVs T ρ H xs vs) (h : atI xs i = some m) : ∃ v, atI vs i = some v ∧ RV T ρ H m v := by
  unfold atI at h ⊢
  rw [← r.length]
  cases e : ixN xs.length i with
  | none => rw [e] at h; cases h
  | some j =>
    rw [e] at h
    exact r.get h
section
variable {X : Cx} {T : Tx} {W : WX} {ma mb mc : Ev → M MV} {a b c e : Expr} {pos p2 : Pos}
theorem ix_ok (hK : T.K = X.K) : IxR X (rB T ixF) := by
  intro value slice pins s σ H x y v u Q I rx ry ⟨ρ, st, a, b, w, S, ra, rb, e, q⟩ hp
  have seq : ∀ {xs : List MV} {i : Int}, seqOf st a = some xs → b = .int i → atI xs i = some w → wpAny (model X.prog X.w) X.A (PyProof.Rows.subscriptTail value slice v u) (EP X pins σ Q) X.xe s := fun {xs i} h1 h2 h3 => by
    subst h2
    obtain ⟨p, ys, rfl, hq, r⟩ := seq_of S ra h1
    obtain ⟨z, hz, rz⟩ := atI_rel r h3
    rw [hK] at hq
    rcases hq with hq | hq
    · exact ix_list value slice pins s σ H _ y v u Q I rx ry ⟨p, ys, i, z, rfl, rb, hq, hz, q H z (Fut.refl S) rz⟩ hp
    · exact ix_tup value slice pins s σ H _ y v u Q I rx ry ⟨p, ys, i, z, rfl, rb, hq, hz, q H z (Fut.refl S) rz⟩ hp
  unfold ixF at e
  split at e
  · split at e
    · rename_i z i hl
      cases h : atI z.cps.toList i with
      | none => rw [h] at e; cases e
      | some c =>
        rw [h] at e; cases e
        exact ix_str value slice pins s σ H x y v u Q I rx ry ⟨z, i, c, ra, rb, line_le hl, h, q H _ (Fut.refl S) rfl⟩ hp
    · cases e
  · split at e
    · rename_i xs h
      exact seq h rfl e
    · cases e
  · cases e
def mIx (ma mb : Ev → M MV) : Ev → M MV := mBin ixF ma mb
theorem v_ix (hK : T.K = X.K) (ha : PE X a (tE T W ma)) (hb : PE X b (tE T W mb)) (hs : PlainIx b := by intro _ _; rfl) : PE X (.Subscript a b pos) (tE T W (mIx ma mb)) := pe_mono (pe_ix (ix_ok hK) ha hb hs) fun σ H Q h => bin_red h
/-! slices -/
def mNoPart : Ev → M (Option Int) := fun _ => M.ret none
def mPart (m : Ev → M MV) : Ev → M (Option Int) := fun env => M.bnd (m env) fun x => match x with
  | .int i => M.ret (some i)
  | _ => fun _ => .bad
abbrev relO : List Addr → Hp → Option Int → Option Int → Prop := fun _ _ a b => a = b
abbrev tO (T : Tx) (W : WX) (m : Ev → M (Option Int)) : TO := tG T W relO m
theorem po_mono {o : Option Expr} {t t' : TO} (h : PO X o t) (q : ∀ σ H Q, t' σ H Q → t σ H Q) : PO X o t' := ⟨fun pins s σ H Q I z => h.run pins s σ H Q I (q σ H Q z)⟩
theorem o_none : PO X none (tO T W mNoPart) := po_mono po_none fun σ H Q h => by
  obtain ⟨ρ, st, env, S, E, h⟩ := h
  exact h ρ H none (Fut.refl S) rfl
theorem o_some (h : PE X e (tE T W ma)) : PO X (some e) (tO T W (mPart ma)) := po_mono (po_some h) fun σ H Q h => by
  obtain ⟨ρ, st, env, S, E, h⟩ := h
  refine ⟨ρ, st, env, S, E, h.bnd.imp fun x H1 ⟨ρ1, s1, a, F1, r1, q1⟩ => ?_⟩
  cases a with
  | int i => cases r1; exact ⟨i, rfl, q1 ρ1 H1 _ (Fut.refl F1.sim) rfl⟩
  | _ => exact False.elim q1
def cutM (xs : List MV) (lo hi : Option Int) : List MV := (xs.drop (HT.sIx xs.length 0 lo)).take (HT.sIx xs.length xs.length hi - HT.sIx xs.length 0 lo)
theorem cut_rel {ρ : List Addr} {H : Hp} {xs : List MV} {vs : List V} (r : RVs T ρ H xs vs) (lo hi : Option Int) : RVs T ρ H (cutM xs lo hi) (cutV vs lo hi) := by
  unfold cutM cutV
  rw [r.length]
  exact (r.drop _).take _
/-- a slice: of a text, a tuple, a list (fr: the new list inline) -/
def slF (fr : Bool) (x : MV) (lo hi : Option Int) : M MV := fun s => match x with
  | .str z => if z.length ≤ line then .ok (.str (cutS z lo hi)) s else .bad
  | .tup xs => .ok (.tup (cutM xs lo hi)) s
  | x => match seqOf s x with
    | some xs => mkList fr (cutM xs lo hi) s
    | none => .bad
def mSl (fr : Bool) (ma : Ev → M MV) (ml mh : Ev → M (Option Int)) : Ev → M MV := fun env => M.bnd (ma env) fun x => M.bnd (ml env) fun lo => M.bnd (mh env) fun hi => slF fr x lo hi
def rSl (T : Tx) (fr : Bool) : V → Option Int → Option Int → Hp → VK → Prop := fun x lo hi H Q => ∃ (W : WX) (σ : St) (ρ : List Addr) (st : Sto) (a : MV), Sim T ρ st H ∧ RV T ρ H a x ∧ Out T W (RV T) ρ H σ (slF fr a lo hi st) Q
theorem cut_whole {α : Type} {xs : List α} {lo hi : Option Int} (h : HT.sIx xs.length 0 lo = 0 ∧ HT.sIx xs.length xs.length hi = xs.length) : (xs.drop (HT.sIx xs.length 0 lo)).take (HT.sIx xs.length xs.length hi - HT.sIx xs.length 0 lo) = xs := by
  rw [h.1, h.2]; simp
theorem sl_ok (hK : T.K = X.K) {fr : Bool} : SlR X (rSl T fr) := by
  intro pins s σ H x v vl vu lo hi sl Q I rx hs pl pu ⟨W, σ', ρ, st, a, S, ra, h⟩
  have lst : ∀ {xs : List MV}, seqOf st a = some xs → Out T W (RV T) ρ H σ' (mkList fr (cutM xs lo hi) st) Q → (∀ ys, a ≠ .tup ys) → ∃ T id, typeLookup (.type T) "__getitem__" = pure (some (.builtin id)) ∧ s.TypeIs v T ∧ wpAny (model X.prog X.w) X.A (getItem v (.ref sl)) (EP X pins σ Q) X.xe s := fun {xs} e h nt => by
    have q : ∃ p ys, x = .ref p ∧ SqL T.K H p ys ∧ RVs T ρ H xs ys := by
      cases a with
      | tup zs => exact absurd rfl (nt zs)
      | frz zs =>
        cases e
        obtain ⟨p, ys, rfl, z, r⟩ := ra
        exact ⟨p, ys, rfl, z.sq, r⟩
      | lst zs =>
        obtain ⟨p, ys, rfl, z, r⟩ := list_of S ra e
        exact ⟨p, ys, rfl, SqL.of z, r⟩
      | ref n =>
        obtain ⟨p, ys, rfl, z, r⟩ := list_of S ra e
        exact ⟨p, ys, rfl, SqL.of z, r⟩
      | _ => cases e
    obtain ⟨p, ys, rfl, z, r⟩ := q
    exact sl_list pins s σ H _ v vl vu lo hi sl Q I rx hs pl pu ⟨p, ys, rfl, hK ▸ z, mk_out S h (cut_rel r lo hi)⟩
  unfold slF at h
  split at h
  · split at h
    · rename_i z hl
      exact sl_str pins s σ H x v vl vu lo hi sl Q I rx hs pl pu ⟨z, ra, line_le hl, h ρ H _ (Fut.refl S) rfl⟩
    · exact h.elim
  · rename_i xs
    obtain ⟨p, ys, rfl, z, r⟩ := ra
    refine sl_tupA pins s σ H _ v vl vu lo hi sl Q I rx hs pl pu ⟨p, ys, rfl, hK ▸ z.sq, fun hw => ?_, fun _ => tup_out (W := W) (σ := σ') S h (cut_rel r lo hi)⟩
    refine h ρ H _ (Fut.refl S) ⟨p, ys, rfl, z, ?_⟩
    have hw' : HT.sIx xs.length 0 lo = 0 ∧ HT.sIx xs.length xs.length hi = xs.length := by rw [r.length]; exact hw
    unfold cutM
    rw [cut_whole hw']
    exact r
  · rename_i n1 n2
    split at h
    · rename_i xs e
      exact lst e h (fun ys e2 => n2 ys e2)
    · exact h.elim
theorem v_sl (fr : Bool) (hK : T.K = X.K) {lo hi : Option Expr} {ml mh : Ev → M (Option Int)} (ha : PE X e (tE T W ma)) (hl : PO X lo (tO T W ml)) (hh : PO X hi (tO T W mh)) : PE X (.Subscript e (.Slice lo hi none p2) pos) (tE T W (mSl fr ma ml mh)) :=
  pe_mono (pe_slice (sl_ok (fr := fr) hK) ha hl hh) fun σ H Q h => by
    obtain ⟨ρ, st, env, S, E, h⟩ := h
    refine ⟨ρ, st, env, S, E, h.bnd.imp fun x H1 ⟨ρ1, s1, a, F1, r1, q1⟩ => ?_⟩
    refine ⟨ρ1, s1, env, F1.sim, E.later F1.lat, (Out.bnd q1).imp fun lo H2 ⟨ρ2, s2, lo', F2, r2, q2⟩ => ?_⟩
    subst r2
    refine ⟨ρ2, s2, env, F2.sim, E.later (F1.trans F2).lat, (Out.bnd q2).imp fun hi H3 ⟨ρ3, s3, hi', F3, r3, q3⟩ => ?_⟩
    subst r3
    exact ⟨W, σ, ρ3, s3, a, F3.sim, r1.later (F2.trans F3).lat, q3⟩
end

/-! ### calls of what is built in -/
def mCallF (f : Sto → List MV → Option MV) (as : Ev → M (List MV)) : Ev → M MV := fun env => M.bnd (as env) fun xs s => M.opt (f s xs) s
/-- .. that makes a list -/
def mCallL (fr : Bool) (f : Sto → List MV → Option (List MV)) (as : Ev → M (List MV)) : Ev → M MV := fun env => M.bnd (as env) fun xs s => match f s xs with
  | some ys => mkList fr ys s
  | none => .bad
def rF (T : Tx) (f : Sto → List MV → Option MV) : List V → Hp → VK → Prop := fun vs H Q => ∃ ρ st xs v, Sim T ρ st H ∧ RVs T ρ H xs vs ∧ f st xs = some v ∧ ∀ H' u, Fut T ρ H ρ st H' → RV T ρ H' v u → Q u H'
def rFL (T : Tx) (f : Sto → List MV → Option (List MV)) : List V → Hp → VK → Prop := fun vs H Q => ∃ ρ st xs ys, Sim T ρ st H ∧ RVs T ρ H xs vs ∧ f st xs = some ys ∧ ∀ us, RVs T ρ H ys us → ∀ p, H p = none → Q (.ref p) (upd H p (.lst us))
section
variable {X : Cx} {T : Tx} {W : WX} {as : Ev → M (List MV)} {e : Expr} {es : List Expr} {p pos : Pos} {x : Str} {id : String} {f : Sto → List MV → Option MV} {g : Sto → List MV → Option (List MV)}
theorem call_red {σ : St} {H : Hp} {Q : VK} (h : tE T W (mCallF f as) σ H Q) : tCB (rF T f) (tA T W as) σ H Q := by
  obtain ⟨ρ, st, env, S, E, h⟩ := h
  refine ⟨ρ, st, env, S, E, h.bnd.imp fun vs H1 ⟨ρ1, s1, xs, F1, r1, q1⟩ => ?_⟩
  obtain ⟨v, e, q⟩ := opt_out q1
  exact ⟨ρ1, s1, xs, v, F1.sim, r1, e, fun H' u F r => q ρ1 H' u F r⟩
theorem callL_red {fr : Bool} {σ : St} {H : Hp} {Q : VK} (h : tE T W (mCallL fr g as) σ H Q) : tCB (rFL T g) (tA T W as) σ H Q := by
  obtain ⟨ρ, st, env, S, E, h⟩ := h
  refine ⟨ρ, st, env, S, E, h.bnd.imp fun vs H1 ⟨ρ1, s1, xs, F1, r1, q1⟩ => ?_⟩
  split at q1
  · rename_i ys e
    exact ⟨ρ1, s1, xs, ys, F1.sim, r1, e, fun us r => mk_out F1.sim q1 r⟩
  · exact q1.elim
theorem v_callB (hc : CallR X (.builtin id) (rF T f)) (hv : bootBuiltins x = some (.builtin id)) (hm : X.mg x = none) (ha : PA X (e :: es) (tA T W as)) (hg : Gl X x := by rfl) (hn : x ≠ "__name__" := by decide) (hdb : (x == ("__debug__" : Str)) = false := by decide)
    (he : starEach (e :: es) X.env = (false, eval e X.env) :: starEach es X.env := by rfl) (hpl : (backTo pos (starEach es X.env)).any (·.1) = false := by rfl) : PE X (.Call (.Name x p) (e :: es) [] pos) (tE T W (mCallF f as)) :=
  pe_mono (pe_callB hc hg hm hv ha hn hdb he hpl) fun σ H Q h => call_red h
theorem v_callT (hc : CallR X (.type id) (rF T f)) (hv : bootBuiltins x = some (.type id)) (hm : X.mg x = none) (ha : PA X (e :: es) (tA T W as)) (hg : Gl X x := by rfl) (hn : x ≠ "__name__" := by decide) (hdb : (x == ("__debug__" : Str)) = false := by decide)
    (he : starEach (e :: es) X.env = (false, eval e X.env) :: starEach es X.env := by rfl) (hpl : (backTo pos (starEach es X.env)).any (·.1) = false := by rfl) : PE X (.Call (.Name x p) (e :: es) [] pos) (tE T W (mCallF f as)) :=
  pe_mono (pe_callTy hc hg hm hv ha hn hdb he hpl) fun σ H Q h => call_red h
theorem v_callBL (fr : Bool) (hc : CallR X (.builtin id) (rFL T g)) (hv : bootBuiltins x = some (.builtin id)) (hm : X.mg x = none) (ha : PA X (e :: es) (tA T W as)) (hg : Gl X x := by rfl) (hn : x ≠ "__name__" := by decide) (hdb : (x == ("__debug__" : Str)) = false := by decide)
    (he : starEach (e :: es) X.env = (false, eval e X.env) :: starEach es X.env := by rfl) (hpl : (backTo pos (starEach es X.env)).any (·.1) = false := by rfl) : PE X (.Call (.Name x p) (e :: es) [] pos) (tE T W (mCallL fr g as)) :=
  pe_mono (pe_callB hc hg hm hv ha hn hdb he hpl) fun σ H Q h => callL_red h
theorem v_callTL (fr : Bool) (hc : CallR X (.type id) (rFL T g)) (hv : bootBuiltins x = some (.type id)) (hm : X.mg x = none) (ha : PA X (e :: es) (tA T W as)) (hg : Gl X x := by rfl) (hn : x ≠ "__name__" := by decide) (hdb : (x == ("__debug__" : Str)) = false := by decide)
    (he : starEach (e :: es) X.env = (false, eval e X.env) :: starEach es X.env := by rfl) (hpl : (backTo pos (starEach es X.env)).any (·.1) = false := by rfl) : PE X (.Call (.Name x p) (e :: es) [] pos) (tE T W (mCallL fr g as)) :=
  pe_mono (pe_callTy hc hg hm hv ha hn hdb he hpl) fun σ H Q h => callL_red h
theorem v_callM (hc : CallR X (.builtin id) (rF T f)) (hm : X.mg x = some (.builtin id)) (ha : PA X (e :: es) (tA T W as)) (hg : Gl X x := by rfl) (hdb : (x == ("__debug__" : Str)) = false := by decide)
    (he : starEach (e :: es) X.env = (false, eval e X.env) :: starEach es X.env := by rfl) (hpl : (backTo pos (starEach es X.env)).any (·.1) = false := by rfl) : PE X (.Call (.Name x p) (e :: es) [] pos) (tE T W (mCallF f as)) :=
  pe_mono (pe_callBfun hc hg hm ha hdb he hpl) fun σ H Q h => call_red h
/-! what they do -/
def fLen (s : Sto) : List MV → Option MV
  | [.str z] => if z.length ≤ line then some (.int z.length) else none
  | [x] => (seqOf s x).map fun xs => .int xs.length
  | _ => none
theorem rvs1 {ρ : List Addr} {H : Hp} {m : MV} {vs : List V} (r : RVs T ρ H [m] vs) : ∃ v, vs = [v] ∧ RV T ρ H m v := by
  obtain ⟨v, us, rfl, r1, r2⟩ := r
  cases r2
  exact ⟨v, rfl, r1⟩
theorem rvs2 {ρ : List Addr} {H : Hp} {m n : MV} {vs : List V} (r : RVs T ρ H [m, n] vs) : ∃ v u, vs = [v, u] ∧ RV T ρ H m v ∧ RV T ρ H n u := by
  obtain ⟨v, us, rfl, r1, r2⟩ := r
  obtain ⟨u, rfl, r3⟩ := rvs1 r2
  exact ⟨v, u, rfl, r1, r3⟩
theorem ok_len (hK : T.K = X.K) : CallR X (.builtin "len") (rF T fLen) := by
  intro pins s σ H xs us Q I r ⟨ρ, st, ms, v, S, rm, e, q⟩
  unfold fLen at e
  split at e
  · split at e
    · rename_i hl
      cases e
      obtain ⟨w, rfl, r1⟩ := rvs1 rm
      cases r1
      exact call_len pins s σ H _ us Q I r ⟨_, _, rfl, ⟨line_le hl, rfl⟩, q H _ (Fut.refl S) rfl⟩
    · cases e
  · rename_i x _
    cases h : seqOf st x with
    | none => rw [h] at e; cases e
    | some ys =>
      rw [h] at e; cases e
      obtain ⟨w, rfl, r1⟩ := rvs1 rm
      obtain ⟨p, zs, rfl, hq, r2⟩ := seq_of S r1 h
      exact call_len_seq pins s σ H _ us Q I r ⟨p, zs, rfl, hK ▸ hq, by rw [← r2.length]; exact q H _ (Fut.refl S) rfl⟩
  · cases e
def fList (s : Sto) : List MV → Option (List MV)
  | [x] => seqOf s x
  | _ => none
theorem ok_list (hK : T.K = X.K) : CallR X (.type "list") (rFL T fList) := by
  intro pins s σ H xs us Q I r ⟨ρ, st, ms, ys, S, rm, e, q⟩
  unfold fList at e
  split at e
  · obtain ⟨w, rfl, r1⟩ := rvs1 rm
    obtain ⟨p, zs, rfl, hq, r2⟩ := seq_of S r1 e
    exact call_list_of pins s σ H _ us Q I r ⟨p, zs, rfl, hK ▸ hq, q zs r2⟩
  · cases e
def fTuple (s : Sto) : List MV → Option MV
  | [.tup xs] => some (.tup xs)
  | [x] => (seqOf s x).map .tup
  | _ => none
theorem ok_tuple (hK : T.K = X.K) : CallR X (.type "tuple") (rF T fTuple) := by
  intro pins s σ H xs us Q I r ⟨ρ, st, ms, v, S, rm, e, q⟩
  unfold fTuple at e
  split at e
  · cases e
    obtain ⟨w, rfl, r1⟩ := rvs1 rm
    obtain ⟨a, ys, rfl, z, r2⟩ := id r1
    exact call_tuple_of pins s σ H _ us Q I r ⟨a, ys, rfl, .inr ⟨hK ▸ z.sq, q H _ (Fut.refl S) r1⟩⟩
  · rename_i x nt
    cases h : seqOf st x with
    | none => rw [h] at e; cases e
    | some ys =>
      rw [h] at e; cases e
      obtain ⟨w, rfl, r1⟩ := rvs1 rm
      have z : ∃ p zs, w = .ref p ∧ SqL T.K H p zs ∧ RVs T ρ H ys zs := by
        cases x with
        | tup zs => exact absurd rfl (nt zs)
        | frz zs =>
          cases h
          obtain ⟨p, us, rfl, z, r⟩ := r1
          exact ⟨p, us, rfl, z.sq, r⟩
        | lst zs => obtain ⟨p, us, rfl, z, r⟩ := list_of S r1 h; exact ⟨p, us, rfl, SqL.of z, r⟩
        | ref n => obtain ⟨p, us, rfl, z, r⟩ := list_of S r1 h; exact ⟨p, us, rfl, SqL.of z, r⟩
        | _ => cases h
      obtain ⟨p, zs, rfl, hq, r2⟩ := z
      exact call_tuple_of pins s σ H _ us Q I r ⟨p, zs, rfl, .inl ⟨hK ▸ hq, q_new S q fun p' H' n hp L => ⟨p', _, rfl, .inl ⟨n, .inl hp⟩, r2.later L⟩⟩⟩
  · cases e
def fInt (_ : Sto) : List MV → Option MV
  | [.int i] => some (.int i)
  | [.bl b] => some (.int (if b then 1 else 0))
  | _ => none
theorem ok_int : CallR X (.type "int") (rF T fInt) := by
  intro pins s σ H xs us Q I r ⟨ρ, st, ms, v, S, rm, e, q⟩
  unfold fInt at e
  split at e
  · cases e
    obtain ⟨w, rfl, r1⟩ := rvs1 rm
    cases r1
    exact call_int1 pins s σ H _ us Q I r (.inl ⟨_, rfl, q H _ (Fut.refl S) rfl⟩)
  · cases e
    obtain ⟨w, rfl, r1⟩ := rvs1 rm
    cases r1
    exact call_int1 pins s σ H _ us Q I r (.inr ⟨_, rfl, q H _ (Fut.refl S) rfl⟩)
  · cases e
def fStrI (_ : Sto) : List MV → Option MV
  | [.int i] => if i.natAbs.log2 < 1920 then some (.str (toString i)) else none
  | _ => none
theorem ok_strI : CallR X (.type "str") (rF T fStrI) := by
  intro pins s σ H xs us Q I r ⟨ρ, st, ms, v, S, rm, e, q⟩
  unfold fStrI at e
  split at e
  · split at e
    · rename_i hl
      cases e
      obtain ⟨w, rfl, r1⟩ := rvs1 rm
      cases r1
      exact call_str_int pins s σ H _ us Q I r ⟨_, rfl, hl, q H _ (Fut.refl S) rfl⟩
    · cases e
  · cases e
def fAbs (_ : Sto) : List MV → Option MV
  | [.int i] => some (.int i.natAbs)
  | _ => none
theorem ok_abs : CallR X (.builtin "abs") (rF T fAbs) := by
  intro pins s σ H xs us Q I r ⟨ρ, st, ms, v, S, rm, e, q⟩
  unfold fAbs at e
  split at e
  · rename_i i
    cases e
    obtain ⟨w, rfl, r1⟩ := rvs1 rm
    cases r1
    have e1 : (if i < 0 then -i else i) = (i.natAbs : Int) := by split <;> omega
    exact call_abs pins s σ H _ us Q I r ⟨_, rfl, by rw [e1]; exact q H _ (Fut.refl S) rfl⟩
  · cases e
def fMax (_ : Sto) : List MV → Option MV
  | [.int i, .int j] => some (.int (if j > i then j else i))
  | _ => none
def fMin (_ : Sto) : List MV → Option MV
  | [.int i, .int j] => some (.int (if j < i then j else i))
  | _ => none
theorem ok_max (hc : X.calm = true) : CallR X (.builtin "max") (rF T fMax) := by
  intro pins s σ H xs us Q I r ⟨ρ, st, ms, v, S, rm, e, q⟩
  unfold fMax at e
  split at e
  · cases e
    obtain ⟨w, w', rfl, r1, r2⟩ := rvs2 rm
    cases r1; cases r2
    exact call_max2 hc pins s σ H _ us Q I r ⟨_, _, rfl, q H _ (Fut.refl S) rfl⟩
  · cases e
theorem ok_min (hc : X.calm = true) : CallR X (.builtin "min") (rF T fMin) := by
  intro pins s σ H xs us Q I r ⟨ρ, st, ms, v, S, rm, e, q⟩
  unfold fMin at e
  split at e
  · cases e
    obtain ⟨w, w', rfl, r1, r2⟩ := rvs2 rm
    cases r1; cases r2
    exact call_min2 hc pins s σ H _ us Q I r ⟨_, _, rfl, q H _ (Fut.refl S) rfl⟩
  · cases e
def fGcd (_ : Sto) : List MV → Option MV
  | [.int i, .int j] => some (.int (Nat.gcd i.natAbs j.natAbs : Nat))
  | _ => none
theorem ok_gcd : CallR X (.builtin "math.gcd") (rF T fGcd) := by
  intro pins s σ H xs us Q I r ⟨ρ, st, ms, v, S, rm, e, q⟩
  unfold fGcd at e
  split at e
  · cases e
    obtain ⟨w, w', rfl, r1, r2⟩ := rvs2 rm
    cases r1; cases r2
    exact cr_gcd pins s σ H _ us Q I r ⟨_, _, rfl, q H _ (Fut.refl S) rfl⟩
  · cases e
end
end Z

namespace Z
open PySem L2

/-! ### statements -/
inductive Fl where
  | nx (e : Ev) (s : Sto) | rt (v : MV) (s : Sto) | bk (e : Ev) (s : Sto) | ct (e : Ev) (s : Sto) | ex (e : Ev) (c : Nat) (fs : List (Nat × MV)) (s : Sto) | bad
abbrev MS := Ev → Sto → Fl
def OutS (T : Tx) (W : WX) (ρ : List Addr) (H : Hp) (D : Ends) : Fl → Prop
  | .nx e s => ∀ ρ' H' σ', Fut T ρ H ρ' s H' → REnv T ρ' H' e σ' → D.nx σ' H'
  | .rt v s => ∀ ρ' H' u, Fut T ρ H ρ' s H' → RV T ρ' H' v u → D.rt u H'
  | .bk e s => ∀ ρ' H' σ', Fut T ρ H ρ' s H' → REnv T ρ' H' e σ' → D.bk σ' H'
  | .ct e s => ∀ ρ' H' σ', Fut T ρ H ρ' s H' → REnv T ρ' H' e σ' → D.ct σ' H'
  | .ex e c fs s => ∀ ρ' H' σ' cl d, Fut T ρ H ρ' s H' → REnv T ρ' H' e σ' → RX T ρ' H' c fs cl d → W cl d σ' H'
  | .bad => False
def tS (T : Tx) (W : WX) (m : MS) : TS := fun D σ H => ∃ ρ st env, Sim T ρ st H ∧ REnv T ρ H env σ ∧ OutS T W ρ H D (m env st)
/-- an expression, then -/
def bndS {α : Type} (m : M α) (env : Ev) (f : α → Sto → Fl) : Sto → Fl := fun st => match m st with
  | .ok a t => f a t
  | .ex c fs t => .ex env c fs t
  | .bad => .bad
section
variable {T : Tx} {W : WX} {ρ ρ' ρ1 : List Addr} {H H' H1 : Hp} {σ : St} {st s1 : Sto} {α β : Type} {D : Ends} {env : Ev}
theorem OutS.fut {r : Fl} (F : Fut T ρ H ρ1 s1 H1) (h : OutS T W ρ H D r) : OutS T W ρ1 H1 D r := by
  cases r with
  | nx e s => exact fun ρ' H' σ' F' r => h ρ' H' σ' (F.trans F') r
  | rt v s => exact fun ρ' H' σ' F' r => h ρ' H' σ' (F.trans F') r
  | bk e s => exact fun ρ' H' σ' F' r => h ρ' H' σ' (F.trans F') r
  | ct e s => exact fun ρ' H' σ' F' r => h ρ' H' σ' (F.trans F') r
  | ex e c fs s => exact fun ρ' H' σ' cl d F' r => h ρ' H' σ' cl d (F.trans F') r
  | bad => exact h
theorem OutS.bnd {rel : List Addr → Hp → α → β → Prop} {m : M α} {f : α → Sto → Fl} (E : REnv T ρ H env σ) (h : OutS T W ρ H D (bndS m env f st)) :
    Out T W rel ρ H σ (m st) (fun b H1 => ∃ ρ1 s1 a, Fut T ρ H ρ1 s1 H1 ∧ rel ρ1 H1 a b ∧ OutS T W ρ1 H1 D (f a s1)) := by
  unfold bndS at h
  cases e : m st with
  | ok a t =>
    rw [e] at h
    exact fun ρ1 H1 b F r => ⟨ρ1, t, a, F, r, h.fut F⟩
  | ex c fs t =>
    rw [e] at h
    exact fun ρ' H' cl d F r => h ρ' H' σ cl d F (E.later F.lat) r
  | bad =>
    rw [e] at h
    exact h
/-- another end -/
theorem OutS.ends {r : Fl} {D' : Ends} (h : OutS T W ρ H D r) (h1 : ∀ e s ρ' H' σ', r = .nx e s → Fut T ρ H ρ' s H' → REnv T ρ' H' e σ' → D.nx σ' H' → D'.nx σ' H') (h2 : ∀ u H', D.rt u H' → D'.rt u H')
    (h3 : ∀ e s ρ' H' σ', r = .bk e s → Fut T ρ H ρ' s H' → REnv T ρ' H' e σ' → D.bk σ' H' → D'.bk σ' H') (h4 : ∀ e s ρ' H' σ', r = .ct e s → Fut T ρ H ρ' s H' → REnv T ρ' H' e σ' → D.ct σ' H' → D'.ct σ' H') : OutS T W ρ H D' r := by
  cases r with
  | nx e s => exact fun ρ' H' σ' F' r => h1 e s ρ' H' σ' rfl F' r (h ρ' H' σ' F' r)
  | rt v s => exact fun ρ' H' σ' F' r => h2 _ _ (h ρ' H' σ' F' r)
  | bk e s => exact fun ρ' H' σ' F' r => h3 e s ρ' H' σ' rfl F' r (h ρ' H' σ' F' r)
  | ct e s => exact fun ρ' H' σ' F' r => h4 e s ρ' H' σ' rfl F' r (h ρ' H' σ' F' r)
  | ex e c fs s => exact h
  | bad => exact h
end

def sSeq (a b : MS) : MS := fun env st => match a env st with
  | .nx e s => b e s
  | .rt v s => .rt v s
  | .bk e s => .bk e s
  | .ct e s => .ct e s
  | .ex e c fs s => .ex e c fs s
  | .bad => .bad
def sNil : MS := fun env st => .nx env st
def sBreak : MS := fun env st => .bk env st
def sCont : MS := fun env st => .ct env st
def sAsg (i : Nat) (m : Ev → M MV) : MS := fun env => bndS (m env) env fun v s => .nx (env.set i (some v)) s
def sExpr (m : Ev → M MV) : MS := fun env => bndS (m env) env fun _ s => .nx env s
def sRet (m : Ev → M MV) : MS := fun env => bndS (m env) env fun v s => .rt v s
def sRetN : MS := fun _ s => .rt .non s
def sIf (m : Ev → M Bool) (a b : MS) : MS := fun env => bndS (m env) env fun k s => if k = true then a env s else b env s
section
variable {X : Cx} {T : Tx} {W : WX} {ma mb mc : Ev → M MV} {m : Ev → M Bool} {a b : MS} {st : Stmt} {rest sa sb : List Stmt} {e c : Expr} {pos pos' : Pos}
theorem s_nil : PSs X [] (tS T W sNil) := pss_mono pss_nil fun D σ H ⟨ρ, st, env, S, E, h⟩ => h ρ H σ (Fut.refl S) E
theorem s_cons (h1 : PS X st (tS T W a)) (h2 : PSs X rest (tS T W b)) : PSs X (st :: rest) (tS T W (sSeq a b)) := pss_mono (pss_cons h1 h2) fun D σ H ⟨ρ, st, env, S, E, h⟩ => by
  refine ⟨ρ, st, env, S, E, ?_⟩
  unfold sSeq at h
  cases r : a env st with
  | nx e s =>
    rw [r] at h
    exact fun ρ' H' σ' F E' => ⟨ρ', s, e, F.sim, E', h.fut F⟩
  | rt v s => rw [r] at h; exact h
  | bk e s => rw [r] at h; exact h
  | ct e s => rw [r] at h; exact h
  | ex e c fs s => rw [r] at h; exact h
  | bad => rw [r] at h; exact h
theorem s_one (h1 : PS X st (tS T W a)) : PSs X [st] (tS T W a) := pss_one h1
theorem s_pass : PS X (.Pass pos) (tS T W sNil) := ps_mono ps_pass fun D σ H ⟨ρ, st, env, S, E, h⟩ => h ρ H σ (Fut.refl S) E
theorem s_break : PS X (.Break pos) (tS T W sBreak) := ps_mono ps_break fun D σ H ⟨ρ, st, env, S, E, h⟩ => h ρ H σ (Fut.refl S) E
theorem s_continue : PS X (.Continue pos) (tS T W sCont) := ps_mono ps_continue fun D σ H ⟨ρ, st, env, S, E, h⟩ => h ρ H σ (Fut.refl S) E
theorem s_set {x : Str} (i : Nat) (hN : X.N.Nodup) (he : PE X e (tE T W ma)) (hi : X.N[i]? = some x := by rfl) (hx : Loc X.env.scope x := by first | exact .inl rfl | exact .inr rfl) (hs : swapsWith e (some (.Name x pos')) pos.line X.env = pure false := by rfl)
    (hf : X.fn x = true ∨ X.env.scope.names.lookup x = some .local := by first | exact .inl rfl | exact .inr rfl | assumption) : PS X (.Assign [.Name x pos'] e pos) (tS T W (sAsg i ma)) :=
  ps_mono (ps_set hN hi hx he hs hf) fun D σ H ⟨ρ, st, env, S, E, h⟩ => ⟨ρ, st, env, S, E, (OutS.bnd E h).imp fun v H1 ⟨ρ1, s1, m, F1, r1, q1⟩ => q1 ρ1 H1 _ (Fut.refl F1.sim) ((E.later F1.lat).set r1 i)⟩
theorem s_expr (he : PE X e (tE T W ma)) (hs : swapsWith e none pos.line X.env = pure false := by rfl) : PS X (.Expr e pos) (tS T W (sExpr ma)) :=
  ps_mono (ps_expr he hs) fun D σ H ⟨ρ, st, env, S, E, h⟩ => ⟨ρ, st, env, S, E, (OutS.bnd E h).imp fun v H1 ⟨ρ1, s1, m, F1, r1, q1⟩ => q1 ρ1 H1 _ (Fut.refl F1.sim) (E.later F1.lat)⟩
theorem s_doc {x j} : PS X (.Expr (.Constant (.str x) j pos) pos') (tS T W sNil) := ps_mono ps_doc fun D σ H ⟨ρ, st, env, S, E, h⟩ => h ρ H σ (Fut.refl S) E
theorem s_ret (he : PE X e (tE T W ma)) : PS X (.Return (some e) pos) (tS T W (sRet ma)) :=
  ps_mono (ps_ret he) fun D σ H ⟨ρ, st, env, S, E, h⟩ => ⟨ρ, st, env, S, E, (OutS.bnd E h).imp fun v H1 ⟨ρ1, s1, m, F1, r1, q1⟩ => q1 ρ1 H1 _ (Fut.refl F1.sim) r1⟩
theorem s_retN : PS X (.Return none pos) (tS T W sRetN) := ps_mono ps_retN fun D σ H ⟨ρ, st, env, S, E, h⟩ => h ρ H .non (Fut.refl S) rfl
theorem s_if (hc : PT X c (tT T W m)) (ha : PSs X sa (tS T W a)) (hb : PSs X sb (tS T W b)) : PS X (.If c sa sb pos) (tS T W (sIf m a b)) :=
  ps_mono (ps_if hc ha hb) fun D σ H ⟨ρ, st, env, S, E, h⟩ => ⟨ρ, st, env, S, E, (OutS.bnd E h).imp fun k H1 ⟨ρ1, s1, k', F1, r1, q1⟩ => by
    subst r1
    cases k' with
    | true => rw [if_pos rfl] at q1; exact ⟨ρ1, s1, env, F1.sim, E.later F1.lat, q1⟩
    | false => rw [if_neg (by decide)] at q1; exact ⟨ρ1, s1, env, F1.sim, E.later F1.lat, q1⟩⟩
end

/-! ### targets -/
abbrev MG := MV → Ev → M Ev
abbrev MGs := List MV → Ev → M Ev
/-- vs: the slots that it may store -/
def OutG (T : Tx) (vs : List Nat) (σ : St) (ρ : List Addr) (H : Hp) (r : R Ev) (Q : St → Hp → Prop) : Prop := match r with
  | .ok e s => ∀ ρ' H' σ', Fut T ρ H ρ' s H' → REnv T ρ' H' e σ' → wipe σ' vs = wipe σ vs → Q σ' H'
  | _ => False
def tTg (T : Tx) (vs : List Nat) (g : MG) : TG := fun v σ H Q => ∃ ρ st env m, Sim T ρ st H ∧ REnv T ρ H env σ ∧ RV T ρ H m v ∧ OutG T vs σ ρ H (g m env st) Q
def tTgs (T : Tx) (vs : List Nat) (g : MGs) : TGs := fun us σ H Q => ∃ ρ st env ms, Sim T ρ st H ∧ REnv T ρ H env σ ∧ RVs T ρ H ms us ∧ OutG T vs σ ρ H (g ms env st) Q
theorem wipe_set {σ : St} {i : Nat} {o : Option V} : ∀ {vs : List Nat}, i ∈ vs → wipe (σ.set i o) vs = wipe σ vs
  | [], h => by simp at h
  | v :: vs, h => by
    show (wipe (σ.set i o) vs).set v none = (wipe σ vs).set v none
    by_cases hi : i ∈ vs
    · rw [wipe_set hi]
    · have e : i = v := by rcases List.mem_cons.mp h with h | h; exact h; exact absurd h hi
      subst e
      have go : ∀ us : List Nat, i ∉ us → wipe (σ.set i o) us = (wipe σ us).set i o := fun us => by
        induction us with
        | nil => intro _; rfl
        | cons u us ih =>
          intro hn
          have hu : i ≠ u := fun z => hn (z ▸ List.mem_cons_self)
          show (wipe (σ.set i o) us).set u none = ((wipe σ us).set u none).set i o
          rw [ih fun z => hn (List.mem_cons_of_mem _ z), List.set_comm _ _ hu]
      rw [go vs hi, List.set_set]
theorem wipe_wipe {σ : St} : ∀ {vs : List Nat}, wipe (wipe σ vs) vs = wipe σ vs := fun {vs} => by
  have go : ∀ us : List Nat, (∀ u ∈ us, u ∈ vs) → wipe (wipe σ us) vs = wipe σ vs := fun us => by
    induction us with
    | nil => intro _; rfl
    | cons u us ih =>
      intro h
      show wipe ((wipe σ us).set u none) vs = _
      rw [wipe_set (h u List.mem_cons_self)]
      exact ih fun x hx => h x (List.mem_cons_of_mem _ hx)
  exact go vs fun _ h => h
def tgName (i : Nat) : MG := fun v env s => .ok (env.set i (some v)) s
def tgNil : MGs := fun vs env s => match vs with
  | [] => .ok env s
  | _ => .bad
def tgCons (g : MG) (r : MGs) : MGs := fun vs env s => match vs with
  | v :: vs => match g v env s with
    | .ok e t => r vs e t
    | _ => .bad
  | [] => .bad
def tgTup (n : Nat) (g : MGs) : MG := fun v env s => match v with
  | .tup xs => if xs.length = n then g xs env s else .bad
  | _ => .bad
section
variable {X : Cx} {T : Tx} {W : WX} {ma mb mc : Ev → M MV} {e o i tg : Expr} {es : List Expr} {pos pos' : Pos} {g : MG} {gs : MGs} {ρ ρ1 : List Addr} {H H1 : Hp} {s1 : Sto} {vs : List Nat} {σ σ1 : St}
theorem OutG.fut {r : R Ev} {Q : St → Hp → Prop} (F : Fut T ρ H ρ1 s1 H1) (hw : wipe σ1 vs = wipe σ vs) (h : OutG T vs σ ρ H r Q) : OutG T vs σ1 ρ1 H1 r Q := by
  cases r with
  | ok e s => exact fun ρ' H' σ' F' r w => h ρ' H' σ' (F.trans F') r (w.trans hw)
  | ex c fs s => exact h
  | bad => exact h
theorem pg_mono {t t' : TG} (h : PG X tg t) (q : ∀ v σ H Q, t' v σ H Q → t v σ H Q) : PG X tg t' := ⟨fun pins s σ H v u Q I r z => h.run pins s σ H v u Q I r (q v σ H Q z)⟩
theorem pgs_mono {t t' : TGs} (h : PGs X es t) (q : ∀ v σ H Q, t' v σ H Q → t v σ H Q) : PGs X es t' := ⟨fun pins s σ H v u Q I r z => h.run pins s σ H v u Q I r (q v σ H Q z)⟩
theorem g_name {x : Str} (i : Nat) (hN : X.N.Nodup) (hi : X.N[i]? = some x := by rfl) (hx : Loc X.env.scope x := by first | exact .inl rfl | exact .inr rfl) (hf : X.fn x = true ∨ X.env.scope.names.lookup x = some .local := by first | exact .inl rfl | exact .inr rfl | assumption) (hv : i ∈ vs := by decide) :
    PG X (.Name x pos) (tTg T vs (tgName i)) := pg_mono (pg_name hN hi hx hf) fun v σ H Q ⟨ρ, st, env, m, S, E, r, h⟩ => h ρ H _ (Fut.refl S) (E.set r i) (wipe_set hv)
theorem gs_nil : PGs X [] (tTgs T vs tgNil) := pgs_mono pgs_nil fun us σ H Q ⟨ρ, st, env, ms, S, E, r, h⟩ => by
  cases ms with
  | nil => cases r; exact ⟨rfl, h ρ H _ (Fut.refl S) E rfl⟩
  | cons m ms => exact h.elim
theorem gs_cons (h1 : PG X e (tTg T vs g)) (h2 : PGs X es (tTgs T vs gs)) (hs : (assignEach (e :: es) X.env).map (·.2) = assign e X.env :: (assignEach es X.env).map (·.2) := by rfl) : PGs X (e :: es) (tTgs T vs (tgCons g gs)) :=
  pgs_mono (pgs_cons h1 h2 hs) fun ws σ H Q ⟨ρ, st, env, ms, S, E, r, h⟩ => by
    cases ms with
    | nil => exact h.elim
    | cons m ms =>
      obtain ⟨v, us, rfl, r1, r2⟩ := r
      refine ⟨v, us, rfl, ρ, st, env, m, S, E, r1, ?_⟩
      unfold tgCons at h
      cases q : g m env st with
      | ok e t =>
        simp only [q] at h
        exact fun ρ' H' σ' F E' w => ⟨ρ', t, e, ms, F.sim, E', r2.later F.lat, h.fut F w⟩
      | ex c fs s => simp only [q] at h; exact h
      | bad => simp only [q] at h; exact h
theorem g_tup {k n : Nat} (hK : T.K = X.K) (hc : X.calm = true) (h : PGs X es (tTgs T vs gs)) (hn : (assignEach es X.env).length = n := by rfl) (hst : (assignEach es X.env).findIdx? (·.1) = none := by rfl) : PG X (.Tuple es k pos) (tTg T vs (tgTup n gs)) :=
  pg_mono (pg_tup hc h hn hst) fun v σ H Q ⟨ρ, st, env, m, S, E, r, h⟩ => by
    cases m with
    | tup xs =>
      obtain ⟨a, ys, rfl, z, r⟩ := r
      unfold tgTup at h
      by_cases hl : xs.length = n
      · simp only [hl, if_true] at h
        exact ⟨a, ys, rfl, hK ▸ z.sq, by rw [← r.length]; exact hl, ρ, st, env, xs, S, E, r, h⟩
      · simp only [if_neg hl] at h; exact h.elim
    | _ => exact h.elim
/-- target = value -/
def sTg (g : MG) (m : Ev → M MV) : MS := fun env => bndS (m env) env fun v s => match g v env s with
  | .ok e t => .nx e t
  | _ => .bad
theorem outG_of {D : Ends} {ρ : List Addr} {H : Hp} {r : R Ev} (h : OutS T W ρ H D (match r with | .ok e t => Fl.nx e t | _ => .bad)) : OutG T vs σ ρ H r D.nx := by
  cases r with
  | ok e t => exact fun ρ' H' σ' F E _ => h ρ' H' σ' F E
  | ex c fs s => exact h
  | bad => exact h
theorem s_tg (he : PE X e (tE T W ma)) (hg : PG X tg (tTg T vs g)) (hs : swapsWithSole [tg] e pos.line X.env = pure false := by rfl) (hw : swappedStores [tg] e X.env = pure none := by rfl)
    (h1 : (assignEach [tg] X.env).map (·.2) = [assign tg X.env] := by rfl) : PS X (.Assign [tg] e pos) (tS T W (sTg g ma)) :=
  ps_mono (ps_asg he hg hs hw h1) fun D σ H ⟨ρ, st, env, S, E, h⟩ => ⟨ρ, st, env, S, E, (OutS.bnd E h).imp fun v H1 ⟨ρ1, s1, m, F1, r1, q1⟩ => ⟨ρ1, s1, env, m, F1.sim, E.later F1.lat, r1, outG_of q1⟩⟩
/-- a, b = x, y with plain local names -/
def sPar (i j : Nat) (as : Ev → M (List MV)) : MS := fun env => bndS (as env) env fun vs s => match vs with
  | [v, w] => .nx ((env.set i (some v)).set j (some w)) s
  | _ => .bad
theorem s_par {x y : Str} {a b : Expr} {as : Ev → M (List MV)} {px py pt : Pos} {kt k2 pt2} (i j : Nat) (hc : X.calm = true) (hN : X.N.Nodup) (ha : PA X [a, b] (tA T W as)) (hi : X.N[i]? = some x := by rfl) (hj : X.N[j]? = some y := by rfl) (hij : i ≠ j := by decide)
    (hx : X.env.scope.names.lookup x = some .local := by rfl) (hy : X.env.scope.names.lookup y = some .local := by rfl)
    (hw : swappedStores [.Tuple [.Name x px, .Name y py] kt pt] (.Tuple [a, b] k2 pt2) X.env = pure (some [x, y]) := by rfl)
    (hs : swapsWithSole [.Tuple [.Name x px, .Name y py] kt pt] (.Tuple [a, b] k2 pt2) pos.line X.env = pure false := by rfl) :
    PS X (.Assign [.Tuple [.Name x px, .Name y py] kt pt] (.Tuple [a, b] k2 pt2) pos) (tS T W (sPar i j as)) :=
  ps_mono (ps_par hc hN hi hj hij hx hy ha hw hs) fun D σ H ⟨ρ, st, env, S, E, h⟩ => ⟨ρ, st, env, S, E, (OutS.bnd E h).imp fun vs H1 ⟨ρ1, s1, ms, F1, r1, q1⟩ => by
    split at q1
    · rename_i v w
      obtain ⟨v', w', rfl, r2, r3⟩ := rvs2 r1
      exact ⟨v', w', rfl, q1 ρ1 H1 _ (Fut.refl F1.sim) (((E.later F1.lat).set r2 i).set r3 j)⟩
    · exact q1.elim⟩
/-- o[i] = v, o a list in a cell -/
def setL (o i v : MV) (s : Sto) : Option Sto := match o, i with
  | .ref n, .int k => match s[n]? with
    | some (.lst xs) => match ixN xs.length k with
      | some j => some (s.set n (.lst (xs.set j v)))
      | none => none
    | _ => none
  | _, _ => none
theorem setL_some {o i v : MV} {s t : Sto} (h : setL o i v s = some t) : ∃ n k xs j, o = .ref n ∧ i = .int k ∧ s[n]? = some (.lst xs) ∧ ixN xs.length k = some j ∧ t = s.set n (.lst (xs.set j v)) := by
  unfold setL at h
  cases o with
  | ref n =>
    cases i with
    | int k =>
      simp only at h
      cases e : s[n]? with
      | none => rw [e] at h; cases h
      | some c =>
        rw [e] at h
        cases c with
        | lst xs =>
          simp only at h
          cases e2 : ixN xs.length k with
          | none => rw [e2] at h; cases h
          | some j => rw [e2] at h; cases h; exact ⟨n, k, xs, j, rfl, rfl, e, e2, rfl⟩
        | _ => cases h
    | _ => cases h
  | _ => cases h
def sSub (mo mi mv : Ev → M MV) : MS := fun env => bndS (mv env) env fun v => bndS (mo env) env fun o => bndS (mi env) env fun i s => match setL o i v s with
  | some t => .nx env t
  | none => .bad
theorem s_sub (hv : PE X e (tE T W mc)) (ho : PE X o (tE T W ma)) (hi : PE X i (tE T W mb))
    (hs : swapsWithSole [.Subscript o i pos'] e pos.line X.env = pure false := by rfl) (hw : swappedStores [.Subscript o i pos'] e X.env = pure none := by rfl)
    (h1 : (assignEach [.Subscript o i pos'] X.env).map (·.2) = [assign (.Subscript o i pos') X.env] := by rfl)
    (hass : ∀ v, assign (.Subscript o i pos') X.env v = (do
      let ov ← holding [v] (eval o X.env)
      let iv ← holding [v, ov] (eval i X.env)
      standAt pos'
      holding [v, ov, iv] (setItem ov iv v)
      release [v, ov, iv] []) := by intro _; rfl) : PS X (.Assign [.Subscript o i pos'] e pos) (tS T W (sSub ma mb mc)) :=
  ps_mono (ps_asg hv (pg_sub ho hi set_list hass) hs hw h1) fun D σ H ⟨ρ, st, env, S, E, h⟩ => ⟨ρ, st, env, S, E, (OutS.bnd E h).imp fun v H1 ⟨ρ1, s1, m, F1, r1, q1⟩ => by
    refine ⟨ρ1, s1, env, F1.sim, E.later F1.lat, (OutS.bnd (E.later F1.lat) q1).imp fun o H2 ⟨ρ2, s2, mo, F2, r2, q2⟩ => ?_⟩
    refine ⟨ρ2, s2, env, F2.sim, E.later (F1.trans F2).lat, (OutS.bnd (E.later (F1.trans F2).lat) q2).imp fun i H3 ⟨ρ3, s3, mi, F3, r3, q3⟩ => ?_⟩
    have E3 := E.later (F1.trans (F2.trans F3)).lat
    have rv := r1.later (F2.trans F3).lat
    have ro := r2.later F3.lat
    cases e1 : setL mo mi m s3 with
    | none => rw [e1] at q3; exact q3.elim
    | some t =>
      rw [e1] at q3
      obtain ⟨n, k, xs, j, rfl, rfl, ex, ej, rfl⟩ := setL_some e1
      obtain ⟨a, ea, rfl⟩ := ro
      cases r3
      obtain ⟨ys, ey, r⟩ := F3.sim.cell n a _ ea ex
      refine ⟨a, ys, k, j, rfl, rfl, ey, by rw [← r.length]; exact ej, ?_⟩
      have F4 := F3.sim.set (c := .lst (xs.set j m)) (o := .lst (ys.set j v)) ea fun ρ' H' L => ⟨_, rfl, (r.later L).set (rv.later L) j⟩
      exact q3 _ _ _ F4 (E3.later F4.lat)⟩
end
end Z

namespace Z
open PySem L2

/-! ### defs -/
abbrev MF := List MV → M MV
def OutF (T : Tx) (ρ : List Addr) (H : Hp) (r : R MV) (Q : VK) (E : XK) : Prop := match r with
  | .ok v s => ∀ ρ' H' u, Fut T ρ H ρ' s H' → RV T ρ' H' v u → Q u H'
  | .ex c fs s => ∀ ρ' H' cl d, Fut T ρ H ρ' s H' → RX T ρ' H' c fs cl d → E cl d H'
  | .bad => False
/-- the promise of a def by its plain reading (p parameters) -/
def spM (T : Tx) (p : Nat) (mf : MF) : Sp := fun vs H Q E => ∃ ρ st ms, Sim T ρ st H ∧ RVs T ρ H ms vs ∧ ms.length = p ∧ OutF T ρ H (mf ms st) Q E
def flowR : Fl → R MV
  | .nx _ s => .ok .non s
  | .rt v s => .ok v s
  | .ex _ c fs s => .ex c fs s
  | _ => .bad
/-- a body with n names -/
def mFun (n : Nat) (mb : MS) : MF := fun args st => flowR (mb (args.map some ++ List.replicate (n - args.length) none) st)
/-- a def of the text as it stands behind the top -/
structure Df (K : PySem.W.Frag) (qual : Str) (st : Stmt) (f : Addr) (fd : FuncData) : Prop where
  ex : ∃ (x : Str) (oc : Value) (od : Option Addr) (dV kV doc pm : Value) (an : Option Addr) (cdv ct : Value) (osl : Array (Option Value)),
    fd = PySem.W.fnOf x qual (defArgs st) (defBody st) (defScope st) dV kV doc pm an cdv ct ∧ K.lookup f = some ⟨oc, od, .func fd, osl⟩ ∧ PySem.W.codeIn K cdv qual = true
  kp : PySem.W.keepIn K (.ref f) = true
section
variable {P : Program} {w : World} {K : PySem.W.Frag} {mg : Str → Option Value} {base : Heap} {T : Tx}
/-- what a body wants of exceptions -/
abbrev WB (E : XK) : WX := fun cl d _ H => E cl d H
theorem body_red {N : List Str} {ps : List Str} {mb : MS} {vs : List V} {H : Hp} {Q : VK} {E : XK} (h : spM T ps.length (mFun N.length mb) vs H Q E) : tS T (WB E) mb { nx := fun _ H' => Q .non H', rt := Q } (L2.start N vs) H := by
  obtain ⟨ρ, st, ms, S, r, hl, h⟩ := h
  refine ⟨ρ, st, ms.map some ++ List.replicate (N.length - ms.length) none, S, ?_, ?_⟩
  · unfold L2.start
    rw [← r.length]
    exact REnv.start r _
  · have h' : OutF T ρ H (flowR (mb (ms.map some ++ List.replicate (N.length - ms.length) none) st)) Q E := h
    revert h'
    generalize mb (ms.map some ++ List.replicate (N.length - ms.length) none) st = r
    intro h'
    cases r with
    | nx e s => exact fun ρ' H' σ' F _ => h' ρ' H' .non F rfl
    | rt v s => exact h'
    | bk e s => exact False.elim h'
    | ct e s => exact False.elim h'
    | ex e c fs s => exact fun ρ' H' σ' cl d F _ r => h' ρ' H' cl d F r
    | bad => exact False.elim h'
/-- THE RULE: a def by its body's plain reading -/
theorem fn_okM {qual : Str} {st : Stmt} {f : Addr} {fd : FuncData} {N ps : List Str} {k : Nat} {mb : MS} (F : Df K qual st f fd) (S : FnScope N ps (defScope st))
    (hb : ∀ (cdv : Value) (A : Around) (outer : List Env) (s : Shared) (H : Hp) (E : XK), Room k (A.deeper (PyProof.Rows.envOfC qual (defScope st) s.heap.objs.size f cdv)) →
      PSs (cxOf (L2.CX P w) P w K mg base N qual (defScope st) f cdv A outer s H E) (defBody st) (tS T (WB E) mb)) : FnOk P w K mg base (L2.CX P w) (k + 1) f fd ps (spM T ps.length (mFun N.length mb)) := by
  obtain ⟨x, oc, od, dV, kV, doc, pm, an, cdv, ct, osl, rfl, lk, hcd⟩ := F.ex
  refine fn_of lk hcd S (fun vs H Q E h => ?_) fun A outer s H vs Q E hr hsp => ⟨_, hb cdv A outer s H E hr, body_red hsp⟩
  obtain ⟨ρ, st, ms, _, r, hl, _⟩ := h
  rw [← r.length]; exact hl
theorem FnOk.to {k p : Nat} {f : Addr} {fd : FuncData} {ps : List Str} {mf mf' : MF} (F : FnOk P w K mg base (L2.CX P w) k f fd ps (spM T p mf)) (h : ∀ ms ρ st H Q E, Sim T ρ st H → ms.length = p → OutF T ρ H (mf' ms st) Q E → OutF T ρ H (mf ms st) Q E) :
    FnOk P w K mg base (L2.CX P w) k f fd ps (spM T p mf') := F.imp fun vs H Q E ⟨ρ, st, ms, S, r, hl, q⟩ => ⟨ρ, st, ms, S, r, hl, h ms ρ st H Q E S hl q⟩
end

/-! ### what a def leaves behind: nothing but its value -/
def frzM (s : Sto) (n : Nat) : Nat → MV → Option MV
  | 0, _ => none
  | k + 1, .tup xs => (xs.mapM (frzM s n k)).map .tup
  | k + 1, .lst xs => (xs.mapM (frzM s n k)).map .lst
  | k + 1, .frz xs => (xs.mapM (frzM s n k)).map .frz
  | k + 1, .ins c xs => (xs.mapM (frzM s n k)).map (.ins c)
  | k + 1, .ref m => if m < n then some (.ref m) else match s[m]? with
    | some (.lst xs) => (xs.mapM (frzM s n k)).map .lst
    | some (.ins c fs) => if fs.map (·.1) = fieldsOf c then ((fs.map (·.2)).mapM (frzM s n k)).map (.ins c) else none
    | _ => none
  | _ + 1, .non => some .non
  | _ + 1, .bl b => some (.bl b)
  | _ + 1, .int i => some (.int i)
  | _ + 1, .str x => some (.str x)
  | _ + 1, .fn k => some (.fn k)
  | _ + 1, .exc => none
section
variable {T : Tx} {ρ ρ' : List Addr} {H H' : Hp} {st s' : Sto} {n : Nat}
theorem mapM_len {α β : Type} {f : α → Option β} : ∀ {xs : List α} {ys : List β}, xs.mapM f = some ys → ys.length = xs.length
  | [], ys, h => by cases h; rfl
  | x :: xs, ys, h => by
    obtain ⟨d, es, _, h2, rfl⟩ := mapM_cons_some h
    rw [List.length_cons, List.length_cons, mapM_len h2]
theorem frz_all {f : MV → Option MV} {ρ' : List Addr} (hf : ∀ m v m', RV T ρ H m v → f m = some m' → RV T ρ' H m' v) : ∀ {xs : List MV} {vs : List V} {ys : List MV}, RVs T ρ H xs vs → xs.mapM f = some ys → RVs T ρ' H ys vs
  | [], vs, ys, r, h => by cases r; cases h; rfl
  | x :: xs, vs, ys, r, h => by
    obtain ⟨v, us, rfl, r1, r2⟩ := r
    obtain ⟨d, es, h1, h2, rfl⟩ := mapM_cons_some h
    exact ⟨v, us, rfl, hf x v d r1 h1, frz_all hf r2 h2⟩
theorem not_take {a : Addr} {ρ : List Addr} {n : Nat} (h : a ∉ ρ) : a ∉ ρ.take n := fun z => h (List.mem_of_mem_take z)
theorem frz_ok (S : Sim T ρ s' H) : ∀ (k : Nat) (m : MV) (v : V) (m' : MV), RV T ρ H m v → frzM s' n k m = some m' → RV T (ρ.take n) H m' v := by
  intro k
  induction k with
  | zero => intro m v m' _ h; cases h
  | succ k ih =>
    intro m v m' r h
    have seq : ∀ {xs : List MV} {vs : List V} {g : List MV → MV}, RVs T ρ H xs vs → (xs.mapM (frzM s' n k)).map g = some m' → ∃ ys, m' = g ys ∧ RVs T (ρ.take n) H ys vs ∧ ys.length = xs.length := fun {xs vs g} r h => by
      cases e : xs.mapM (frzM s' n k) with
      | none => rw [e] at h; cases h
      | some ys => rw [e] at h; cases h; exact ⟨ys, rfl, frz_all ih r e, mapM_len e⟩
    cases m with
    | non => cases h; exact r
    | bl b => cases h; exact r
    | int i => cases h; exact r
    | str x => cases h; exact r
    | fn j => cases h; exact r
    | exc => cases h
    | tup xs =>
      obtain ⟨a, ys, rfl, z, r⟩ := r
      obtain ⟨zs, rfl, q, _⟩ := seq r h
      refine ⟨a, ys, rfl, ?_, q⟩
      rcases z with ⟨z1, z2⟩ | z
      · exact .inl ⟨not_take z1, z2⟩
      · exact .inr z
    | lst xs =>
      obtain ⟨a, ys, rfl, z1, z, r⟩ := r
      obtain ⟨zs, rfl, q, _⟩ := seq r h
      exact ⟨a, ys, rfl, not_take z1, z, q⟩
    | frz xs =>
      obtain ⟨a, ys, rfl, z, r⟩ := r
      obtain ⟨zs, rfl, q, _⟩ := seq r h
      refine ⟨a, ys, rfl, ?_, q⟩
      rcases z with ⟨z1, z2⟩ | z
      · exact .inl ⟨not_take z1, z2⟩
      · exact .inr z
    | ins c xs =>
      obtain ⟨a, dx, vs, rfl, z1, z2, z3, z4, r⟩ := r
      obtain ⟨zs, rfl, q, hl⟩ := seq r h
      exact ⟨a, dx, vs, rfl, not_take z1, z2, by rw [hl]; exact z3, z4, q⟩
    | ref j =>
      obtain ⟨a, e1, rfl⟩ := r
      simp only [frzM] at h
      by_cases hj : j < n
      · rw [if_pos hj] at h
        cases h
        exact ⟨a, by rw [List.getElem?_take_of_lt hj]; exact e1, rfl⟩
      · rw [if_neg hj] at h
        have na : a ∉ ρ.take n := fun z => by
          obtain ⟨i, hi, e⟩ := List.mem_iff_getElem.mp z
          rw [List.length_take] at hi
          have e3 : ρ[i]? = some a := by
            rw [List.getElem_take] at e
            rw [List.getElem?_eq_getElem (by omega), e]
          have := S.inj e3 e1
          omega
        split at h
        · rename_i xs ex
          obtain ⟨ys, ey, r⟩ := S.cell j a _ e1 ex
          obtain ⟨zs, rfl, q, _⟩ := seq r h
          exact ⟨a, ys, rfl, na, ey, q⟩
        · rename_i c fs ex
          split at h
          · rename_i hf
            obtain ⟨dx, vs, ey, hc, _, _, r⟩ := S.cell j a _ e1 ex
            obtain ⟨zs, rfl, q, hl⟩ := seq r h
            refine ⟨a, dx, vs, rfl, na, hc, ?_, ?_, q⟩
            · rw [hl, List.length_map, ← hf, List.length_map]
            · rw [← hf, List.map_map]; exact ey
          · cases h
        · cases h
mutual
theorem RV.back {T : Tx} {ρ e : List Addr} {H H' : Hp} : ∀ (m : MV) (v v0 : V), RV T (ρ ++ e) H' m v → RV T ρ H m v0 → RV T ρ H' m v
  | .non, v, v0, h, _ => h
  | .bl _, v, v0, h, _ => h
  | .int _, v, v0, h, _ => h
  | .str _, v, v0, h, _ => h
  | .fn _, v, v0, h, _ => h
  | .exc, v, v0, h, _ => h
  | .tup xs, v, v0, h, h0 => by
    obtain ⟨a, ys, rfl, z, r⟩ := h
    obtain ⟨_, zs, _, _, r0⟩ := h0
    refine ⟨a, ys, rfl, ?_, RVs.back xs ys zs r r0⟩
    rcases z with ⟨z1, z2⟩ | z
    · exact .inl ⟨fun q => z1 (List.mem_append_left _ q), z2⟩
    · exact .inr z
  | .lst xs, v, v0, h, h0 => by
    obtain ⟨a, ys, rfl, z1, z, r⟩ := h
    obtain ⟨_, zs, _, _, _, r0⟩ := h0
    exact ⟨a, ys, rfl, fun q => z1 (List.mem_append_left _ q), z, RVs.back xs ys zs r r0⟩
  | .frz xs, v, v0, h, h0 => by
    obtain ⟨a, ys, rfl, z, r⟩ := h
    obtain ⟨_, zs, _, _, r0⟩ := h0
    refine ⟨a, ys, rfl, ?_, RVs.back xs ys zs r r0⟩
    rcases z with ⟨z1, z2⟩ | z
    · exact .inl ⟨fun q => z1 (List.mem_append_left _ q), z2⟩
    · exact .inr z
  | .ins c xs, v, v0, h, h0 => by
    obtain ⟨a, dx, vs, rfl, z1, z2, z3, z4, r⟩ := h
    obtain ⟨_, _, ws, _, _, _, _, _, r0⟩ := h0
    exact ⟨a, dx, vs, rfl, fun q => z1 (List.mem_append_left _ q), z2, z3, z4, RVs.back xs vs ws r r0⟩
  | .ref n, v, v0, h, h0 => by
    obtain ⟨a, e1, rfl⟩ := h
    obtain ⟨b, e2, _⟩ := h0
    have hi := (List.getElem?_eq_some_iff.mp e2).1
    rw [List.getElem?_append_left hi] at e1
    exact ⟨a, e1, rfl⟩
theorem RVs.back {T : Tx} {ρ e : List Addr} {H H' : Hp} : ∀ (ms : List MV) (vs vs0 : List V), RVs T (ρ ++ e) H' ms vs → RVs T ρ H ms vs0 → RVs T ρ H' ms vs
  | [], vs, vs0, h, _ => h
  | x :: xs, vs, vs0, h, h0 => by
    obtain ⟨y, ys, rfl, h1, h2⟩ := h
    obtain ⟨z, zs, _, k1, k2⟩ := h0
    exact ⟨y, ys, rfl, RV.back x y z h1 k1, RVs.back xs ys zs h2 k2⟩
end
theorem Fut.cut (F : Fut T ρ H ρ' s' H') (S : Sim T ρ st H) (h : s'.take st.length = st) : ρ'.take st.length = ρ ∧ Fut T ρ H ρ st H' := by
  obtain ⟨e, rfl, he⟩ := F.more
  have hl := S.len
  have ht : (ρ ++ e).take st.length = ρ := by rw [← hl]; simp
  refine ⟨ht, ⟨Lat.refl.more, ⟨hl, S.nd, fun c fs cl d a h => (S.exc c fs cl d a h).later ⟨Lat.refl.more, F.keep⟩, fun i a c e1 e2 => ?_⟩, F.keep⟩⟩
  have hi := (List.getElem?_eq_some_iff.mp e2).1
  have e1' : (ρ ++ e)[i]? = some a := by rw [List.getElem?_append_left (by omega)]; exact e1
  have e2' : s'[i]? = some c := by
    rw [← h] at e2
    rw [List.getElem?_take_of_lt hi] at e2
    exact e2
  have rc := F.sim.cell i a c e1' e2'
  have rc0 := S.cell i a c e1 e2
  have b : ∀ {m : MV} {v v0 : V}, RV T (ρ ++ e) H' m v → RV T ρ H m v0 → RV T ρ H' m v := fun {m v v0} r r0 => RV.back m v v0 r r0
  cases c with
  | lst xs =>
    obtain ⟨ys, e3, r⟩ := rc
    obtain ⟨zs, _, r0⟩ := rc0
    exact ⟨ys, e3, RVs.back xs ys zs r r0⟩
  | ins c fs =>
    obtain ⟨dx, vs, e3, h1, h2, h3, r⟩ := rc
    obtain ⟨dx0, vs0, _, _, _, _, r0⟩ := rc0
    exact ⟨dx, vs, e3, h1, h2, h3, RVs.back _ vs vs0 r r0⟩
  | dct kvs =>
    obtain ⟨u, e3, r⟩ := rc
    obtain ⟨u0, _, r0⟩ := rc0
    refine ⟨u, e3, ?_⟩
    have q0 : ∃ us, RVs T ρ H (kvs.map (·.2)) us := by
      rcases r0 with ⟨ys, _, _, r⟩ | ⟨ys, _, _, r⟩
      · exact ⟨_, r⟩
      · exact ⟨_, r⟩
    obtain ⟨us, q0⟩ := q0
    rcases r with ⟨ys, h1, h2, r⟩ | ⟨ys, h1, h2, r⟩
    · exact .inl ⟨ys, h1, h2, RVs.back _ _ us r q0⟩
    · exact .inr ⟨ys, h1, h2, RVs.back _ _ us r q0⟩
end
end Z

namespace Z
open PySem L2

open Classical in
/-- a def that leaves the store as it was -/
noncomputable def mPure (mf : MF) : MF := fun args st => match mf args st with
  | .ok v s => if s.take st.length = st then match frzM s st.length 40 v with
      | some v' => .ok v' st
      | none => .bad
    else .bad
  | .ex c fs s => if s.take st.length = st then match (fs.map (·.2)).mapM (frzM s st.length 40) with
      | some vs => .ex c ((fs.map (·.1)).zip vs) st
      | none => .bad
    else .bad
  | .bad => .bad
section
variable {T : Tx} {ρ ρ' : List Addr} {H H' : Hp} {st s' : Sto}
theorem zip_fst {α β : Type} : ∀ {xs : List α} {ys : List β}, ys.length = xs.length → (xs.zip ys).map (·.1) = xs
  | [], _, _ => by simp
  | x :: xs, [], h => by simp at h
  | x :: xs, y :: ys, h => by simp only [List.zip_cons_cons, List.map_cons]; rw [zip_fst (by simpa using h)]
theorem zip_snd {α β : Type} : ∀ {xs : List α} {ys : List β}, ys.length = xs.length → (xs.zip ys).map (·.2) = ys
  | [], [], _ => rfl
  | [], _ :: _, h => by simp at h
  | x :: xs, [], h => by simp at h
  | x :: xs, y :: ys, h => by simp only [List.zip_cons_cons, List.map_cons]; rw [zip_snd (by simpa using h)]
theorem rx_cut {n c : Nat} {fs : List (Nat × MV)} {vs : List MV} {cl : Value} {d : Option Addr} (S : Sim T ρ' s' H') (r : RX T ρ' H' c fs cl d) (h : (fs.map (·.2)).mapM (frzM s' n 40) = some vs) : RX T (ρ'.take n) H' c ((fs.map (·.1)).zip vs) cl d := by
  obtain ⟨e1, e2, e3, e4⟩ := r
  have hl : vs.length = (fs.map (·.1)).length := by rw [mapM_len h, List.length_map, List.length_map]
  have hf : ((fs.map (·.1)).zip vs).map (·.1) = fs.map (·.1) := zip_fst hl
  have hs : ((fs.map (·.1)).zip vs).map (·.2) = vs := zip_snd hl
  refine ⟨e1, e2, fun p hp => ?_, ?_⟩
  · have : p.1 ∈ ((fs.map (·.1)).zip vs).map (·.1) := List.mem_map_of_mem hp
    rw [hf] at this
    obtain ⟨q, hq, e⟩ := List.mem_map.mp this
    rw [← e]; exact e3 q hq
  · rcases e4 with ⟨rfl, rfl⟩ | ⟨dd, us, rfl, nn, n1, e5, r⟩
    · left; simp
    · refine .inr ⟨dd, us, rfl, fun z => nn ?_, not_take n1, ?_, ?_⟩
      · rw [z] at hf
        exact List.map_eq_nil_iff.mp hf.symm
      · have : (((fs.map (·.1)).zip vs).map fun p => fnm p.1) = fs.map fun p => fnm p.1 := by
          have q : (((fs.map (·.1)).zip vs).map fun p => fnm p.1) = (((fs.map (·.1)).zip vs).map (·.1)).map fnm := by rw [List.map_map]; rfl
          rw [q, hf, List.map_map]; rfl
        rw [this]; exact e5
      · rw [hs]
        exact frz_all (frz_ok S 40) r h
theorem pure_out {mf : MF} {ms : List MV} {Q : VK} {E : XK} (S : Sim T ρ st H) (h : OutF T ρ H (mPure mf ms st) Q E) : OutF T ρ H (mf ms st) Q E := by
  unfold mPure at h
  cases e : mf ms st with
  | ok v s =>
    simp only [e] at h
    by_cases ht : s.take st.length = st
    · rw [if_pos ht] at h
      cases e2 : frzM s st.length 40 v with
      | none => rw [e2] at h; exact h.elim
      | some v' =>
        rw [e2] at h
        intro ρ' H' u F r
        obtain ⟨q1, q2⟩ := F.cut S ht
        have r2 := frz_ok (n := st.length) F.sim 40 v u v' r e2
        rw [q1] at r2
        exact h ρ H' u q2 r2
    · rw [if_neg ht] at h; exact h.elim
  | ex c fs s =>
    simp only [e] at h
    by_cases ht : s.take st.length = st
    · rw [if_pos ht] at h
      cases e2 : (fs.map (·.2)).mapM (frzM s st.length 40) with
      | none => rw [e2] at h; exact h.elim
      | some vs =>
        rw [e2] at h
        intro ρ' H' cl d F r
        obtain ⟨q1, q2⟩ := F.cut S ht
        have r2 := rx_cut F.sim r e2
        rw [q1] at r2
        exact h ρ H' cl d q2 r2
    · rw [if_neg ht] at h; exact h.elim
  | bad => simp only [e] at h; exact h.elim
theorem FnOk.pure {P : Program} {w : World} {K : PySem.W.Frag} {mg : Str → Option Value} {base : Heap} {k p : Nat} {f : Addr} {fd : FuncData} {ps : List Str} {mf : MF} (F : FnOk P w K mg base (L2.CX P w) k f fd ps (spM T p mf)) :
    FnOk P w K mg base (L2.CX P w) k f fd ps (spM T p (mPure mf)) := FnOk.to F fun ms ρ st H Q E S hl h => pure_out S h
end

/-! ### calls -/
def Len (as : Ev → M (List MV)) (p : Nat) : Prop := ∀ env s xs t, as env s = .ok xs t → xs.length = p
theorem len_nil : Len mNil 0 := fun env s xs t h => by cases h; rfl
theorem len_cons {m : Ev → M MV} {r : Ev → M (List MV)} {p : Nat} (h : Len r p) : Len (mCons m r) (p + 1) := fun env s xs t q => by
  unfold mCons M.bnd at q
  cases e : m env s with
  | ok x s1 =>
    simp only [e] at q
    cases e2 : r env s1 with
    | ok ys s2 =>
      simp only [e2] at q
      cases q
      rw [List.length_cons, h env s1 ys _ e2]
    | ex c fs s2 => simp only [e2] at q; cases q
    | bad => simp only [e2] at q; cases q
  | ex c fs s1 => simp only [e] at q; cases q
  | bad => simp only [e] at q; cases q
def mCall (mf : MF) (as : Ev → M (List MV)) : Ev → M MV := fun env => M.bnd (as env) mf
section
variable {X : Cx} {T : Tx} {W : WX} {ma : Ev → M MV} {as : Ev → M (List MV)} {k p : Nat} {f C : Addr} {fd : FuncData} {ps : List Str} {mf : MF} {x m : Str} {pp pos apos : Pos} {e o : Expr} {es : List Expr} {ds : List Value} {dvs : List V} {dms : List MV}
theorem outF_of {ρ : List Addr} {H : Hp} {σ : St} {r : R MV} {Q : VK} (h : Out T W (RV T) ρ H σ r Q) : OutF T ρ H r Q (WE W σ) := by
  cases r with
  | ok v s => exact h
  | ex c fs s => exact h
  | bad => exact h
/-- arguments, then what stands for the def -/
theorem args_red {σ : St} {H : Hp} {ρ : List Addr} {st : Sto} {env : Ev} {Q : VK} (hn : Len as p) (h : Out T W (RV T) ρ H σ (M.bnd (as env) mf st) Q) :
    Out T W (RVs T) ρ H σ (as env st) fun us H1 => ∃ ρ1 s1 ms, Fut T ρ H ρ1 s1 H1 ∧ RVs T ρ1 H1 ms us ∧ ms.length = p ∧ OutF T ρ1 H1 (mf ms s1) Q (WE W σ) := by
  unfold M.bnd at h
  cases q : as env st with
  | ok xs t =>
    simp only [q] at h
    intro ρ1 H1 vs F1 r1
    exact ⟨ρ1, t, xs, F1, r1, hn env st xs t q, outF_of (h.fut F1)⟩
  | ex c fs t => simp only [q] at h; exact h
  | bad => simp only [q] at h; exact h.elim
theorem v_call (tk : Takes X W) (F : FnOk X.prog X.w X.K X.mg X.base (L2.CX X.prog X.w) k f fd ps (spM T p mf)) (hr : Room k X.A) (hm : X.mg x = some (.ref f)) (hk : PySem.W.keepIn X.K (.ref f) = true) (hb : Binds X.K fd ps [])
    (ha : PA X (e :: es) (tA T W as)) (hn : Len as p := by repeat first | exact len_nil | apply len_cons) (hg : Gl X x := by rfl) (hdb : (x == ("__debug__" : Str)) = false := by decide)
    (he : starEach (e :: es) X.env = (false, eval e X.env) :: starEach es X.env := by rfl) (hpl : (backTo pos (starEach es X.env)).any (·.1) = false := by rfl) :
    PE X (.Call (.Name x pp) (e :: es) [] pos) (tE T W (mCall mf as)) :=
  pe_mono (pe_callS F hr hg hm hk hb (fun σ => passAt tk σ) ha hdb he hpl) fun σ H Q h => by
    obtain ⟨ρ, st, env, S, E, h⟩ := h
    exact ⟨ρ, st, env, S, E, (args_red hn h).imp fun us H1 ⟨ρ1, s1, ms, F, r, l, q⟩ => ⟨ρ1, s1, ms, F.sim, r, l, q⟩⟩
/-! instances -/
def clsOf (s : Sto) : MV → Option Nat
  | .ins c _ => some c
  | .ref n => match s[n]? with
    | some (.ins c _) => some c
    | _ => none
  | _ => none
def fldOf (s : Sto) (f : Nat) : MV → Option MV
  | .ins c xs => zipLook (fieldsOf c) xs f
  | .ref n => match s[n]? with
    | some (.ins _ fs) => lookN f fs
    | _ => none
  | _ => none
/-- what the written part says of the classes -/
structure ClsF (T : Tx) (c : Nat) : Prop where
  cls : Cls T.K (T.cls c)
  na : ∀ f ∈ fieldsOf c, NoAttr T.K (T.cls c) (fnm f)
abbrev ClsAll (T : Tx) : Prop := ∀ c, T.has c = true → ClsF T c
theorem zip_lookup {ρ : List Addr} {H : Hp} {f : Nat} (hf : f < 34) : ∀ {ids : List Nat} {xs : List MV} {vs : List V} {m : MV}, (∀ i ∈ ids, i < 34) → RVs T ρ H xs vs → zipLook ids xs f = some m → ∃ v, ((ids.map fnm).zip vs).lookup (fnm f) = some v ∧ RV T ρ H m v
  | [], xs, vs, m, _, _, h => by cases xs <;> cases h
  | i :: ids, [], vs, m, _, _, h => by cases h
  | i :: ids, x :: xs, vs, m, hi, r, h => by
    obtain ⟨v, us, rfl, r1, r2⟩ := r
    rw [List.map_cons, List.zip_cons_cons, List.lookup_cons]
    unfold zipLook at h
    by_cases e : i = f
    · rw [if_pos e] at h; cases h
      subst e
      exact ⟨v, by simp, r1⟩
    · rw [if_neg e] at h
      have ne : (fnm f == fnm i) = false := by
        rw [beq_eq_false_iff_ne]
        exact fun z => e (fnm_inj (hi i List.mem_cons_self) hf z.symm)
      obtain ⟨w, q1, q2⟩ := zip_lookup hf (fun j hj => hi j (List.mem_cons_of_mem _ hj)) r2 h
      exact ⟨w, by simp only [ne]; exact q1, q2⟩
theorem lookN_zip {f : Nat} : ∀ {fs : List (Nat × MV)}, lookN f fs = zipLook (fs.map (·.1)) (fs.map (·.2)) f
  | [] => rfl
  | (g, w) :: r => by
    show (if g = f then some w else lookN f r) = (if g = f then some w else zipLook (r.map (·.1)) (r.map (·.2)) f)
    rw [lookN_zip]
theorem zipLook_mem {f : Nat} : ∀ {ids : List Nat} {xs : List MV} {m : MV}, zipLook ids xs f = some m → f ∈ ids
  | [], xs, m, h => by cases xs <;> cases h
  | i :: ids, [], m, h => by cases h
  | i :: ids, x :: xs, m, h => by
    unfold zipLook at h
    by_cases e : i = f
    · subst e; exact List.mem_cons_self
    · rw [if_neg e] at h
      exact List.mem_cons_of_mem _ (zipLook_mem h)
/-- an instance, inline or in a cell -/
theorem ins_of {ρ : List Addr} {H : Hp} {st : Sto} {m : MV} {v : V} {c : Nat} (S : Sim T ρ st H) (r : RV T ρ H m v) (h : clsOf st m = some c) :
    ∃ a dx ids xs vs, v = .ref a ∧ T.has c = true ∧ H a = some (.ins (T.cls c) dx ((ids.map fnm).zip vs)) ∧ (∀ i ∈ ids, i ∈ fieldsOf c) ∧ RVs T ρ H xs vs ∧ ∀ f, fldOf st f m = zipLook ids xs f := by
  cases m with
  | ins d xs =>
    cases h
    obtain ⟨a, dx, vs, rfl, _, h1, _, h2, r⟩ := r
    exact ⟨a, dx, fieldsOf c, xs, vs, rfl, h1, h2, fun i hi => hi, r, fun f => rfl⟩
  | ref n =>
    obtain ⟨a, e1, rfl⟩ := r
    have q : ∃ fs, st[n]? = some (.ins c fs) := by
      simp only [clsOf] at h
      split at h
      · rename_i d fs e; cases h; exact ⟨fs, e⟩
      · cases h
    obtain ⟨fs, e⟩ := q
    obtain ⟨dx, vs, e2, h1, h2, _, r⟩ := S.cell n a _ e1 e
    refine ⟨a, dx, fs.map (·.1), fs.map (·.2), vs, rfl, h1, ?_, fun i hi => ?_, r, fun f => ?_⟩
    · rw [List.map_map]; exact e2
    · obtain ⟨p, hp, rfl⟩ := List.mem_map.mp hi
      exact h2 p hp
    · simp only [fldOf, e]; exact lookN_zip
  | _ => cases h
theorem cls_fld {st : Sto} {f : Nat} {m v : MV} (h : fldOf st f m = some v) : ∃ c, clsOf st m = some c := by
  cases m with
  | ins c xs => exact ⟨c, rfl⟩
  | ref n =>
    simp only [fldOf] at h
    split at h
    · rename_i c fs e; exact ⟨c, by simp only [clsOf, e]⟩
    · cases h
  | _ => cases h
def mFld (f : Nat) (ma : Ev → M MV) : Ev → M MV := mUn (fun s x => fldOf s f x) ma
theorem v_fld (hK : T.K = X.K) (hC : ClsAll T) (f : Nat) (he : PE X e (tE T W ma)) (hf : x = fnm f := by rfl) (hb : attributeBase e x X.env (eval e X.env) = eval e X.env := by rfl) : PE X (.Attribute e x pos) (tE T W (mFld f ma)) :=
  pe_mono (pe_fld he hb) fun σ H Q h => by
    subst hf
    obtain ⟨ρ, st, env, S, E, h⟩ := h
    refine ⟨ρ, st, env, S, E, h.bnd.imp fun v H1 ⟨ρ1, s1, m, F1, r1, q1⟩ => ?_⟩
    obtain ⟨w, e, q⟩ := opt_out q1
    replace e : fldOf s1 f m = some w := e
    obtain ⟨c, hc⟩ := cls_fld e
    obtain ⟨a, dx, ids, xs, vs, rfl, h1, h2, h3, r, hfl⟩ := ins_of F1.sim r1 hc
    rw [hfl] at e
    have hm := h3 f (zipLook_mem e)
    obtain ⟨u, q1, q2⟩ := zip_lookup (fieldsOf_lt hm) (fun i hi => fieldsOf_lt (h3 i hi)) r e
    exact ⟨a, T.cls c, dx, _, u, rfl, h2, hK ▸ (hC c h1).cls, hK ▸ (hC c h1).na f hm, q1, q ρ1 H1 u (Fut.refl F1.sim) q2⟩
/-! methods -/
/-- a method of class c by its plain reading -/
structure MetOk (X : Cx) (T : Tx) (m : Str) (p : Nat) (c : Nat) (mf : MF) : Prop where
  ok : ∃ (f : Addr) (fd : FuncData) (ps : List Str) (k : Nat), Meth X.K (T.cls c) m f ∧ FnOk X.prog X.w X.K X.mg X.base (L2.CX X.prog X.w) k f fd ps (spM T p mf) ∧ Room k X.A ∧ Binds X.K fd ps []
  nf : (fieldsOf c).all (fun i => !decide (fnm i = m)) = true
def metF (cs : List (Nat × MF)) (x : MV) (xs : List MV) : M MV := fun s => match clsOf s x with
  | some c => match cs.lookup c with
    | some mf => mf (x :: xs) s
    | none => .bad
  | none => .bad
def mMeth (cs : List (Nat × MF)) (ma : Ev → M MV) (as : Ev → M (List MV)) : Ev → M MV := fun env => M.bnd (ma env) fun x s => match clsOf s x with
  | some c => match cs.lookup c with
    | some mf => M.bnd (as env) (fun xs => mf (x :: xs)) s
    | none => .bad
  | none => .bad
theorem no_field {ids : List Nat} {vs : List V} {m : Str} : (∀ i ∈ ids, fnm i ≠ m) → ((ids.map fnm).zip vs).lookup m = none := by
  induction ids generalizing vs with
  | nil => intro _; simp
  | cons i ids ih =>
    intro h
    cases vs with
    | nil => simp
    | cons v vs =>
      rw [List.map_cons, List.zip_cons_cons, List.lookup_cons]
      have ne : (m == fnm i) = false := by
        rw [beq_eq_false_iff_ne]
        exact fun z => h i List.mem_cons_self z.symm
      simp only [ne]
      exact ih fun j hj => h j (List.mem_cons_of_mem _ hj)
theorem lookup_mem' {α : Type} {l : List (Nat × α)} {c : Nat} {x : α} (h : l.lookup c = some x) : (c, x) ∈ l := lookup_mem h
theorem met_none {cs : List (Nat × MF)} {c p : Nat} {mf : MF} (hK : T.K = X.K) (h : ∀ q ∈ cs, MetOk X T m p q.1 q.2) (hl : cs.lookup c = some mf) {ids : List Nat} {vs : List V} (hi : ∀ i ∈ ids, i ∈ fieldsOf c) : ((ids.map fnm).zip vs).lookup m = none := by
  refine no_field fun i hm => ?_
  have q := List.all_eq_true.mp (h _ (lookup_mem hl)).nf i (hi i hm)
  simpa using q
theorem v_meth {pl : Sem Bool} {cs : List (Nat × MF)} (hK : T.K = X.K) (hC : ClsAll T) (tk : Takes X W) (h : ∀ q ∈ cs, MetOk X T m (p + 1) q.1 q.2) (ho : PE X o (tE T W ma)) (ha : PA X (e :: es) (tA T W as))
    (hn : Len as p := by repeat first | exact len_nil | apply len_cons)
    (hst : starEach (e :: es) X.env = (false, eval e X.env) :: starEach es X.env := by rfl) (hpl : (backTo pos (starEach es X.env)).any (·.1) = false := by rfl)
    (ht : eval (.Call (.Attribute o m apos) (e :: es) [] pos) X.env = (do
      let ov ← eval o X.env
      standAt apos.atName
      let (f, first) ← holding [ov] (getMethod ov m pl)
      callWith pos f first (backTo pos (starEach (e :: es) X.env)) (backToKw pos (keywordEach [] X.env))) := by rfl) :
    PE X (.Call (.Attribute o m apos) (e :: es) [] pos) (tE T W (mMeth cs ma as)) := by
  refine ⟨fun pins s σ H Q I ⟨ρ, st, env, S, E, hh⟩ => ?_⟩
  refine methcall_of ho I ⟨ρ, st, env, S, E, hh.bnd.imp fun v H1 ⟨ρ1, s1, x, F1, r1, q1⟩ => ?_⟩ ht
  cases e1 : clsOf s1 x with
  | none => rw [e1] at q1; exact q1.elim
  | some c =>
    simp only [e1] at q1
    cases e2 : cs.lookup c with
    | none => rw [e2] at q1; exact q1.elim
    | some mf =>
      simp only [e2] at q1
      obtain ⟨a, dx, ids, xs, vs, rfl, h1, h2, h3, r, _⟩ := ins_of F1.sim r1 e1
      obtain ⟨f, fd, ps, k, hm, F, hr, hb⟩ := (h _ (lookup_mem e2)).ok
      refine ⟨a, T.cls c, dx, _, f, rfl, h2, hK ▸ (hC c h1).cls, hm, met_none hK h e2 h3, fun s2 I2 => ?_⟩
      have t2 : tA T W as σ H1 fun us H2 => ∃ ρ2 st2 ms, Sim T ρ2 st2 H2 ∧ RVs T ρ2 H2 (x :: ms) (.ref a :: us) ∧ (x :: ms).length = p + 1 ∧ OutF T ρ2 H2 (mf (x :: ms) st2) Q (WE W σ) := by
        refine ⟨ρ1, s1, env, F1.sim, E.later F1.lat, (args_red (mf := fun ms => mf (x :: ms)) hn q1).imp fun us H2 ⟨ρ2, s2, ms, F2, r2, l, q⟩ => ?_⟩
        exact ⟨ρ2, s2, ms, F2.sim, ⟨_, _, rfl, r1.later F2.lat, r2⟩, by rw [List.length_cons, l], q⟩
      refine PySem.W.callWith_K (first := [.ref a]) (h₀ := X.base) I2.ok.mod.kin hm.kp (thn (ha.run pos pins s2 σ H1 _ I2 t2) fun us s3 ⟨vs2, H2, I3, r3, ρ2, st2, ms, S2, r2, hl, z⟩ => ⟨I3.kIn, ?_⟩) hst hpl
      exact run_fnS (us := .ref a :: us) (vs := .ref a :: vs2) F hr hb (passAt tk σ) I3 (.cons rfl r3) ⟨ρ2, st2, _, S2, r2, hl, z⟩
end
end Z

namespace Z
open PySem L2

/-! ### what may be called -/
def CalM (X : Cx) (T : Tx) (W : WX) (u : Value) (p : Nat) (mf : MF) : Prop :=
  ∀ (pins : List (Addr × Obj)) (s : Shared) (σ : St) (H : Hp) (us : List Value) (vs : List V) (Q : VK) (ρ : List Addr) (st : Sto) (ms : List MV), Inv X pins σ H s → Vals vs us → Sim T ρ st H → RVs T ρ H ms vs → ms.length = p →
    OutF T ρ H (mf ms st) Q (WE W σ) → wpAny (model X.prog X.w) X.A (call u us) (EP X pins σ Q) X.xe s
def newC (c : Nat) (init : MF) : MF := fun args st => match init (.ref st.length :: args) (st ++ [.ins c []]) with
  | .ok .non s => .ok (.ref st.length) s
  | .ok _ _ => .bad
  | .ex c fs s => .ex c fs s
  | .bad => .bad
section
variable {X : Cx} {T : Tx} {W : WX} {ma : Ev → M MV} {as : Ev → M (List MV)} {k p c : Nat} {f C : Addr} {fd : FuncData} {ps : List Str} {mf init : MF} {x m : Str} {pp pos apos : Pos} {e o : Expr} {es : List Expr} {ds : List Value} {dvs : List V} {dms : List MV} {u : Value}
theorem CalM.pure (h : CalM X T W u p mf) : CalM X T W u p (mPure mf) := fun pins s σ H us vs Q ρ st ms I r S rm hl q => h pins s σ H us vs Q ρ st ms I r S rm hl (pure_out S q)
theorem cal_fn (tk : Takes X W) (F : FnOk X.prog X.w X.K X.mg X.base (L2.CX X.prog X.w) k f fd ps (spM T p mf)) (hr : Room k X.A) (hb : Binds X.K fd ps []) : CalM X T W (.ref f) p mf :=
  fun pins s σ H us vs Q ρ st ms I r S rm hl q => run_fnS F hr hb (passAt tk σ) I r ⟨ρ, st, ms, S, rm, hl, q⟩
/-- the defaults behind the arguments -/
def withD (dms : List MV) (mf : MF) : MF := fun args => mf (args ++ dms)
theorem sim_new (S : Sim T ρ st H) (hc : T.has c = true) {x dx : Addr} (hx : H x = none) (hd : H dx = none) (ne : dx ≠ x) : Fut T ρ H (ρ ++ [x]) (st ++ [.ins c []]) (upd (upd H dx (.own x)) x (.ins (T.cls c) dx [])) := by
  have F1 := S.fresh (o := .own x) hd
  have hx2 : (upd H dx (.own x)) x = none := by rw [upd_ne (Ne.symm ne)]; exact hx
  exact F1.trans (F1.sim.push (c := .ins c []) (o := .ins (T.cls c) dx []) hx2 fun ρ' H' L => ⟨dx, [], rfl, hc, by simp, by simp, rfl⟩)
theorem run_makeS {pins : List (Addr × Obj)} {σ : St} {H : Hp} {s : Shared} {Q : VK} {us : List Value} {vs : List V} {sp : Sp} {E : XK} (M : Mk X.K C f) (F : FnOk X.prog X.w X.K X.mg X.base (L2.CX X.prog X.w) k f fd ps sp) (hr : Room (k + 1) X.A) (hb : Binds X.K fd ps ds) (hd : Vals dvs ds)
    (hx : PassesAt (L2.CX X.prog X.w) X σ E) (I : Inv X pins σ H s) (r : Vals vs us)
    (h : ∀ x dx, H x = none → H dx = none → dx ≠ x → sp (.ref x :: (vs ++ dvs)) (upd (upd H dx (.own x)) x (.ins C dx [])) (fun v H2 => v = .non ∧ Q (.ref x) H2) E) :
    wpAny (model X.prog X.w) X.A (call (.ref C) us) (EP X pins σ Q) X.xe s := by
  have hq := h (s.heap.objs.size + 1) s.heap.objs.size (I.hok.fresh (Nat.le_succ _)) (I.hok.fresh (Nat.le_refl _)) (Nat.ne_of_lt (Nat.lt_succ_self _))
  have I2 := Inv.made (C := C) I
  have r2 : Vals (V.ref (s.heap.objs.size + 1) :: (vs ++ dvs)) (Value.ref (s.heap.objs.size + 1) :: (us ++ ds)) := .cons rfl (r.append hd)
  have hl : (Value.ref (s.heap.objs.size + 1) :: us ++ ds).length = ps.length := by
    have e := r2.length
    rw [F.len _ _ _ _ hq] at e
    exact e.symm
  refine wpAny_call (make_map (f := f) I.kIn M.makes M.init (beq_iff_eq.mp M.fn) (codeAny_mono (F.run _ X.stack _ _ ⟨Value.ref (s.heap.objs.size + 1) :: us, []⟩ (Value.ref (s.heap.objs.size + 1) :: (us ++ ds)) _ _ E (hr.make C us [])
    (I2.env0.make C us []) (hb _ (Value.ref (s.heap.objs.size + 1) :: us) I2.kIn hl) r2 hq) fun r s' hq' => ?_))
  cases r with
  | error e => exact hx pins _ _ e s' I2 hq'
  | ok fl =>
    cases fl with
    | ret u =>
      obtain ⟨v, H', I3, rv, ev, q3⟩ := I2.after hq'
      subst ev
      exact ⟨rv, ⟨V.ref (s.heap.objs.size + 1), H', I3, rfl, q3⟩⟩
    | next => exact False.elim hq'
    | brk => exact False.elim hq'
    | cont => exact False.elim hq'
/-- what newC does, by __init__'s promise -/
theorem new_red {H : Hp} {Q : VK} {ρ : List Addr} {st : Sto} {ms : List MV} {vs : List V} {E : XK} (hc : T.has c = true) (S : Sim T ρ st H) (rm : RVs T ρ H ms vs) (q : OutF T ρ H (newC c init ms st) Q E) (hl : ms.length + 1 = p) :
    ∀ x dx, H x = none → H dx = none → dx ≠ x → spM T p init (.ref x :: vs) (upd (upd H dx (.own x)) x (.ins (T.cls c) dx [])) (fun v H2 => v = .non ∧ Q (.ref x) H2) E := fun x dx hx hd ne => by
  have F := sim_new S hc hx hd ne
  have rx : RV T (ρ ++ [x]) (upd (upd H dx (.own x)) x (.ins (T.cls c) dx [])) (.ref st.length) (.ref x) := ⟨x, by rw [← S.len]; simp, rfl⟩
  refine ⟨ρ ++ [x], _, .ref st.length :: ms, F.sim, ⟨_, _, rfl, rx, rm.later F.lat⟩, by rw [List.length_cons]; exact hl, ?_⟩
  unfold newC at q
  cases e : init (.ref st.length :: ms) (st ++ [.ins c []]) with
  | ok v s =>
    simp only [e] at q
    cases v with
    | non =>
      intro ρ' H' u F' r
      cases r
      exact ⟨rfl, q ρ' H' (.ref x) (F.trans F') (rx.later F'.lat)⟩
    | _ => exact q.elim
  | ex c fs s =>
    simp only [e] at q
    exact fun ρ' H' cl d F' r => q ρ' H' cl d (F.trans F') r
  | bad => simp only [e] at q; exact q.elim
theorem cal_make (tk : Takes X W) (hc : T.has c = true) (M : Mk X.K (T.cls c) f) (F : FnOk X.prog X.w X.K X.mg X.base (L2.CX X.prog X.w) k f fd ps (spM T (p + 1) init)) (hr : Room (k + 1) X.A) (hb : Binds X.K fd ps []) : CalM X T W (.ref (T.cls c)) p (newC c init) :=
  fun pins s σ H us vs Q ρ st ms I r S rm hl q => run_makeS (dvs := []) M F hr hb .nil (passAt tk σ) I r (by rw [List.append_nil]; exact new_red hc S rm q (by rw [hl]))
theorem cal_makeD (tk : Takes X W) (hc : T.has c = true) (M : Mk X.K (T.cls c) f) (F : FnOk X.prog X.w X.K X.mg X.base (L2.CX X.prog X.w) k f fd ps (spM T (p + dms.length + 1) init)) (hr : Room (k + 1) X.A) (hb : Binds X.K fd ps ds) (hd : Vals dvs ds) (hm : ∀ ρ H, RVs T ρ H dms dvs) :
    CalM X T W (.ref (T.cls c)) p (withD dms (newC c init)) :=
  fun pins s σ H us vs Q ρ st ms I r S rm hl q => run_makeS M F hr hb hd (passAt tk σ) I r (new_red hc S (rm.append (hm ρ H)) q (by rw [List.length_append, hl]))
theorem v_cal (h : CalM X T W (.ref f) p mf) (hm : X.mg x = some (.ref f)) (hk : PySem.W.keepIn X.K (.ref f) = true)
    (ha : PA X (e :: es) (tA T W as)) (hn : Len as p := by repeat first | exact len_nil | apply len_cons) (hg : Gl X x := by rfl) (hdb : (x == ("__debug__" : Str)) = false := by decide)
    (he : starEach (e :: es) X.env = (false, eval e X.env) :: starEach es X.env := by rfl) (hpl : (backTo pos (starEach es X.env)).any (·.1) = false := by rfl) :
    PE X (.Call (.Name x pp) (e :: es) [] pos) (tE T W (mCall mf as)) := by
  refine ⟨fun pins s σ H Q I ⟨ρ, st, env, S, E, hh⟩ => ?_⟩
  refine wpAny_Call_Name_kw (ld_glob I hg hm ?_ hdb)
  have t2 : tA T W as σ H fun us H1 => ∃ ρ1 s1 ms, Fut T ρ H ρ1 s1 H1 ∧ RVs T ρ1 H1 ms us ∧ ms.length = p ∧ OutF T ρ1 H1 (mf ms s1) Q (WE W σ) := ⟨ρ, st, env, S, E, args_red hn hh⟩
  refine PySem.W.callWith_K (h₀ := X.base) I.ok.mod.kin hk (thn (ha.run pos pins s σ H _ I t2) fun us s1 ⟨vs, H1, I1, r, ρ1, st1, ms, F1, rm, hl, q⟩ => ⟨I1.kIn, ?_⟩) he hpl
  exact h pins s1 σ H1 us vs Q ρ1 st1 ms I1 r F1.sim rm hl q
theorem v_cal0 (h : CalM X T W (.ref f) 0 mf) (hm : X.mg x = some (.ref f)) (hk : PySem.W.keepIn X.K (.ref f) = true) (hg : Gl X x := by rfl) (hdb : (x == ("__debug__" : Str)) = false := by decide) :
    PE X (.Call (.Name x pp) [] [] pos) (tE T W (mCall mf mNil)) := by
  refine ⟨fun pins s σ H Q I ⟨ρ, st, env, S, E, hh⟩ => ?_⟩
  refine wpAny_Call_Name_kw (ld_glob I hg hm ?_ hdb)
  exact PySem.W.callWith_K0 I.kIn hk (h pins s σ H [] [] Q ρ st [] I .nil S rfl rfl (outF_of hh))
theorem v_meth0 {pl : Sem Bool} {cs : List (Nat × MF)} (hK : T.K = X.K) (hC : ClsAll T) (tk : Takes X W) (h : ∀ q ∈ cs, MetOk X T m 1 q.1 q.2) (ho : PE X o (tE T W ma))
    (ht : eval (.Call (.Attribute o m apos) [] [] pos) X.env = (do
      let ov ← eval o X.env
      standAt apos.atName
      let (f, first) ← holding [ov] (getMethod ov m pl)
      callWith pos f first (backTo pos (starEach [] X.env)) (backToKw pos (keywordEach [] X.env))) := by rfl) :
    PE X (.Call (.Attribute o m apos) [] [] pos) (tE T W (mMeth cs ma mNil)) := by
  refine ⟨fun pins s σ H Q I ⟨ρ, st, env, S, E, hh⟩ => ?_⟩
  refine methcall_of ho I ⟨ρ, st, env, S, E, hh.bnd.imp fun v H1 ⟨ρ1, s1, x, F1, r1, q1⟩ => ?_⟩ ht
  cases e1 : clsOf s1 x with
  | none => rw [e1] at q1; exact q1.elim
  | some c =>
    simp only [e1] at q1
    cases e2 : cs.lookup c with
    | none => rw [e2] at q1; exact q1.elim
    | some mf =>
      simp only [e2] at q1
      obtain ⟨a, dx, ids, xs, vs, rfl, h1, h2, h3, r, _⟩ := ins_of F1.sim r1 e1
      obtain ⟨f, fd, ps, k, hm, F, hr, hb⟩ := (h _ (lookup_mem e2)).ok
      refine ⟨a, T.cls c, dx, _, f, rfl, h2, hK ▸ (hC c h1).cls, hm, met_none hK h e2 h3, fun s2 I2 => ?_⟩
      refine PySem.W.callWith_K0 (first := [.ref a]) I2.kIn hm.kp ?_
      exact run_fnS (us := [.ref a]) (vs := [.ref a]) F hr hb (passAt tk σ) I2 (.cons rfl .nil) ⟨ρ1, s1, [x], F1.sim, ⟨_, _, rfl, r1, rfl⟩, rfl, outF_of q1⟩
end

/-! ### o.f = e -/
def setFld (f : Nat) (o v : MV) (s : Sto) : Option Sto := match o with
  | .ref n => match s[n]? with
    | some (.ins c fs) => if f ∈ fieldsOf c ∧ fs.length < 40 then some (s.set n (.ins c (putN f v fs))) else none
    | _ => none
  | _ => none
theorem setFld_some {f : Nat} {o v : MV} {s t : Sto} (h : setFld f o v s = some t) : ∃ n c fs, o = .ref n ∧ s[n]? = some (.ins c fs) ∧ f ∈ fieldsOf c ∧ fs.length < 40 ∧ t = s.set n (.ins c (putN f v fs)) := by
  unfold setFld at h
  cases o with
  | ref n =>
    simp only at h
    cases e : s[n]? with
    | none => rw [e] at h; cases h
    | some d =>
      rw [e] at h
      cases d with
      | ins c fs =>
        simp only at h
        by_cases q : f ∈ fieldsOf c ∧ fs.length < 40
        · rw [if_pos q] at h; cases h; exact ⟨n, c, fs, rfl, e, q.1, q.2, rfl⟩
        · rw [if_neg q] at h; cases h
      | _ => cases h
  | _ => cases h
def sFldM (f : Nat) (mo mv : Ev → M MV) : MS := fun env => bndS (mv env) env fun v => bndS (mo env) env fun o s => match setFld f o v s with
  | some t => .nx env t
  | none => .bad
theorem putN_len {f : Nat} {v : MV} : ∀ {fs : List (Nat × MV)}, (putN f v fs).length ≤ fs.length + 1
  | [] => by simp [putN]
  | (g, w) :: r => by
    unfold putN
    by_cases e : g = f
    · rw [if_pos e]; simp
    · rw [if_neg e, List.length_cons, List.length_cons]
      have := putN_len (f := f) (v := v) (fs := r)
      omega
theorem putN_ids {f : Nat} {v : MV} {P : Nat → Prop} (hf : P f) : ∀ {fs : List (Nat × MV)}, (∀ p ∈ fs, P p.1) → ∀ p ∈ putN f v fs, P p.1
  | [], _, p, hp => by
    rw [List.mem_singleton.mp hp]; exact hf
  | (g, w) :: r, h, p, hp => by
    unfold putN at hp
    by_cases e : g = f
    · rw [if_pos e] at hp
      rcases List.mem_cons.mp hp with rfl | hp
      · exact h (g, w) List.mem_cons_self
      · exact h p (List.mem_cons_of_mem _ hp)
    · rw [if_neg e] at hp
      rcases List.mem_cons.mp hp with rfl | hp
      · exact h (g, w) List.mem_cons_self
      · exact putN_ids hf (fun q hq => h q (List.mem_cons_of_mem _ hq)) p hp
theorem putN_rel {T : Tx} {ρ : List Addr} {H : Hp} {f : Nat} {m : MV} {v : V} (hf : f < 34) (r : RV T ρ H m v) : ∀ {fs : List (Nat × MV)} {vs : List V}, (∀ p ∈ fs, p.1 < 34) → RVs T ρ H (fs.map (·.2)) vs →
    ∃ us, putF (fnm f) v ((fs.map fun p => fnm p.1).zip vs) = ((putN f m fs).map fun p => fnm p.1).zip us ∧ RVs T ρ H ((putN f m fs).map (·.2)) us
  | [], vs, _, h => by cases h; exact ⟨[v], rfl, v, [], rfl, r, rfl⟩
  | (g, w) :: fs, vs, hi, h => by
    obtain ⟨u, us, rfl, r1, r2⟩ := h
    rw [List.map_cons, List.zip_cons_cons]
    unfold putN
    by_cases e : g = f
    · subst e
      rw [if_pos rfl]
      refine ⟨v :: us, ?_, v, us, rfl, r, r2⟩
      show (if fnm g = fnm g then (fnm g, v) :: (fs.map fun p => fnm p.1).zip us else _) = _
      rw [if_pos rfl]; rfl
    · rw [if_neg e]
      have ne : ¬ fnm g = fnm f := fun z => e (fnm_inj (hi (g, w) List.mem_cons_self) hf z)
      obtain ⟨zs, q1, q2⟩ := putN_rel hf r (fun p hp => hi p (List.mem_cons_of_mem _ hp)) r2
      refine ⟨u :: zs, ?_, u, zs, rfl, r1, q2⟩
      show (if fnm g = fnm f then _ else (fnm g, u) :: putF (fnm f) v ((fs.map fun p => fnm p.1).zip us)) = _
      rw [if_neg ne, q1]; rfl
section
variable {X : Cx} {T : Tx} {W : WX} {ma mb : Ev → M MV} {x : Str} {pos pos' : Pos} {e o : Expr}
theorem s_fld (hK : T.K = X.K) (hC : ClsAll T) (f : Nat) (ho : PE X o (tE T W ma)) (hv : PE X e (tE T W mb)) (hf : x = fnm f := by rfl) (hs : swapsWith e (some (.Attribute o x pos')) pos.line X.env = pure false := by rfl) :
    PS X (.Assign [.Attribute o x pos'] e pos) (tS T W (sFldM f ma mb)) :=
  ps_mono (ps_fld ho hv hs) fun D σ H ⟨ρ, st, env, S, E, h⟩ => ⟨ρ, st, env, S, E, (OutS.bnd E h).imp fun v H1 ⟨ρ1, s1, m, F1, r1, q1⟩ => by
    subst hf
    refine ⟨ρ1, s1, env, F1.sim, E.later F1.lat, (OutS.bnd (E.later F1.lat) q1).imp fun o H2 ⟨ρ2, s2, mo, F2, r2, q2⟩ => ?_⟩
    have rv := r1.later F2.lat
    have E2 := E.later (F1.trans F2).lat
    cases e1 : setFld f mo m s2 with
    | none => rw [e1] at q2; exact q2.elim
    | some t =>
      rw [e1] at q2
      obtain ⟨n, c, fs, rfl, ex, hm, hl, rfl⟩ := setFld_some e1
      obtain ⟨a, ea, rfl⟩ := r2
      obtain ⟨dx, vs, ey, hc, hi, h40, r⟩ := F2.sim.cell n a _ ea ex
      have lt : ∀ p ∈ fs, p.1 < 34 := fun p hp => fieldsOf_lt (hi p hp)
      obtain ⟨us0, q0, _⟩ := putN_rel (fieldsOf_lt hm) rv lt r
      refine ⟨a, T.cls c, dx, _, rfl, ey, hK ▸ (hC c hc).cls, hK ▸ (hC c hc).na f hm, ?_, ?_⟩
      · have hz : ((fs.map fun p => fnm p.1).zip vs).length ≤ (fs.map fun p => fnm p.1).length := by rw [List.length_zip]; omega
        rw [List.length_map] at hz
        omega
      · have F4 := F2.sim.set (c := .ins c (putN f m fs)) (o := .ins (T.cls c) dx (putF (fnm f) v ((fs.map fun p => fnm p.1).zip vs))) ea fun ρ' H' L => by
          obtain ⟨us, q3, q4⟩ := putN_rel (fieldsOf_lt hm) (rv.later L) lt (r.later L)
          exact ⟨dx, us, by rw [q3], hc, putN_ids (P := fun i => i ∈ fieldsOf c) hm hi, by have := putN_len (f := f) (v := m) (fs := fs); omega, q4⟩
        exact q2 _ _ _ F4 (E2.later F4.lat)⟩
end
end Z

namespace Z
open PySem L2

/-! ### what is walked -/
/-- the items, and what the store must keep meanwhile -/
structure IT where
  xs : List MV
  ok : Sto → Prop
structure WalkM (T : Tx) (J : It) (xs : List MV) (ok : Sto → Prop) (ρ0 : List Addr) (H0 : Hp) : Prop where
  goes : ∀ i ρ st H, i < xs.length → Fut T ρ0 H0 ρ st H → ok st → J.go i H
  stops : ∀ ρ st H, Fut T ρ0 H0 ρ st H → ok st → J.stop xs.length H
  yields : ∀ i ρ st H m x H', xs[i]? = some m → Fut T ρ0 H0 ρ st H → ok st → J.yld i H x H' → Fut T ρ H ρ st H' ∧ RV T ρ H' m x
abbrev MI := Ev → M IT
def OutI (T : Tx) (W : WX) (ρ : List Addr) (H : Hp) (σ : St) (r : R IT) (Q : It → Hp → Prop) : Prop := match r with
  | .ok it s => ∀ ρ' H' J, Fut T ρ H ρ' s H' → WalkM T J it.xs it.ok ρ' H' → Q J H'
  | .ex c fs s => ∀ ρ' H' cl d, Fut T ρ H ρ' s H' → RX T ρ' H' c fs cl d → W cl d σ H'
  | .bad => False
def tI (T : Tx) (W : WX) (m : MI) : TI := fun σ H Q => ∃ ρ st env, Sim T ρ st H ∧ REnv T ρ H env σ ∧ OutI T W ρ H σ (m env st) Q
/-- the list at a is that of xs -/
def LsAt (T : Tx) (a : Addr) (xs : List MV) (ok : Sto → Prop) (ρ0 : List Addr) (H0 : Hp) : Prop := ∀ ρ st H, Fut T ρ0 H0 ρ st H → ok st → ∃ ys, SqL T.K H a ys ∧ RVs T ρ H xs ys
def TpAt (T : Tx) (a : Addr) (xs : List MV) (ρ0 : List Addr) (H0 : Hp) : Prop := ∀ ρ st H, Fut T ρ0 H0 ρ st H → ∃ ys, SqT T.K H a ys ∧ RVs T ρ H xs ys
section
variable {X : Cx} {T : Tx} {W : WX} {ma mb : Ev → M MV} {as : Ev → M (List MV)} {e e2 tg : Expr} {x : Str} {p pos tpos : Pos} {ρ0 : List Addr} {H0 : Hp} {xs ys : List MV} {ok ok2 : Sto → Prop} {a b : Addr}
/-- what stands in a list's place: where it is, and what keeps it -/
def okOf : MV → List MV → Sto → Prop
  | .ref n, xs => fun s => s[n]? = some (.lst xs)
  | _, _ => fun _ => True
def lsOf (s : Sto) (x : MV) : Option IT := match x with
  | .tup _ => none
  | x => (seqOf s x).map fun xs => ⟨xs, okOf x xs⟩
theorem ls_at {st : Sto} {m : MV} {v : V} {it : IT} (S : Sim T ρ0 st H0) (r : RV T ρ0 H0 m v) (h : lsOf st m = some it) : ∃ a, v = .ref a ∧ LsAt T a it.xs it.ok ρ0 H0 ∧ ∃ zs, SqL T.K H0 a zs := by
  cases m with
  | lst xs =>
    cases h
    obtain ⟨a, us, rfl, n, z, r⟩ := r
    exact ⟨a, rfl, fun ρ st H F _ => ⟨us, SqL.of (F.keep a _ n z), r.later F.lat⟩, us, SqL.of z⟩
  | frz xs =>
    cases h
    obtain ⟨a, us, rfl, z, r⟩ := r
    refine ⟨a, rfl, fun ρ st H F _ => ⟨us, ?_, r.later F.lat⟩, us, z.sq⟩
    rcases z with ⟨z1, z2⟩ | z
    · exact .inl (F.lat.rd z1 z2).2
    · exact .inr z
  | ref n =>
    simp only [lsOf] at h
    cases e : seqOf st (.ref n) with
    | none => rw [e] at h; cases h
    | some xs =>
      rw [e] at h; cases h
      obtain ⟨a, us, rfl, z, r2⟩ := list_of S r e
      obtain ⟨a', e1, e2⟩ := r
      cases e2
      refine ⟨a, rfl, fun ρ st H F ho => ?_, us, SqL.of z⟩
      obtain ⟨ys, q1, q2⟩ := F.sim.cell n a _ (F.lat.ix e1) ho
      exact ⟨ys, SqL.of q1, q2⟩
  | _ => cases h
theorem sqL_inj (I : ∃ (pins : List (Addr × Obj)) (σ : St) (s : Shared), Inv X pins σ H0 s) {us ws : List V} (h : SqL X.K H0 a us) (h' : SqL X.K H0 a ws) : us = ws := by
  obtain ⟨pins, σ, s, I⟩ := I
  exact I.list_inj h h'
end

/-! the walks themselves: what is read at a turn is told by any reading of the list, so the reading of the relation serves -/
section
variable {X : Cx} {T : Tx} {W : WX} {ma mb : Ev → M MV} {as : Ev → M (List MV)} {e e2 tg : Expr} {x : Str} {p pos tpos : Pos} {ρ0 : List Addr} {H0 : Hp} {xs ys : List MV} {ok ok2 : Sto → Prop} {a b : Addr}
theorem wk_list (h : LsAt T a xs ok ρ0 H0) : WalkM T (Itl T.K a) xs ok ρ0 H0 where
  goes := fun i ρ st H hi F ho => by
    obtain ⟨us, q, r⟩ := h ρ st H F ho
    have hu : i < us.length := by rw [← r.length]; exact hi
    exact ⟨us, us[i], q, List.getElem?_eq_getElem hu⟩
  stops := fun ρ st H F ho => by
    obtain ⟨us, q, r⟩ := h ρ st H F ho
    exact ⟨us, q, by rw [r.length]; exact Nat.le_refl _⟩
  yields := fun i ρ st H m x H' hm F ho y => by
    obtain ⟨us, q, r⟩ := h ρ st H F ho
    obtain ⟨rfl, y2⟩ := y
    obtain ⟨v, e, rv⟩ := r.get hm
    have := y2 us q
    rw [e] at this; cases this
    exact ⟨Fut.refl F.sim, rv⟩
theorem wk_tup (h : TpAt T a xs ρ0 H0) : WalkM T (Itt T.K a) xs ok ρ0 H0 where
  goes := fun i ρ st H hi F ho => by
    obtain ⟨us, q, r⟩ := h ρ st H F
    have hu : i < us.length := by rw [← r.length]; exact hi
    exact ⟨us, us[i], q, List.getElem?_eq_getElem hu⟩
  stops := fun ρ st H F ho => by
    obtain ⟨us, q, r⟩ := h ρ st H F
    exact ⟨us, q, by rw [r.length]; exact Nat.le_refl _⟩
  yields := fun i ρ st H m x H' hm F ho y => by
    obtain ⟨us, q, r⟩ := h ρ st H F
    obtain ⟨rfl, y2⟩ := y
    obtain ⟨v, e, rv⟩ := r.get hm
    have := y2 us q
    rw [e] at this; cases this
    exact ⟨Fut.refl F.sim, rv⟩
theorem tp_at {st : Sto} {v : V} (S : Sim T ρ0 st H0) (r : RV T ρ0 H0 (.tup xs) v) : ∃ a, v = .ref a ∧ TpAt T a xs ρ0 H0 ∧ ∃ zs, SqT T.K H0 a zs := by
  obtain ⟨a, us, rfl, z, r⟩ := r
  refine ⟨a, rfl, fun ρ st H F => ⟨us, ?_, r.later F.lat⟩, us, z.sq⟩
  rcases z with ⟨z1, z2⟩ | z
  · exact .inl (F.lat.rd z1 z2).2
  · exact .inr z
def intsM (lo : Int) (n : Nat) : List MV := (List.range n).map fun (i : Nat) => .int (lo + i)
theorem ints_get {lo : Int} {n i : Nat} {m : MV} (h : (intsM lo n)[i]? = some m) : m = .int (lo + i) := by
  unfold intsM at h
  rw [List.getElem?_map] at h
  cases e : (List.range n)[i]? with
  | none => rw [e] at h; cases h
  | some j =>
    rw [e] at h; cases h
    obtain ⟨hi, e'⟩ := List.getElem?_eq_some_iff.mp e
    rw [List.getElem_range] at e'
    rw [e']
theorem ints_len {lo : Int} {n : Nat} : (intsM lo n).length = n := by unfold intsM; simp
theorem wk_range {lo : Int} {n : Nat} : WalkM T (Itr lo n) (intsM lo n) ok ρ0 H0 where
  goes := fun i ρ st H hi F ho => by rw [ints_len] at hi; exact hi
  stops := fun ρ st H F ho => by rw [ints_len]; exact Nat.le_refl _
  yields := fun i ρ st H m x H' hm F ho y => by
    obtain ⟨rfl, rfl⟩ := y
    rw [ints_get hm]
    exact ⟨Fut.refl F.sim, rfl⟩
def pairs (xs ys : List MV) : List MV := List.zipWith (fun x y => .tup [x, y]) xs ys
theorem pairs_get {i : Nat} {m : MV} (h : (pairs xs ys)[i]? = some m) : ∃ x y, xs[i]? = some x ∧ ys[i]? = some y ∧ m = .tup [x, y] := by
  unfold pairs at h
  rw [List.getElem?_zipWith] at h
  split at h
  · rename_i x y e1 e2; cases h; exact ⟨x, y, e1, e2, rfl⟩
  · cases h
theorem pairs_len : (pairs xs ys).length = min xs.length ys.length := by unfold pairs; simp
/-- a new pair -/
theorem new_pair {ρ : List Addr} {st : Sto} {H : Hp} {x y : MV} {v w : V} {t : Addr} (S : Sim T ρ st H) (ht : H t = none) (r1 : RV T ρ H x v) (r2 : RV T ρ H y w) : Fut T ρ H ρ st (upd H t (.tup [v, w])) ∧ RV T ρ (upd H t (.tup [v, w])) (.tup [x, y]) (.ref t) := by
  have F := S.fresh (o := .tup [v, w]) ht
  exact ⟨F, t, [v, w], rfl, .inl ⟨S.free ht, .inl upd_same⟩, v, [w], rfl, r1.later F.lat, w, [], rfl, r2.later F.lat, rfl⟩
theorem wk_enum (h : LsAt T a xs ok ρ0 H0) : WalkM T (Ite T.K a) (pairs (intsM 0 xs.length) xs) ok ρ0 H0 where
  goes := fun i ρ st H hi F ho => by
    rw [pairs_len, ints_len, Nat.min_self] at hi
    obtain ⟨us, q, r⟩ := h ρ st H F ho
    have hu : i < us.length := by rw [← r.length]; exact hi
    exact ⟨us, us[i], q, List.getElem?_eq_getElem hu⟩
  stops := fun ρ st H F ho => by
    obtain ⟨us, q, r⟩ := h ρ st H F ho
    exact ⟨us, q, by rw [pairs_len, ints_len, Nat.min_self, r.length]; exact Nat.le_refl _⟩
  yields := fun i ρ st H m x H' hm F ho y => by
    obtain ⟨us, q, r⟩ := h ρ st H F ho
    obtain ⟨t, w, rfl, ht, rfl, y2⟩ := y
    obtain ⟨m1, m2, e1, e2, rfl⟩ := pairs_get hm
    have e3 := ints_get e1
    subst e3
    obtain ⟨v, e, rv⟩ := r.get e2
    have := y2 us q
    rw [e] at this; cases this
    exact new_pair F.sim ht (by show V.int (i : Nat) = V.int (0 + (i : Int)); rw [Int.zero_add]) rv
theorem wk_zip (h : LsAt T a xs ok ρ0 H0) (h2 : LsAt T b ys ok2 ρ0 H0) : WalkM T (Itz T.K a b) (pairs xs ys) (fun s => ok s ∧ ok2 s) ρ0 H0 where
  goes := fun i ρ st H hi F ho => by
    rw [pairs_len] at hi
    obtain ⟨us, q, r⟩ := h ρ st H F ho.1
    obtain ⟨ws, q2, r2⟩ := h2 ρ st H F ho.2
    have hu : i < us.length := by rw [← r.length]; omega
    have hw : i < ws.length := by rw [← r2.length]; omega
    exact ⟨us, ws, us[i], ws[i], q, q2, List.getElem?_eq_getElem hu, List.getElem?_eq_getElem hw⟩
  stops := fun ρ st H F ho => by
    obtain ⟨us, q, r⟩ := h ρ st H F ho.1
    obtain ⟨ws, q2, r2⟩ := h2 ρ st H F ho.2
    exact ⟨us, ws, q, q2, by rw [pairs_len, ← r.length, ← r2.length]; omega⟩
  yields := fun i ρ st H m x H' hm F ho y => by
    obtain ⟨us, q, r⟩ := h ρ st H F ho.1
    obtain ⟨ws, q2, r2⟩ := h2 ρ st H F ho.2
    obtain ⟨t, x1, x2, rfl, ht, rfl, y1, y2⟩ := y
    obtain ⟨m1, m2, e1, e2, rfl⟩ := pairs_get hm
    obtain ⟨v, e, rv⟩ := r.get e1
    obtain ⟨v2, e', rv2⟩ := r2.get e2
    have := y1 us q
    rw [e] at this; cases this
    have := y2 ws q2
    rw [e'] at this; cases this
    exact new_pair F.sim ht rv rv2
theorem wk_zipT (h : TpAt T a xs ρ0 H0) (h2 : TpAt T b ys ρ0 H0) : WalkM T (RZ.ItzT T.K a b) (pairs xs ys) ok ρ0 H0 where
  goes := fun i ρ st H hi F ho => by
    rw [pairs_len] at hi
    obtain ⟨us, q, r⟩ := h ρ st H F
    obtain ⟨ws, q2, r2⟩ := h2 ρ st H F
    have hu : i < us.length := by rw [← r.length]; omega
    have hw : i < ws.length := by rw [← r2.length]; omega
    exact ⟨us, ws, us[i], ws[i], q, q2, List.getElem?_eq_getElem hu, List.getElem?_eq_getElem hw⟩
  stops := fun ρ st H F ho => by
    obtain ⟨us, q, r⟩ := h ρ st H F
    obtain ⟨ws, q2, r2⟩ := h2 ρ st H F
    exact ⟨us, ws, q, q2, by rw [pairs_len, ← r.length, ← r2.length]; omega⟩
  yields := fun i ρ st H m x H' hm F ho y => by
    obtain ⟨us, q, r⟩ := h ρ st H F
    obtain ⟨ws, q2, r2⟩ := h2 ρ st H F
    obtain ⟨t, x1, x2, rfl, ht, rfl, y1, y2⟩ := y
    obtain ⟨m1, m2, e1, e2, rfl⟩ := pairs_get hm
    obtain ⟨v, e, rv⟩ := r.get e1
    obtain ⟨v2, e', rv2⟩ := r2.get e2
    have := y1 us q
    rw [e] at this; cases this
    have := y2 ws q2
    rw [e'] at this; cases this
    exact new_pair F.sim ht rv rv2
theorem pi_mono {t t' : TI} (h : PI X tg e t) (q : ∀ σ H R, t' σ H R → t σ H R) : PI X tg e t' := ⟨fun pins s σ H R I z => h.run pins s σ H R I (q σ H R z)⟩
theorem OutI.bnd {α β : Type} {rel : List Addr → Hp → α → β → Prop} {ρ : List Addr} {H : Hp} {σ : St} {st : Sto} {m : M α} {f : α → M IT} {Q : It → Hp → Prop} (h : OutI T W ρ H σ (M.bnd m f st) Q) :
    Out T W rel ρ H σ (m st) (fun b H1 => ∃ ρ1 s1 a, Fut T ρ H ρ1 s1 H1 ∧ rel ρ1 H1 a b ∧ OutI T W ρ1 H1 σ (f a s1) Q) := by
  unfold M.bnd at h
  cases e : m st with
  | ok a t =>
    rw [e] at h
    refine fun ρ1 H1 b F r => ⟨ρ1, t, a, F, r, ?_⟩
    have h' : OutI T W ρ H σ (f a t) Q := h
    revert h'
    cases f a t with
    | ok it s => exact fun h' ρ' H' J F' w => h' ρ' H' J (F.trans F') w
    | ex c fs s => exact fun h' ρ' H' cl d F' w => h' ρ' H' cl d (F.trans F') w
    | bad => exact fun h' => h'
  | ex c fs t => rw [e] at h; exact h
  | bad => rw [e] at h; exact h
/-! lists, tuples -/
def itOf (s : Sto) : MV → Option IT
  | .tup xs => some ⟨xs, fun _ => True⟩
  | x => lsOf s x
def miSeq (ma : Ev → M MV) : MI := fun env => M.bnd (ma env) fun x s => M.opt (itOf s x) s
def iSeq (K : PySem.W.Frag) (tl : TE) : TI := fun σ H R => tl σ H fun x H1 => ∃ a, x = .ref a ∧ (((∃ xs, SqL K H1 a xs) ∧ R (Itl K a) H1) ∨ ((∃ xs, SqT K H1 a xs) ∧ R (Itt K a) H1))
theorem pi_seq {l : Expr} {tl : TE} (hl : PE X l tl) : PI X tg l (iSeq X.K tl) := by
  refine ⟨fun pins s σ H R I h => ?_⟩
  refine thn (hl.run pins s σ H _ I h) fun v s1 ⟨x, H1, I1, r1, q1⟩ => ?_
  obtain ⟨a, e, q⟩ := q1
  subst e
  cases r1
  have fresh : ∀ b, b ∈ [s1.heap.objs.size] → FpOk X pins H1 b := fun b hb => by
    have e : b = s1.heap.objs.size := by simpa using hb
    subst e
    exact I1.fpOk (Nat.le_refl _) (I1.hok.fresh (Nat.le_refl _))
  rcases q with ⟨⟨xs, hq⟩, q⟩ | ⟨⟨xs, hq⟩, q⟩
  · obtain ⟨its, rv, p, hz⟩ := I1.list hq
    exact wpAny_pyIter_list p.isList ⟨s1.heap.objs.size, [s1.heap.objs.size], _, _, H1, rfl, I1.kept (t' := s1.toks) fun b o e => Heap.get?_push_of_some _ e, turn_list a _, ⟨_, Heap.get?_push_size _ rfl, rfl, rfl⟩, fresh, q⟩
  · obtain ⟨its, rv, p, hz⟩ := I1.tuple hq
    exact wpAny_pyIter_tuple (show s1.heap.IsTuple a its.toArray from p) ⟨s1.heap.objs.size, [s1.heap.objs.size], _, _, H1, rfl, I1.kept (t' := s1.toks) fun b o e => Heap.get?_push_of_some _ e, turn_tuple a _, ⟨_, Heap.get?_push_size _ rfl, rfl, rfl⟩, fresh, q⟩
theorem i_seq (hK : T.K = X.K) (he : PE X e (tE T W ma)) : PI X tg e (tI T W (miSeq ma)) := pi_mono (pi_seq he) fun σ H R ⟨ρ, st, env, S, E, h⟩ => by
  refine ⟨ρ, st, env, S, E, (OutI.bnd h).imp fun v H1 ⟨ρ1, s1, m, F1, r1, q1⟩ => ?_⟩
  cases e1 : itOf s1 m with
  | none => rw [e1] at q1; exact q1.elim
  | some it =>
    rw [e1] at q1
    by_cases ht : ∃ xs, m = .tup xs
    · obtain ⟨xs, rfl⟩ := ht
      cases e1
      obtain ⟨a, rfl, h1, zs, h2⟩ := tp_at F1.sim r1
      exact ⟨a, rfl, .inr ⟨⟨zs, hK ▸ h2⟩, hK ▸ q1 ρ1 H1 _ (Fut.refl F1.sim) (wk_tup h1)⟩⟩
    · have e2 : lsOf s1 m = some it := by
        cases m with
        | tup xs => exact absurd ⟨xs, rfl⟩ ht
        | _ => exact e1
      obtain ⟨a, rfl, h1, zs, h2⟩ := ls_at F1.sim r1 e2
      exact ⟨a, rfl, .inl ⟨⟨zs, hK ▸ h2⟩, hK ▸ q1 ρ1 H1 _ (Fut.refl F1.sim) (wk_list h1)⟩⟩
/-! range -/
def small (i : Int) : Bool := decide (-1000000000 ≤ i ∧ i ≤ 1000000000)
def miRange (ma : Ev → M MV) : MI := fun env => M.bnd (ma env) fun x => match x with
  | .int j => if small j then M.ret ⟨intsM 0 j.toNat, fun _ => True⟩ else fun _ => .bad
  | _ => fun _ => .bad
def miRange2 (ma mb : Ev → M MV) : MI := fun env => M.bnd (ma env) fun x => M.bnd (mb env) fun y => match x, y with
  | .int i, .int j => if small i && small j then M.ret ⟨intsM i (j - i).toNat, fun _ => True⟩ else fun _ => .bad
  | _, _ => fun _ => .bad
theorem small_of {i : Int} (h : small i = true) : -(2 ^ 62) ≤ i ∧ i < 2 ^ 62 := by
  have := of_decide_eq_true h
  omega
theorem a_one (he : PE X e (tE T W ma)) (hs : starEach (e :: []) X.env = (false, eval e X.env) :: starEach [] X.env := by rfl) : PA X [e] (tA T W (mCons ma mNil)) := a_cons he a_nil hs
theorem i_range (hm : X.mg "range" = none) (he : PE X e (tE T W ma)) (hg : Gl X "range" := by rfl) (hs : starEach [e] X.env = [(false, eval e X.env)] := by rfl) : PI X tg (.Call (.Name "range" p) [e] [] pos) (tI T W (miRange ma)) :=
  pi_mono (pi_range1 hg hm (pa_cons he pa_nil hs) hs) fun σ H R ⟨ρ, st, env, S, E, h⟩ => by
    refine ⟨ρ, st, env, S, E, (OutI.bnd h).imp fun v H1 ⟨ρ1, s1, m, F1, r1, q1⟩ => ?_⟩
    cases m with
    | int j =>
      cases r1
      simp only at q1
      by_cases hj : small j = true
      · rw [if_pos hj] at q1
        exact ⟨j, rfl, (small_of hj).1, (small_of hj).2, q1 ρ1 H1 _ (Fut.refl F1.sim) wk_range⟩
      · rw [if_neg hj] at q1; exact q1.elim
    | _ => exact False.elim q1
theorem i_range2 (hm : X.mg "range" = none) (he : PE X e (tE T W ma)) (he2 : PE X e2 (tE T W mb)) (hg : Gl X "range" := by rfl) (hs : starEach [e, e2] X.env = [(false, eval e X.env), (false, eval e2 X.env)] := by rfl) (hs2 : starEach [e2] X.env = [(false, eval e2 X.env)] := by rfl) :
    PI X tg (.Call (.Name "range" p) [e, e2] [] pos) (tI T W (miRange2 ma mb)) :=
  pi_mono (pi_range2 hg hm (pa_cons he (pa_cons he2 pa_nil hs2) (by rw [hs, hs2])) hs hs2) fun σ H R ⟨ρ, st, env, S, E, h⟩ => by
    refine ⟨ρ, st, env, S, E, (OutI.bnd h).imp fun v H1 ⟨ρ1, s1, m, F1, r1, q1⟩ => ?_⟩
    refine ⟨ρ1, s1, env, F1.sim, E.later F1.lat, (OutI.bnd q1).imp fun w H2 ⟨ρ2, s2, m2, F2, r2, q2⟩ => ?_⟩
    cases m with
    | int i =>
      cases m2 with
      | int j =>
        cases r1; cases r2
        simp only at q2
        by_cases hj : (small i && small j) = true
        · rw [if_pos hj] at q2
          rw [Bool.and_eq_true] at hj
          exact ⟨i, j, rfl, ⟨(small_of hj.1).1, (small_of hj.1).2, (small_of hj.2).1, (small_of hj.2).2⟩, q2 ρ2 H2 _ (Fut.refl F2.sim) wk_range⟩
        · rw [if_neg hj] at q2; exact q2.elim
      | _ => exact False.elim q2
    | _ => exact False.elim q2
/-! enumerate, zip (of lists; of tuples) -/
def miEnum (ma : Ev → M MV) : MI := fun env => M.bnd (ma env) fun x s => M.opt ((lsOf s x).map fun it => ⟨pairs (intsM 0 it.xs.length) it.xs, it.ok⟩) s
theorem i_enum {elts : List Expr} {kk : Nat} (hK : T.K = X.K) (hm : X.mg "enumerate" = none) (he : PE X e (tE T W ma)) (hg : Gl X "enumerate" := by rfl) (hs : starEach [e] X.env = [(false, eval e X.env)] := by rfl) :
    PI X (.Tuple elts kk tpos) (.Call (.Name "enumerate" p) [e] [] pos) (tI T W (miEnum ma)) :=
  pi_mono (pi_enum hg hm (pa_cons he pa_nil hs) hs) fun σ H R ⟨ρ, st, env, S, E, h⟩ => by
    refine ⟨ρ, st, env, S, E, (OutI.bnd h).imp fun v H1 ⟨ρ1, s1, m, F1, r1, q1⟩ => ?_⟩
    cases e1 : lsOf s1 m with
    | none => rw [e1] at q1; exact q1.elim
    | some it =>
      rw [e1] at q1
      obtain ⟨a, rfl, h1, zs, h2⟩ := ls_at F1.sim r1 e1
      exact ⟨a, zs, rfl, hK ▸ h2, hK ▸ q1 ρ1 H1 _ (Fut.refl F1.sim) (wk_enum h1)⟩
def zipOf (s : Sto) : MV → MV → Option IT
  | .tup xs, .tup ys => some ⟨pairs xs ys, fun _ => True⟩
  | x, y => match lsOf s x, lsOf s y with
    | some i, some j => some ⟨pairs i.xs j.xs, fun s => i.ok s ∧ j.ok s⟩
    | _, _ => none
def miZip (ma mb : Ev → M MV) : MI := fun env => M.bnd (ma env) fun x => M.bnd (mb env) fun y s => M.opt (zipOf s x y) s
theorem i_zip {elts : List Expr} {kk : Nat} (hK : T.K = X.K) (hm : X.mg "zip" = none) (he : PE X e (tE T W ma)) (he2 : PE X e2 (tE T W mb)) (hg : Gl X "zip" := by rfl)
    (hs : starEach [e, e2] X.env = (false, eval e X.env) :: starEach [e2] X.env := by rfl) (hpl : (backTo pos (starEach [e2] X.env)).any (·.1) = false := by rfl) (hs2 : starEach [e2] X.env = (false, eval e2 X.env) :: starEach [] X.env := by rfl) :
    PI X (.Tuple elts kk tpos) (.Call (.Name "zip" p) [e, e2] [] pos) (tI T W (miZip ma mb)) :=
  pi_mono (RZ.pi_zipA hg hm (pa_cons he (pa_cons he2 pa_nil hs2) hs) hs hpl) fun σ H R ⟨ρ, st, env, S, E, h⟩ => by
    refine ⟨ρ, st, env, S, E, (OutI.bnd h).imp fun v H1 ⟨ρ1, s1, m, F1, r1, q1⟩ => ?_⟩
    refine ⟨ρ1, s1, env, F1.sim, E.later F1.lat, (OutI.bnd q1).imp fun w H2 ⟨ρ2, s2, m2, F2, r2, q2⟩ => ?_⟩
    have r1' := r1.later F2.lat
    cases e1 : zipOf s2 m m2 with
    | none => rw [e1] at q2; exact q2.elim
    | some it =>
      rw [e1] at q2
      have q3 := fun J w => q2 ρ2 H2 J (Fut.refl F2.sim) w
      by_cases ht : ∃ xs ys, m = .tup xs ∧ m2 = .tup ys
      · obtain ⟨xs, ys, rfl, rfl⟩ := ht
        cases e1
        obtain ⟨a, rfl, h1, zs, h2⟩ := tp_at F2.sim r1'
        obtain ⟨b, rfl, h3, ws, h4⟩ := tp_at F2.sim r2
        exact ⟨a, b, zs, ws, rfl, .inr ⟨hK ▸ h2, hK ▸ h4, hK ▸ q3 _ (wk_zipT h1 h3)⟩⟩
      · have e2 : ∃ i j, lsOf s2 m = some i ∧ lsOf s2 m2 = some j ∧ it = ⟨pairs i.xs j.xs, fun s => i.ok s ∧ j.ok s⟩ := by
          unfold zipOf at e1
          split at e1
          · exact absurd ⟨_, _, rfl, rfl⟩ ht
          · split at e1
            · rename_i i j h1 h2; cases e1; exact ⟨i, j, h1, h2, rfl⟩
            · cases e1
        obtain ⟨i, j, g1, g2, rfl⟩ := e2
        obtain ⟨a, rfl, h1, zs, h2⟩ := ls_at F2.sim r1' g1
        obtain ⟨b, rfl, h3, ws, h4⟩ := ls_at F2.sim r2 g2
        exact ⟨a, b, zs, ws, rfl, .inl ⟨hK ▸ h2, hK ▸ h4, hK ▸ q3 _ (wk_zip h1 h3)⟩⟩
end
end Z

namespace Z
open PySem L2

/-! ### for -/
open Classical in
noncomputable def forL (g : MG) (b : MS) (ok : Sto → Prop) : List MV → MS
  | [], env, st => if ok st then .nx env st else .bad
  | x :: r, env, st => if ok st then match g x env st with
      | .ok e s => match b e s with
        | .nx e s => forL g b ok r e s
        | .ct e s => forL g b ok r e s
        | .bk e s => .nx e s
        | .rt v s => .rt v s
        | .ex e c fs s => .ex e c fs s
        | .bad => .bad
      | _ => .bad
    else .bad
noncomputable def sFor (mi : MI) (g : MG) (b : MS) : MS := fun env => bndS (mi env) env fun it s => forL g b it.ok it.xs env s
theorem for_nil {g : MG} {b : MS} {ok : Sto → Prop} {env : Ev} {st : Sto} (h : ok st) : forL g b ok [] env st = .nx env st := by
  unfold forL; rw [if_pos h]
section
variable {X : Cx} {T : Tx} {W : WX} {mi : MI} {g : MG} {b : MS} {tg iter c : Expr} {body : List Stmt} {pos : Pos} {vs : List Nat} {mt : Ev → M Bool}
theorem s_for (hp : PassesOwn (model X.prog X.w) X.A X.env X.xe) (hc : X.calm = true) (hi : PI X tg iter (tI T W mi)) (hg : PG X tg (tTg T vs g)) (hb : PSs X body (tS T W b)) (hs : ∀ x, foldedSetIterable iter X.env x = pure x := by intro _; rfl) :
    PS X (.For tg iter body [] pos) (tS T W (sFor mi g b)) := ps_mono (ps_for hp hc hi hg hb hs) fun D σ H ⟨ρ, st, env, S, E, h⟩ => by
  refine ⟨ρ, st, env, S, E, ?_⟩
  unfold sFor bndS at h
  cases e : mi env st with
  | bad => simp only [e] at h; exact h.elim
  | ex c fs s => simp only [e] at h; exact fun ρ' H' cl d F r => h ρ' H' σ cl d F (E.later F.lat) r
  | ok it s =>
    simp only [e] at h
    intro ρ0 H0 J F0 wk
    have h0 : OutS T W ρ0 H0 D (forL g b it.ok it.xs env s) := OutS.fut F0 h
    refine ⟨fun i m σ H => m = it.xs.length - i ∧ i ≤ it.xs.length ∧ ∃ ρ st env, Fut T ρ0 H0 ρ st H ∧ REnv T ρ H env σ ∧ OutS T W ρ H D (forL g b it.ok (it.xs.drop i) env st), ⟨_, rfl, Nat.zero_le _, ρ0, s, env, Fut.refl F0.sim, E.later F0.lat, h0⟩, ?_⟩
    rintro i m σ1 H1 ⟨rfl, hi, ρ1, st1, env1, F1, E1, h1⟩
    by_cases hlt : i < it.xs.length
    · right
      rw [List.drop_eq_getElem_cons hlt] at h1
      unfold forL at h1
      by_cases ho : it.ok st1
      · rw [if_pos ho] at h1
        refine ⟨wk.goes i ρ1 st1 H1 hlt F1 ho, fun σ H => ∃ ρ st env, Fut T ρ0 H0 ρ st H ∧ REnv T ρ H env σ ∧ OutS T W ρ H D (forL g b it.ok (it.xs.drop (i + 1)) env st), fun σ' H' p => ⟨it.xs.length - (i + 1), by omega, rfl, hlt, p⟩, fun x H2 y => ?_⟩
        obtain ⟨F2, rx⟩ := wk.yields i ρ1 st1 H1 it.xs[i] x H2 (List.getElem?_eq_getElem hlt) F1 ho y
        refine ⟨ρ1, st1, env1, it.xs[i], F2.sim, E1.later F2.lat, rx, ?_⟩
        cases q : g it.xs[i] env1 st1 with
        | ok e2 s2 =>
          simp only [q] at h1
          intro ρ3 H3 σ3 F3 E3 _
          refine ⟨ρ3, s2, e2, F3.sim, E3, ?_⟩
          have h3 := OutS.fut (F2.trans F3) h1
          have F13 := F1.trans (F2.trans F3)
          cases q2 : b e2 s2 with
          | nx e s => simp only [q2] at h3; exact fun ρ' H' σ' F' E' => ⟨ρ', s, e, F13.trans F', E', h3.fut F'⟩
          | ct e s => simp only [q2] at h3; exact fun ρ' H' σ' F' E' => ⟨ρ', s, e, F13.trans F', E', h3.fut F'⟩
          | bk e s => simp only [q2] at h3; exact h3
          | rt v s => simp only [q2] at h3; exact h3
          | ex e c fs s => simp only [q2] at h3; exact h3
          | bad => simp only [q2] at h3; exact h3
        | ex c fs s2 => simp only [q] at h1; exact h1
        | bad => simp only [q] at h1; exact h1
      · rw [if_neg ho] at h1; exact h1.elim
    · left
      have ei : i = it.xs.length := by omega
      subst ei
      rw [List.drop_length] at h1
      unfold forL at h1
      by_cases ho : it.ok st1
      · rw [if_pos ho] at h1
        exact ⟨wk.stops ρ1 st1 H1 F1 ho, h1 ρ1 H1 σ1 (Fut.refl F1.sim) E1⟩
      · rw [if_neg ho] at h1; exact h1.elim
end

/-! ### while -/
def whileN (mt : Ev → M Bool) (b : MS) : Nat → MS
  | 0, _, _ => .bad
  | n + 1, env, st => bndS (mt env) env (fun k s => if k = true then (match b env s with
      | .nx e s => whileN mt b n e s
      | .ct e s => whileN mt b n e s
      | .bk e s => .nx e s
      | .rt v s => .rt v s
      | .ex e c fs s => .ex e c fs s
      | .bad => .bad) else .nx env s) st
theorem while_more {mt : Ev → M Bool} {b : MS} : ∀ {n : Nat} {env : Ev} {st : Sto} {r : Fl}, whileN mt b n env st = r → r ≠ .bad → whileN mt b (n + 1) env st = r
  | 0, env, st, r, h, hr => absurd h.symm hr
  | n + 1, env, st, r, h, hr => by
    subst h
    conv => lhs; unfold whileN
    conv at hr => lhs; unfold whileN
    conv => rhs; unfold whileN
    unfold bndS at hr ⊢
    cases e : mt env st with
    | bad => rfl
    | ex c fs s => rfl
    | ok k s =>
      simp only [e] at hr ⊢
      cases k with
      | false => rfl
      | true =>
        simp only [if_true] at hr ⊢
        cases e2 : b env s with
        | nx e3 s3 => simp only [e2] at hr ⊢; exact while_more rfl hr
        | ct e3 s3 => simp only [e2] at hr ⊢; exact while_more rfl hr
        | bk e3 s3 => rfl
        | rt v s3 => rfl
        | ex e3 c fs s3 => rfl
        | bad => rfl
open Classical in
noncomputable def sWhile (mt : Ev → M Bool) (b : MS) : MS := fun env st => if h : ∃ n, whileN mt b n env st ≠ .bad then whileN mt b h.choose env st else .bad
theorem while_add {mt : Ev → M Bool} {b : MS} {n : Nat} {env : Ev} {st : Sto} {r : Fl} (h : whileN mt b n env st = r) (hr : r ≠ .bad) : ∀ k, whileN mt b (n + k) env st = r
  | 0 => h
  | k + 1 => while_more (while_add h hr k) hr
theorem while_eq {mt : Ev → M Bool} {b : MS} {n : Nat} {env : Ev} {st : Sto} {r : Fl} (h : whileN mt b n env st = r) (hr : r ≠ .bad) : sWhile mt b env st = r := by
  have hx : ∃ n, whileN mt b n env st ≠ .bad := ⟨n, by rw [h]; exact hr⟩
  unfold sWhile
  rw [dif_pos hx]
  have q := hx.choose_spec
  have e1 := while_add (r := _) rfl q n
  have e2 := while_add h hr hx.choose
  rw [Nat.add_comm] at e2
  rw [← e1, e2]
section
variable {X : Cx} {T : Tx} {W : WX} {b : MS} {c : Expr} {body : List Stmt} {pos : Pos} {mt : Ev → M Bool}
theorem s_while (hp : PassesOwn (model X.prog X.w) X.A X.env X.xe) (hc : PT X c (tT T W mt)) (hb : PSs X body (tS T W b)) : PS X (.While c body [] pos) (tS T W (sWhile mt b)) :=
  ps_mono (ps_while hp hc hb) fun D σ H ⟨ρ, st, env, S, E, h⟩ => by
    unfold sWhile at h
    split at h
    · rename_i hx
      refine ⟨fun m σ H => ∃ ρ st env, Sim T ρ st H ∧ REnv T ρ H env σ ∧ OutS T W ρ H D (whileN mt b m env st), ⟨_, ρ, st, env, S, E, h⟩, ?_⟩
      rintro m σ1 H1 ⟨ρ1, st1, env1, S1, E1, h1⟩
      cases m with
      | zero => exact h1.elim
      | succ n =>
        unfold whileN at h1
        refine ⟨ρ1, st1, env1, S1, E1, (OutS.bnd E1 h1).imp fun k H2 ⟨ρ2, s2, k', F2, rk, q2⟩ => ?_⟩
        subst rk
        have E2 := E1.later F2.lat
        cases k' with
        | false =>
          rw [if_neg (by decide)]
          rw [if_neg (by decide)] at q2
          exact q2 ρ2 H2 σ1 (Fut.refl F2.sim) E2
        | true =>
          rw [if_pos rfl]
          rw [if_pos rfl] at q2
          refine ⟨fun σ H => ∃ ρ st env, Sim T ρ st H ∧ REnv T ρ H env σ ∧ OutS T W ρ H D (whileN mt b n env st), fun σ' H' p => ⟨n, Nat.lt_succ_self _, p⟩, ρ2, s2, env1, F2.sim, E2, ?_⟩
          cases q3 : b env1 s2 with
          | nx e s => simp only [q3] at q2; exact fun ρ' H' σ' F' E' => ⟨ρ', s, e, F'.sim, E', q2.fut F'⟩
          | ct e s => simp only [q3] at q2; exact fun ρ' H' σ' F' E' => ⟨ρ', s, e, F'.sim, E', q2.fut F'⟩
          | bk e s => simp only [q3] at q2; exact q2
          | rt v s => simp only [q3] at q2; exact q2
          | ex e c fs s => simp only [q3] at q2; exact q2
          | bad => simp only [q3] at q2; exact q2
    · exact h.elim
end

/-! ### comprehensions -/
def wipeM (env : Ev) : List Nat → Ev
  | [] => env
  | v :: vs => (wipeM env vs).set v none
theorem REnv.wipe {T : Tx} {ρ : List Addr} {H : Hp} {env : Ev} {σ : St} (E : REnv T ρ H env σ) : ∀ vs : List Nat, REnv T ρ H (wipeM env vs) (L2.wipe σ vs)
  | [] => E
  | v :: vs => (REnv.wipe E vs).unset v
abbrev WF : WX := fun _ _ _ _ => False
mutual
/-- it speaks of cells below n alone -/
def blw (n : Nat) : MV → Bool
  | .ref m => decide (m < n)
  | .tup xs => blws n xs
  | .lst xs => blws n xs
  | .frz xs => blws n xs
  | .ins _ xs => blws n xs
  | .non => true
  | .bl _ => true
  | .int _ => true
  | .str _ => true
  | .fn _ => true
  | .exc => true
def blws (n : Nat) : List MV → Bool
  | [] => true
  | x :: xs => blw n x && blws n xs
end
def cellB (n : Nat) : Cell → Bool
  | .lst xs => blws n xs
  | .ins _ fs => blws n (fs.map (·.2))
  | .dct kvs => blws n (kvs.map (·.2))
mutual
theorem blw_back {T : Tx} {ρ e : List Addr} {H : Hp} : ∀ (m : MV) (v : V), blw ρ.length m = true → RV T (ρ ++ e) H m v → RV T ρ H m v
  | .non, v, _, h => h
  | .bl _, v, _, h => h
  | .int _, v, _, h => h
  | .str _, v, _, h => h
  | .fn _, v, _, h => h
  | .exc, v, _, h => h
  | .tup xs, v, b, h => by
    obtain ⟨a, ys, rfl, z, r⟩ := h
    refine ⟨a, ys, rfl, ?_, blws_back xs ys (by simpa [blw] using b) r⟩
    rcases z with ⟨z1, z2⟩ | z
    · exact .inl ⟨fun q => z1 (List.mem_append_left _ q), z2⟩
    · exact .inr z
  | .lst xs, v, b, h => by
    obtain ⟨a, ys, rfl, z1, z, r⟩ := h
    exact ⟨a, ys, rfl, fun q => z1 (List.mem_append_left _ q), z, blws_back xs ys (by simpa [blw] using b) r⟩
  | .frz xs, v, b, h => by
    obtain ⟨a, ys, rfl, z, r⟩ := h
    refine ⟨a, ys, rfl, ?_, blws_back xs ys (by simpa [blw] using b) r⟩
    rcases z with ⟨z1, z2⟩ | z
    · exact .inl ⟨fun q => z1 (List.mem_append_left _ q), z2⟩
    · exact .inr z
  | .ins c xs, v, b, h => by
    obtain ⟨a, dx, vs, rfl, z1, z2, z3, z4, r⟩ := h
    exact ⟨a, dx, vs, rfl, fun q => z1 (List.mem_append_left _ q), z2, z3, z4, blws_back xs vs (by simpa [blw] using b) r⟩
  | .ref n, v, b, h => by
    obtain ⟨a, e1, rfl⟩ := h
    have hn : n < ρ.length := by simpa [blw] using b
    rw [List.getElem?_append_left hn] at e1
    exact ⟨a, e1, rfl⟩
theorem blws_back {T : Tx} {ρ e : List Addr} {H : Hp} : ∀ (ms : List MV) (vs : List V), blws ρ.length ms = true → RVs T (ρ ++ e) H ms vs → RVs T ρ H ms vs
  | [], vs, _, h => h
  | x :: xs, vs, b, h => by
    obtain ⟨y, ys, rfl, h1, h2⟩ := h
    have b' : blw ρ.length x = true ∧ blws ρ.length xs = true := by simpa [blws] using b
    exact ⟨y, ys, rfl, blw_back x y b'.1 h1, blws_back xs ys b'.2 h2⟩
end
theorem cellB_back {T : Tx} {ρ e : List Addr} {H : Hp} {o : Option HO} : ∀ {c : Cell}, cellB ρ.length c = true → RC T (ρ ++ e) H c o → RC T ρ H c o
  | .lst xs, b, h => by obtain ⟨ys, e1, r⟩ := h; exact ⟨ys, e1, blws_back xs ys b r⟩
  | .ins c fs, b, h => by obtain ⟨dx, vs, e1, h1, h2, h3, r⟩ := h; exact ⟨dx, vs, e1, h1, h2, h3, blws_back _ vs b r⟩
  | .dct kvs, b, h => by
    obtain ⟨u, e1, r⟩ := h
    refine ⟨u, e1, ?_⟩
    rcases r with ⟨ys, h1, h2, r⟩ | ⟨ys, h1, h2, r⟩
    · exact .inl ⟨ys, h1, h2, blws_back _ _ b r⟩
    · exact .inr ⟨ys, h1, h2, blws_back _ _ b r⟩
/-- the cells of s are as they were, or speak of cells below -/
def Bk (s t : Sto) : Prop := ∀ (i : Nat) (c : Cell), t[i]? = some c → i < s.length → s[i]? = some c ∨ cellB s.length c = true
theorem RC.back {T : Tx} {ρ e : List Addr} {H H' : Hp} {o o0 : Option HO} : ∀ {c : Cell}, RC T (ρ ++ e) H' c o → RC T ρ H c o0 → RC T ρ H' c o
  | .lst xs, rc, rc0 => by
    obtain ⟨ys, e3, r⟩ := rc
    obtain ⟨zs, _, r0⟩ := rc0
    exact ⟨ys, e3, RVs.back xs ys zs r r0⟩
  | .ins c fs, rc, rc0 => by
    obtain ⟨dx, vs, e3, h1, h2, h3, r⟩ := rc
    obtain ⟨dx0, vs0, _, _, _, _, r0⟩ := rc0
    exact ⟨dx, vs, e3, h1, h2, h3, RVs.back _ vs vs0 r r0⟩
  | .dct kvs, rc, rc0 => by
    obtain ⟨u, e3, r⟩ := rc
    obtain ⟨u0, _, r0⟩ := rc0
    refine ⟨u, e3, ?_⟩
    have q0 : ∃ us, RVs T ρ H (kvs.map (·.2)) us := by
      rcases r0 with ⟨ys, _, _, r⟩ | ⟨ys, _, _, r⟩
      · exact ⟨_, r⟩
      · exact ⟨_, r⟩
    obtain ⟨us, q0⟩ := q0
    rcases r with ⟨ys, h1, h2, r⟩ | ⟨ys, h1, h2, r⟩
    · exact .inl ⟨ys, h1, h2, RVs.back _ _ us r q0⟩
    · exact .inr ⟨ys, h1, h2, RVs.back _ _ us r q0⟩
open Classical in
/-- the turns: the new list stands in cell n -/
noncomputable def lcL (g : MG) (mt : Ev → M Bool) (me : Ev → M MV) (ok : Sto → Prop) (n : Nat) (env : Ev) : List MV → Sto → Option Sto
  | [], s => if ok s then some s else none
  | x :: r, s => if ok s then match g x env s with
      | .ok e s1 => match mt e s1 with
        | .ok true s2 => match me e s2 with
          | .ok y s3 => match s3[n]? with
            | some (.lst acc) => if acc.length < line then lcL g mt me ok n env r (s3.set n (.lst (acc ++ [y]))) else none
            | _ => none
          | _ => none
        | .ok false s2 => lcL g mt me ok n env r s2
        | _ => none
      | _ => none
    else none
open Classical in
noncomputable def mLc (fr : Bool) (mi : MI) (g : MG) (mt : Ev → M Bool) (me : Ev → M MV) (vs : List Nat) : Ev → M MV := fun env => M.bnd (mi env) fun it s =>
  match lcL g mt me it.ok s.length (wipeM env vs) it.xs (s ++ [.lst []]) with
  | some t => if fr = true then match t[s.length]? with
      | some (.lst acc) => if t.length = s.length + 1 ∧ Bk s t then match acc.mapM (frzM t s.length 40) with
          | some acc' => .ok (.lst acc') (t.take s.length)
          | none => .bad
        else .bad
      | _ => .bad
    else .ok (.ref s.length) t
  | none => .bad
def mYes : Ev → M Bool := fun _ => M.ret true
section
variable {X : Cx} {T : Tx} {W : WX} {mi : MI} {g : MG} {mt : Ev → M Bool} {me : Ev → M MV} {vs : List Nat} {own : List (Str × Nat)} {scope : Scope} {elt tg iter : Expr} {ifs : List Expr} {pos : Pos}
theorem pts_mono {X : Cx} {t t' : TT} (h : PTs X ifs t) (q : ∀ σ H Q, t' σ H Q → t σ H Q) : PTs X ifs t' := ⟨fun pins s σ H Q I z => h.run pins s σ H Q I (q σ H Q z)⟩
theorem ts_nil {X : Cx} : PTs X [] (tT T W mYes) := pts_mono pts_nil fun σ H Q ⟨ρ, st, env, S, E, h⟩ => h ρ H true (Fut.refl S) rfl
theorem ts_one {X : Cx} {c : Expr} (h : PT X c (tT T W mt)) : PTs X [c] (tT T W mt) := pts_one h
/-- the last cell is let go: its object is inline from then on -/
theorem Fut.pop {ρ : List Addr} {H H' : Hp} {s t : Sto} {ρ1 : List Addr} {D : Addr} (S : Sim T ρ s H) (hD : H D = none) (F : Fut T ρ H ρ1 t H') (hi : ρ1[s.length]? = some D) (hl : t.length = s.length + 1) (hc : Bk s t) :
    ρ1.take s.length = ρ ∧ Fut T ρ H ρ (t.take s.length) H' := by
  obtain ⟨e, rfl, he⟩ := F.more
  have hlen := S.len
  have ht : (ρ ++ e).take s.length = ρ := by rw [← hlen]; simp
  refine ⟨ht, ⟨Lat.refl.more, ⟨by rw [List.length_take, hl, hlen]; omega, S.nd, fun c fs cl d a h => (S.exc c fs cl d a h).later ⟨Lat.refl.more, F.keep⟩, fun i a c e1 e2 => ?_⟩, F.keep⟩⟩
  have hi' := (List.getElem?_eq_some_iff.mp e2).1
  rw [List.length_take] at hi'
  have e1' : (ρ ++ e)[i]? = some a := by rw [List.getElem?_append_left (by omega)]; exact e1
  have e2' : t[i]? = some c := by rw [List.getElem?_take_of_lt (by omega)] at e2; exact e2
  have rc := F.sim.cell i a c e1' e2'
  rcases hc i c e2' (by omega) with h | hb
  · exact rc.back (S.cell i a c e1 h)
  · rw [← hlen] at hb
    exact cellB_back hb rc
theorem lc_red {fr : Bool} {σ : St} {H : Hp} {Q : VK} (h : tE T W (mLc fr mi g mt me vs) σ H Q) : tLc (tI T W mi) (tTg T vs g) (tT T WF mt) (tE T WF me) vs σ H Q := by
  obtain ⟨ρ, st, env, S, E, h⟩ := h
  refine ⟨ρ, st, env, S, E, ?_⟩
  unfold mLc M.bnd at h
  cases e : mi env st with
  | bad => simp only [e] at h; exact h.elim
  | ex c fs s => simp only [e] at h; exact h
  | ok it s =>
    simp only [e] at h
    intro ρ0 H0 J F0 wk D hD
    have h0 := Out.fut F0 h
    have FD := F0.sim.push (c := .lst []) (o := .lst []) hD fun ρ' H' L => ⟨[], rfl, rfl⟩
    have nD : (ρ0 ++ [D])[s.length]? = some D := by rw [← F0.sim.len]; simp
    cases hl : lcL g mt me it.ok s.length (wipeM env vs) it.xs (s ++ [.lst []]) with
    | none => rw [hl] at h0; exact h0.elim
    | some t =>
      rw [hl] at h0
      refine ⟨fun i m H => m = it.xs.length - i ∧ i ≤ it.xs.length ∧ ∃ ρ st, Fut T (ρ0 ++ [D]) (upd H0 D (.lst [])) ρ st H ∧ lcL g mt me it.ok s.length (wipeM env vs) (it.xs.drop i) st = some t, ⟨_, rfl, Nat.zero_le _, _, _, Fut.refl FD.sim, hl⟩, ?_⟩
      rintro i m H1 ⟨rfl, hi, ρ1, st1, F1, h1⟩
      have F01 : Fut T ρ0 H0 ρ1 st1 H1 := FD.trans F1
      by_cases hlt : i < it.xs.length
      · right
        rw [List.drop_eq_getElem_cons hlt] at h1
        unfold lcL at h1
        by_cases ho : it.ok st1
        · rw [if_pos ho] at h1
          refine ⟨wk.goes i ρ1 st1 H1 hlt F01 ho, fun H => ∃ ρ st, Fut T (ρ0 ++ [D]) (upd H0 D (.lst [])) ρ st H ∧ lcL g mt me it.ok s.length (wipeM env vs) (it.xs.drop (i + 1)) st = some t, fun H' p => ⟨it.xs.length - (i + 1), by omega, rfl, hlt, p⟩, fun x H2 y => ?_⟩
          obtain ⟨F2, rx⟩ := wk.yields i ρ1 st1 H1 it.xs[i] x H2 (List.getElem?_eq_getElem hlt) F01 ho y
          have E2 : REnv T ρ1 H2 (wipeM env vs) (L2.wipe σ vs) := (E.later (F0.trans (F01.trans F2)).lat).wipe vs
          refine ⟨ρ1, st1, wipeM env vs, it.xs[i], F2.sim, E2, rx, ?_⟩
          cases q1 : g it.xs[i] (wipeM env vs) st1 with
          | ok e2 s2 =>
            simp only [q1] at h1
            intro ρ3 H3 σ3 F3 E3 w3
            refine ⟨by rw [w3, wipe_wipe], ρ3, s2, e2, F3.sim, E3, ?_⟩
            cases q2 : mt e2 s2 with
            | ok k s4 =>
              simp only [q2] at h1
              intro ρ4 H4 b F4 rb
              subst rb
              cases k with
              | false =>
                rw [if_neg (by decide)]
                simp only at h1
                exact ⟨ρ4, s4, F1.trans (F2.trans (F3.trans F4)), h1⟩
              | true =>
                rw [if_pos rfl]
                simp only at h1
                refine ⟨ρ4, s4, e2, F4.sim, E3.later F4.lat, ?_⟩
                cases q3 : me e2 s4 with
                | ok y s5 =>
                  simp only [q3] at h1
                  intro ρ5 H5 v F5 rv
                  have F15 := F1.trans (F2.trans (F3.trans (F4.trans F5)))
                  have nD5 := F15.lat.ix nD
                  cases q4 : s5[s.length]? with
                  | none => simp only [q4] at h1; cases h1
                  | some cl =>
                    simp only [q4] at h1
                    cases cl with
                    | lst acc =>
                      simp only at h1
                      by_cases hz : acc.length < line
                      · rw [if_pos hz] at h1
                        obtain ⟨us, eu, ru⟩ := F5.sim.cell _ D _ nD5 q4
                        refine ⟨us, eu, by rw [← ru.length]; exact line_lt hz, ρ5, _, ?_, h1⟩
                        exact F15.trans (F5.sim.set (c := .lst (acc ++ [y])) (o := .lst (us ++ [v])) nD5 fun ρ' H' L => ⟨_, rfl, (ru.later L).append (RVs.one (rv.later L))⟩)
                      · rw [if_neg hz] at h1; cases h1
                    | _ => cases h1
                | ex c fs s5 => simp only [q3] at h1; cases h1
                | bad => simp only [q3] at h1; cases h1
            | ex c fs s4 => simp only [q2] at h1; cases h1
            | bad => simp only [q2] at h1; cases h1
          | ex c fs s2 => simp only [q1] at h1; cases h1
          | bad => simp only [q1] at h1; cases h1
        · rw [if_neg ho] at h1; cases h1
      · left
        have ei : i = it.xs.length := by omega
        subst ei
        rw [List.drop_length] at h1
        unfold lcL at h1
        by_cases ho : it.ok st1
        · rw [if_pos ho] at h1
          have e1 : st1 = t := Option.some.inj h1
          subst e1
          refine ⟨wk.stops ρ1 st1 H1 F01 ho, ?_⟩
          have nD1 := F1.lat.ix nD
          cases fr with
          | false => exact h0 ρ1 H1 (.ref D) F01 ⟨D, nD1, rfl⟩
          | true =>
            simp only [if_true] at h0
            cases q4 : st1[s.length]? with
            | none => simp only [q4] at h0; exact h0.elim
            | some cl =>
              simp only [q4] at h0
              cases cl with
              | lst acc =>
                simp only at h0
                by_cases hz : st1.length = s.length + 1 ∧ Bk s st1
                · rw [if_pos hz] at h0
                  obtain ⟨us, eu, ru⟩ := F1.sim.cell _ D _ nD1 q4
                  cases q5 : acc.mapM (frzM st1 s.length 40) with
                  | none => rw [q5] at h0; exact h0.elim
                  | some acc' =>
                    rw [q5] at h0
                    obtain ⟨p1, p2⟩ := Fut.pop F0.sim hD F01 nD1 hz.1 hz.2
                    have rz := frz_all (frz_ok (n := s.length) F1.sim 40) ru q5
                    rw [p1] at rz
                    exact h0 ρ0 H1 (.ref D) p2 ⟨D, us, rfl, F0.sim.free hD, eu, rz⟩
                · rw [if_neg hz] at h0; exact h0.elim
              | _ => exact h0.elim
        · rw [if_neg ho] at h1; cases h1
end
end Z

namespace Z
open PySem L2

section
variable {X : Cx} {T : Tx} {W : WX} {mi : MI} {g : MG} {mt : Ev → M Bool} {me : Ev → M MV} {vs : List Nat} {own : List (Str × Nat)} {scope : Scope} {elt tg iter : Expr} {ifs : List Expr} {pos : Pos}
abbrev Blk (X : Cx) (scope : Scope) (s : Shared) (H : Hp) (C : Addr) (cl : List (Str × Addr)) (fp : List Addr) : Cx := X.blk s H scope (compEnvC scope cl C X.env) fp
/-- [elt for tg in iter if ..] -/
theorem v_lc (fr : Bool) (own : List (Str × Nat)) (hc : X.calm = true) (hN : X.N.Nodup) (hi : PI X tg iter (tI T W mi)) (ok : BlkOk X.N X.env.scope scope own)
    (hg : ∀ s H C cl fp, PG (Blk X scope s H C cl fp) tg (tTg T (own.map (·.2)) g)) (ht : ∀ s H C cl fp, PTs (Blk X scope s H C cl fp) ifs (tT T WF mt))
    (he : ∀ s H C cl fp, PE (Blk X scope s H C cl fp) elt (tE T WF me)) (hs : ∀ x, foldedSetIterable iter X.env x = pure x := by intro _; rfl) :
    PE X (.ListComp elt [⟨tg, iter, ifs, 0⟩] scope pos) (tE T W (mLc fr mi g mt me (own.map (·.2)))) := pe_mono (pe_lc hc hN hi ok hg ht he hs) fun σ H Q h => lc_red h
theorem s_setLc {y : Str} {py spos : Pos} (i : Nat) (fr : Bool) (own : List (Str × Nat)) (hc : X.calm = true) (hN : X.N.Nodup) (hi : PI X tg iter (tI T W mi)) (ok : BlkOk X.N X.env.scope scope own)
    (hg : ∀ s H C cl fp, PG (Blk X scope s H C cl fp) tg (tTg T (own.map (·.2)) g)) (ht : ∀ s H C cl fp, PTs (Blk X scope s H C cl fp) ifs (tT T WF mt))
    (he : ∀ s H C cl fp, PE (Blk X scope s H C cl fp) elt (tE T WF me)) (hy : X.N[i]? = some y := by rfl) (hyl : X.env.scope.names.lookup y = some .local := by rfl)
    (hsw : swapsWith (.ListComp elt [⟨tg, iter, ifs, 0⟩] scope pos) (some (.Name y py)) spos.line X.env = pure true := by exact sw_true rfl rfl rfl (by decide +kernel))
    (hs : ∀ x, foldedSetIterable iter X.env x = pure x := by intro _; rfl) :
    PS X (.Assign [.Name y py] (.ListComp elt [⟨tg, iter, ifs, 0⟩] scope pos) spos) (tS T W (sAsg i (mLc fr mi g mt me (own.map (·.2))))) :=
  ps_mono (ps_setLc hc hN hy hyl hsw hi ok hg ht he hs) fun D σ H ⟨ρ, st, env, S, E, h⟩ => by
    have h2 : tE T W (mLc fr mi g mt me (own.map (·.2))) σ H fun x H1 => gName i x σ H1 D.nx :=
      ⟨ρ, st, env, S, E, (OutS.bnd E h).imp fun v H1 ⟨ρ1, s1, m, F1, r1, q1⟩ => q1 ρ1 H1 _ (Fut.refl F1.sim) ((E.later F1.lat).set r1 i)⟩
    exact lc_red h2
end

/-! ### raise X('..'), X without an __init__ of its own -/
def sRaise (c : Nat) : MS := fun env st => .ex env c [] st
section
variable {X : Cx} {T : Tx} {W : WX} {c : Nat} {x m : Str} {p p2 pos pos2 : Pos} {j : Nat} {bmB : List Value} {B newId initId : String}
theorem s_raise (hc : X.calm = true) (tk : Takes X W) (F : ExcBaseFacts B newId initId bmB) (q : PySem.W.excIn X.K (T.cls c) bmB newId = true) (gC : X.mg x = some (.ref (T.cls c))) (kC : PySem.W.keepIn X.K (.ref (T.cls c)) = true) (r : Raises X (.ref (T.cls c))) (hx : T.hasX c = true)
    (hg : Gl X x := by rfl) (hdb : (x == ("__debug__" : Str)) = false := by decide) : PS X (.Raise (some (.Call (.Name x p) [.Constant (.str m) j p2] [] pos)) none pos2) (tS T W (sRaise c)) :=
  ps_mono (ps_raise hc tk (pmk_own F q gC kC r hg hdb)) fun D σ H ⟨ρ, st, env, S, E, h⟩ => h ρ H σ _ none (Fut.refl S) E ⟨rfl, hx, by simp, .inl ⟨rfl, rfl⟩⟩
end

/-! ### try -/
/-- is class c under class k? FrameError is 0 -/
def subX (c k : Nat) : Bool := k == 0 || c == k
def isExc : Option MV → Bool
  | some .exc => true
  | _ => false
/-- the clause's name goes -/
def leaveE (i : Nat) (e : Ev) : Option Ev := if (e.set i none).any isExc = true then none else some (e.set i none)
def unsetN (i : Nat) : Fl → Fl
  | .nx e s => match leaveE i e with
    | some e' => .nx e' s
    | none => .bad
  | .bk e s => match leaveE i e with
    | some e' => .bk e' s
    | none => .bad
  | .ct e s => match leaveE i e with
    | some e' => .ct e' s
    | none => .bad
  | .rt v s => .rt v s
  | .ex _ _ _ _ => .bad
  | .bad => .bad
def sTry (i k : Nat) (mb : MS) (ms : Nat → List (Nat × MV) → MS) : MS := fun env st => match mb env st with
  | .ex e c fs s => if subX c k = true then unsetN i (ms c fs (e.set i (some .exc)) s) else .ex e c fs s
  | r => r
abbrev Tx.on (T : Tx) (c : Nat) (fs : List (Nat × MV)) (cl : Value) (d : Option Addr) (a : Addr) : Tx := { T with exc := some (c, fs, cl, d, a) }
section
variable {X : Cx} {T : Tx} {W : WX} {k i : Nat} {x n : Str} {body suite : List Stmt} {b₀ : Stmt} {np pos pos' : Pos} {mb : MS} {ms : Nat → List (Nat × MV) → MS}
theorem REnv.on {ρ : List Addr} {H : Hp} {c : Nat} {fs : List (Nat × MV)} {cl : Value} {d : Option Addr} {a : Addr} (hT : T.exc = none) : ∀ {e : Ev} {σ : St}, REnv T ρ H e σ → REnv (T.on c fs cl d a) ρ H e σ
  | [], _, h => h
  | none :: e, _, h => by obtain ⟨o, σ', q, r⟩ := h; exact ⟨o, σ', q, REnv.on hT r⟩
  | some m :: e, _, h => by
    obtain ⟨v, σ', q, r1, r⟩ := h
    rcases r1 with r1 | ⟨_, _, _, _, _, _, z, _⟩
    · exact ⟨v, σ', q, .inl r1, REnv.on hT r⟩
    · rw [hT] at z; cases z
theorem REnv.off {ρ : List Addr} {H : Hp} {c : Nat} {fs : List (Nat × MV)} {cl : Value} {d : Option Addr} {a : Addr} : ∀ {e : Ev} {σ : St}, e.any isExc = false → REnv (T.on c fs cl d a) ρ H e σ → REnv T ρ H e σ
  | [], _, _, h => h
  | none :: e, _, b, h => by obtain ⟨o, σ', q, r⟩ := h; exact ⟨o, σ', q, REnv.off (by simpa [isExc] using b) r⟩
  | some m :: e, _, b, h => by
    obtain ⟨v, σ', q, r1, r⟩ := h
    have b' : isExc (some m) = false ∧ e.any isExc = false := by simpa [List.any_cons] using b
    rcases r1 with r1 | ⟨rfl, _⟩
    · exact ⟨v, σ', q, .inl r1, REnv.off b'.2 r⟩
    · exact absurd b'.1 (by decide)
theorem REnv.mark {ρ : List Addr} {H : Hp} {c : Nat} {fs : List (Nat × MV)} {cl : Value} {d : Option Addr} {a : Addr} : ∀ {e : Ev} {σ : St} (i : Nat), REnv (T.on c fs cl d a) ρ H e σ → REnv (T.on c fs cl d a) ρ H (e.set i (some .exc)) (σ.set i (some (.ref a)))
  | [], _, i, h => by cases h; exact rfl
  | none :: e, _, 0, h => by obtain ⟨o, σ', rfl, q⟩ := h; exact ⟨_, σ', rfl, .inr ⟨rfl, c, fs, cl, d, a, rfl, rfl⟩, q⟩
  | none :: e, _, i + 1, h => by obtain ⟨o, σ', rfl, q⟩ := h; exact ⟨o, σ'.set i _, rfl, REnv.mark i q⟩
  | some m' :: e, _, 0, h => by obtain ⟨o, σ', rfl, _, q⟩ := h; exact ⟨_, σ', rfl, .inr ⟨rfl, c, fs, cl, d, a, rfl, rfl⟩, q⟩
  | some m' :: e, _, i + 1, h => by obtain ⟨o, σ', rfl, r1, q⟩ := h; exact ⟨o, σ'.set i _, rfl, r1, REnv.mark i q⟩
theorem Sim.on {ρ : List Addr} {st : Sto} {H : Hp} {c : Nat} {fs : List (Nat × MV)} {cl : Value} {d : Option Addr} {a : Addr} (S : Sim T ρ st H) (r : RX T ρ H c fs cl d) : Sim (T.on c fs cl d a) ρ st H :=
  ⟨S.len, S.nd, fun c' fs' cl' d' a' h => by cases h; exact r, S.cell⟩
theorem Fut.off {ρ ρ' : List Addr} {st' : Sto} {H H' : Hp} {c : Nat} {fs : List (Nat × MV)} {cl : Value} {d : Option Addr} {a : Addr} {st : Sto} (S : Sim T ρ st H) (F : Fut (T.on c fs cl d a) ρ H ρ' st' H') : Fut T ρ H ρ' st' H' :=
  ⟨F.more, ⟨F.sim.len, F.sim.nd, fun c' fs' cl' d' a' h => (S.exc c' fs' cl' d' a' h).later F.lat, F.sim.cell⟩, F.keep⟩
theorem leave_off {ρ : List Addr} {H : Hp} {c : Nat} {fs : List (Nat × MV)} {cl : Value} {d : Option Addr} {a : Addr} {e e' : Ev} {σ : St} (h : leaveE i e = some e') (E : REnv (T.on c fs cl d a) ρ H e σ) : REnv T ρ H e' (σ.set i none) := by
  unfold leaveE at h
  by_cases q : (e.set i none).any isExc = true
  · rw [if_pos q] at h; cases h
  · rw [if_neg q] at h; cases h
    exact REnv.off (by simpa using q) (REnv.unset i E)
theorem try_red (hT : T.exc = none) (hex : ∀ c, T.hasX c = true → PySem.W.exmOne X.K (.ref (T.cls c)) (.ref (T.cls k)) = some (subX c k)) {D : Ends} {σ : St} {H : Hp} (h : tS T W (sTry i k mb ms) D σ H) :
    tS T (wAs X.K (.ref (T.cls k)) i (fun a cl d D σ H => ∃ c fs, tS (T.on c fs cl d a) WF (ms c fs) D σ H) W D) mb D σ H := by
  obtain ⟨ρ, st, env, S, E, h⟩ := h
  refine ⟨ρ, st, env, S, E, ?_⟩
  unfold sTry at h
  cases em : mb env st with
  | nx e s => simp only [em] at h; exact h
  | rt v s => simp only [em] at h; exact h
  | bk e s => simp only [em] at h; exact h
  | ct e s => simp only [em] at h; exact h
  | bad => simp only [em] at h; exact h
  | ex e c fs s =>
    simp only [em] at h
    intro ρ1 H1 σ1 cl d F1 E1 r1
    obtain ⟨e1, e2, _, _⟩ := id r1
    refine ⟨subX c k, by rw [e1]; exact hex c e2, fun hs a ha => ?_, fun hs => ?_⟩
    · rw [if_pos hs] at h
      have h1 := OutS.fut F1 h
      refine ⟨c, fs, ρ1, s, e.set i (some .exc), F1.sim.on r1, (E1.on hT).mark i, ?_⟩
      cases q : ms c fs (e.set i (some .exc)) s with
      | nx e3 s3 =>
        simp only [q, unsetN] at h1
        intro ρ' H' σ' F' E'
        cases q2 : leaveE i e3 with
        | none => rw [q2] at h1; exact h1.elim
        | some e4 => rw [q2] at h1; exact h1 ρ' H' (σ'.set i none) (F'.off F1.sim) (leave_off q2 E')
      | rt v s3 => simp only [q, unsetN] at h1; exact fun ρ' H' u F' r' => h1 ρ' H' u (F'.off F1.sim) r'
      | bk e3 s3 =>
        simp only [q, unsetN] at h1
        intro ρ' H' σ' F' E'
        cases q2 : leaveE i e3 with
        | none => rw [q2] at h1; exact h1.elim
        | some e4 => rw [q2] at h1; exact h1 ρ' H' (σ'.set i none) (F'.off F1.sim) (leave_off q2 E')
      | ct e3 s3 =>
        simp only [q, unsetN] at h1
        intro ρ' H' σ' F' E'
        cases q2 : leaveE i e3 with
        | none => rw [q2] at h1; exact h1.elim
        | some e4 => rw [q2] at h1; exact h1 ρ' H' (σ'.set i none) (F'.off F1.sim) (leave_off q2 E')
      | ex e3 c3 fs3 s3 => simp only [q, unsetN] at h1; exact h1.elim
      | bad => simp only [q, unsetN] at h1; exact h1.elim
    · have hs' : ¬ subX c k = true := by rw [hs]; decide
      rw [if_neg hs'] at h
      exact h ρ1 H1 σ1 cl d F1 E1 r1
theorem s_try (hT : T.exc = none) (hs : X.stack = X.env :: X.outer) (hf : X.env.frame = some X.env.locals) (hN : X.N.Nodup) (hc : Names X x (.ref (T.cls k))) (tk : Takes X W)
    (hex : ∀ c, T.hasX c = true → PySem.W.exmOne X.K (.ref (T.cls c)) (.ref (T.cls k)) = some (subX c k))
    (hb : ∀ (W : WX) (pn : List (Addr × Obj)) (xe : Value → Shared → Prop), Takes (X.tr pn xe) W → PassesOwn (model X.prog X.w) X.A X.env xe → PSs (X.tr pn xe) body (tS T W mb))
    (hsu : ∀ (a : Addr) (oe : Obj) (cl : Value) (d : Option Addr) (pn : List (Addr × Obj)) (c : Nat) (fs : List (Nat × MV)), Zc cl d oe → (∃ vs, oe.data = .fields vs) → PSs (X.suite a ((a, oe) :: pn)) (b₀ :: suite) (tS (T.on c fs cl d a) WF (ms c fs)))
    (hi : X.N[i]? = some n := by rfl) (hln : X.env.kindOf n = some .local := by rfl) :
    PS X (.Try body [.ExceptHandler (some (.Name x np)) (some n) (b₀ :: suite) pos'] [] [] pos) (tS T W (sTry i k mb ms)) :=
  ps_mono (ps_try_as (tb := fun W => tS T W mb) (ts := fun a cl d D σ H => ∃ c fs, tS (T.on c fs cl d a) WF (ms c fs) D σ H) (Wout := W) hs hf hN hi hln hc tk hb (fun a oe cl d pn hz hv => ⟨fun pins s σ H D I ⟨c, fs, h⟩ => (hsu a oe cl d pn c fs hz hv).run pins s σ H D I h⟩)) fun D σ H h => try_red hT hex h
end
end Z

namespace Z
open PySem L2

/-! ### operators that may be a class's own -/
def OpM (X : Cx) (T : Tx) (W : WX) (f : Value → Value → Sem Value) (g : MV → MV → M MV) : Prop :=
  ∀ (pins : List (Addr × Obj)) (s : Shared) (σ : St) (H : Hp) (x y : V) (v u : Value) (Q : VK) (ρ : List Addr) (st : Sto) (a b : MV), Inv X pins σ H s → RelV x v → RelV y u → Sim T ρ st H → RV T ρ H a x → RV T ρ H b y →
    OutF T ρ H (g a b st) Q (WE W σ) → wpAny (model X.prog X.w) X.A (f v u) (EP X pins σ Q) X.xe s
/-- a dunder of class c by its plain reading -/
structure OwnOk (X : Cx) (T : Tx) (nm : Str) (p c : Nat) (mf : MF) : Prop where
  ok : ∃ (f : Addr) (fd : FuncData) (ps : List Str) (k : Nat), PySem.W.findIn X.K (.ref (T.cls c)) nm = some (some (.ref f)) ∧ PySem.W.isFn X.K (.ref f) = true ∧ FnOk X.prog X.w X.K X.mg X.base (L2.CX X.prog X.w) k f fd ps (spM T p mf) ∧ Room (k + 2) X.A ∧ Binds X.K fd ps []
  sf : PySem.W.selfFirst X.K (T.cls c) = true
def ownM (cs : List (Nat × MF)) (g : MV → MV → M MV) : MV → MV → M MV := fun x y s => match clsOf s x, clsOf s y with
  | some c, some d => if c = d then match cs.lookup c with
      | some mf => mf [x, y] s
      | none => .bad
    else .bad
  | none, none => g x y s
  | _, _ => .bad
def optM (f : Sto → MV → MV → Option MV) : MV → MV → M MV := fun x y s => M.opt (f s x y) s
def mBinM (g : MV → MV → M MV) (ma mb : Ev → M MV) : Ev → M MV := fun env => M.bnd (ma env) fun x => M.bnd (mb env) fun y => g x y
def cmpB (f : Sto → MV → MV → Option Bool) : MV → MV → M MV := fun x y s => match f s x y with
  | some b => .ok (.bl b) s
  | none => .bad
def mCmpM (g : MV → MV → M MV) (ma mb : Ev → M MV) : Ev → M Bool := fun env => M.bnd (mBinM g ma mb env) fun x => match x with
  | .bl b => M.ret b
  | _ => fun _ => .bad
section
variable {X : Cx} {T : Tx} {W : WX} {ma mb : Ev → M MV} {a b : Expr} {pos : Pos} {cs : List (Nat × MF)} {g : MV → MV → M MV}
theorem om_prim {f : Value → Value → Sem Value} {h : Sto → MV → MV → Option MV} (ho : OpR X f (rB T h)) : OpM X T W f (optM h) := fun pins s σ H x y v u Q ρ st a b I rx ry S ra rb q => by
  unfold optM M.opt at q
  cases e : h st a b with
  | none => rw [e] at q; exact q.elim
  | some w =>
    rw [e] at q
    exact ho pins s σ H x y v u Q I rx ry ⟨ρ, st, a, b, w, S, ra, rb, e, fun H' z F r => q ρ H' z F r⟩
theorem om_cmp {f : Value → Value → Sem Value} {h : Sto → MV → MV → Option Bool} (ho : OpR X f (rP T h)) : OpM X T W f (cmpB h) := fun pins s σ H x y v u Q ρ st a b I rx ry S ra rb q => by
  unfold cmpB at q
  cases e : h st a b with
  | none => rw [e] at q; exact q.elim
  | some w =>
    rw [e] at q
    exact ho pins s σ H x y v u Q I rx ry ⟨ρ, st, a, b, w, S, ra, rb, e, q ρ H (.bl w) (Fut.refl S) rfl⟩
/-- an own def at two instances -/
theorem own_call {pins : List (Addr × Obj)} {s : Shared} {σ : St} {H : Hp} {Q : VK} {ρ : List Addr} {st : Sto} {f : Addr} {fd : FuncData} {ps : List Str} {k p : Nat} {mf : MF} {ms : List MV} {vs : List V} {us : List Value} (tk : Takes X W)
    (F : FnOk X.prog X.w X.K X.mg X.base (L2.CX X.prog X.w) k f fd ps (spM T p mf)) (hr : Room k X.A) (hb : Binds X.K fd ps []) (I : Inv X pins σ H s) (S : Sim T ρ st H) (r : RVs T ρ H ms vs) (rv : Vals vs us) (hl : ms.length = p) (q : OutF T ρ H (mf ms st) Q (WE W σ)) :
    wpAny (model X.prog X.w) X.A (call (.ref f) us) (EP X pins σ Q) X.xe s := run_fnS F hr hb (passAt tk σ) I rv ⟨ρ, st, ms, S, r, hl, q⟩
theorem back_of {pins : List (Addr × Obj)} {σ : St} {Q : VK} {v : Value} {s' : Shared} (h : EP X pins σ Q v s') : PySem.W.CmpBack (EP X pins σ Q) v s' := by
  cases v with
  | notImplemented =>
    obtain ⟨x, H, I, r, q⟩ := h
    cases x with
    | int i => obtain ⟨t, e⟩ := r; cases e
    | str i => obtain ⟨t, e⟩ := r; cases e
    | byt i => obtain ⟨t, e⟩ := r; cases e
    | flt i => obtain ⟨t, e⟩ := r; cases e
    | _ => cases r
  | _ => exact h
theorem own_split {x y : MV} {st : Sto} {ρ : List Addr} {H : Hp} {Q : VK} {E : XK} (h : OutF T ρ H (ownM cs g x y st) Q E) :
    (∃ c mf, clsOf st x = some c ∧ clsOf st y = some c ∧ cs.lookup c = some mf ∧ OutF T ρ H (mf [x, y] st) Q E) ∨ (clsOf st x = none ∧ clsOf st y = none ∧ OutF T ρ H (g x y st) Q E) := by
  unfold ownM at h
  cases e1 : clsOf st x with
  | none =>
    cases e2 : clsOf st y with
    | none => rw [e1, e2] at h; exact .inr ⟨rfl, rfl, h⟩
    | some d => rw [e1, e2] at h; exact h.elim
  | some c =>
    cases e2 : clsOf st y with
    | none => rw [e1, e2] at h; exact h.elim
    | some d =>
      rw [e1, e2] at h
      simp only at h
      by_cases hc : c = d
      · subst hc
        rw [if_pos rfl] at h
        cases e3 : cs.lookup c with
        | none => rw [e3] at h; exact h.elim
        | some mf => rw [e3] at h; exact .inl ⟨c, mf, rfl, rfl, e3, h⟩
      · rw [if_neg hc] at h; exact h.elim
theorem om_own {op : Operator} (tk : Takes X W) (h : ∀ q ∈ cs, OwnOk X T (PySem.dunder op.info.2) 2 q.1 q.2) (hg : OpM X T W (binaryOp op) g) : OpM X T W (binaryOp op) (ownM cs g) := fun pins s σ H x y v u Q ρ st a b I rx ry S ra rb q => by
  rcases own_split q with ⟨c, mf, e1, e2, e3, q⟩ | ⟨_, _, q⟩
  · obtain ⟨a1, dx, ids, xs, vs, rfl, _, h2, _, _, _⟩ := ins_of S ra e1
    obtain ⟨a2, dx', ids', xs', vs', rfl, _, h2', _, _, _⟩ := ins_of S rb e2
    cases rx
    cases ry
    obtain ⟨f, fd, ps, k, hs, hf, F, hr, hb⟩ := (h _ (lookup_mem e3)).ok
    obtain ⟨_, J, _⟩ := ins_get I.hok h2
    obtain ⟨_, J', _⟩ := ins_get I.hok h2'
    obtain ⟨od, J, _⟩ := J.look
    obtain ⟨od', J', _⟩ := J'.look
    obtain ⟨m, hF⟩ := I.fr
    refine PySem.W.binop_K hF I.ok.mod.kin J J'.type (h _ (lookup_mem e3)).sf hs hf ?_
    exact wpAny_mono (own_call (ms := [a, b]) (vs := [.ref a1, .ref a2]) tk F (hr.mono (by omega)) hb I S ⟨_, _, rfl, ra, _, _, rfl, rb, rfl⟩ (.cons rfl (.cons rfl .nil)) rfl q) (fun _ _ z => back_of z) fun _ _ z => z
  · exact hg pins s σ H x y v u Q ρ st a b I rx ry S ra rb q
theorem om_ownEq (tk : Takes X W) (hu : X.A.units < cLine) (h : ∀ q ∈ cs, OwnOk X T "__eq__" 2 q.1 q.2) (hg : OpM X T W (compareOp .Eq) g) : OpM X T W (compareOp .Eq) (ownM cs g) := fun pins s σ H x y v u Q ρ st a b I rx ry S ra rb q => by
  rcases own_split q with ⟨c, mf, e1, e2, e3, q⟩ | ⟨_, _, q⟩
  · obtain ⟨a1, dx, ids, xs, vs, rfl, _, h2, _, _, _⟩ := ins_of S ra e1
    obtain ⟨a2, dx', ids', xs', vs', rfl, _, h2', _, _, _⟩ := ins_of S rb e2
    cases rx
    cases ry
    obtain ⟨f, fd, ps, k, hs, hf, F, hr, hb⟩ := (h _ (lookup_mem e3)).ok
    obtain ⟨_, J, _⟩ := ins_get I.hok h2
    obtain ⟨_, J', _⟩ := ins_get I.hok h2'
    obtain ⟨od, J, _⟩ := J.look
    obtain ⟨od', J', _⟩ := J'.look
    obtain ⟨m, hF⟩ := I.fr
    refine PySem.W.cmp_K (op := .Eq) (tb := .ref (T.cls c)) hu hF I.ok.mod.kin J J'.type (by simp [PySem.W.notFirst]) hs hf ?_
    exact wpAny_mono (own_call (ms := [a, b]) (vs := [.ref a1, .ref a2]) tk F (hr.mono (by omega)) hb I S ⟨_, _, rfl, ra, _, _, rfl, rb, rfl⟩ (.cons rfl (.cons rfl .nil)) rfl q) (fun _ _ z => back_of z) fun _ _ z => z
  · exact hg pins s σ H x y v u Q ρ st a b I rx ry S ra rb q
theorem binM_red {f : Value → Value → Sem Value} (ho : OpM X T W f g) (ha : PE X a (tE T W ma)) (hb : PE X b (tE T W mb)) {pins : List (Addr × Obj)} {s : Shared} {σ : St} {H : Hp} {Q : VK} (I : Inv X pins σ H s) (h : tE T W (mBinM g ma mb) σ H Q) :
    wpAny (model X.prog X.w) X.A (eval a X.env) (fun v s₁ => wpAny (model X.prog X.w) X.A (eval b X.env) (fun u s₂ => wpAny (model X.prog X.w) X.A (f v u) (EP X pins σ Q) X.xe s₂) X.xe s₁) X.xe s := by
  refine binT (R := fun x y H2 => ∃ ρ st a b, Sim T ρ st H2 ∧ RV T ρ H2 a x ∧ RV T ρ H2 b y ∧ OutF T ρ H2 (g a b st) Q (WE W σ)) ha hb I ?_ fun v u s2 x y H2 I2 rx ry ⟨ρ, st, a, b, S, ra, rb, q⟩ => ho pins s2 σ H2 x y v u Q ρ st a b I2 rx ry S ra rb q
  obtain ⟨ρ, st, env, S, E, h⟩ := h
  refine ⟨ρ, st, env, S, E, h.bnd.imp fun x H1 ⟨ρ1, s1, a, F1, r1, q1⟩ => ?_⟩
  exact ⟨ρ1, s1, env, F1.sim, E.later F1.lat, (Out.bnd q1).imp fun y H2 ⟨ρ2, s2, b, F2, r2, q2⟩ => ⟨ρ2, s2, a, b, F2.sim, r1.later F2.lat, r2, outF_of q2⟩⟩
theorem v_binM {op : Operator} (ho : OpM X T W (binaryOp op) g) (ha : PE X a (tE T W ma)) (hb : PE X b (tE T W mb)) : PE X (.BinOp a op b pos) (tE T W (mBinM g ma mb)) :=
  ⟨fun pins s σ H Q I h => wpAny_BinOp (binM_red ho ha hb I h)⟩
theorem v_cmpM {op : CmpOp} (ho : OpM X T W (compareOp op) g) (ha : PE X a (tE T W ma)) (hb : PE X b (tE T W mb)) (hm : behindInMarks op b = false) : PE X (.Compare a [op] [b] pos) (tE T W (mBinM g ma mb)) :=
  ⟨fun pins s σ H Q I h => wpAny_Compare1 (binM_red ho ha hb I h) hm⟩
theorem t_cmpM {op : CmpOp} (ho : OpM X T W (compareOp op) g) (ha : PE X a (tE T W ma)) (hb : PE X b (tE T W mb)) (hm : behindInMarks op b = false) : PT X (.Compare a [op] [b] pos) (tT T W (mCmpM g ma mb)) := by
  refine ⟨fun pins s σ H Q I h => wpAny_isTrue_Compare1 ?_ hm⟩
  have h2 : tE T W (mBinM g ma mb) σ H fun x H1 => ∃ k, x = .bl k ∧ Q k H1 := by
    obtain ⟨ρ, st, env, S, E, h⟩ := h
    refine ⟨ρ, st, env, S, E, (Out.bnd h).imp fun x H1 ⟨ρ1, s1, m, F1, r1, q1⟩ => ?_⟩
    cases m with
    | bl k => cases r1; exact ⟨k, rfl, q1 ρ1 H1 k (Fut.refl F1.sim) rfl⟩
    | _ => exact False.elim q1
  refine wpAny_mono (binM_red ho ha hb I h2) (fun v s1 z => wpAny_mono z (fun u s2 z2 => wpAny_mono z2 (fun c s3 z3 => ?_) fun _ _ e => e) fun _ _ e => e) fun _ _ e => e
  obtain ⟨x, H3, I3, r3, k, e, q3⟩ := z3
  subst e
  cases r3
  exact wpAny_truthy_bool ⟨H3, I3, q3⟩
end

/-! ### str(x): a text, an int, an instance with its own __str__ -/
def strM (cs : List (Nat × MF)) : MF := fun args s => match args with
  | [x] => match clsOf s x with
    | some c => match cs.lookup c with
      | some mf => match mf [x] s with
        | .ok (.str y) t => .ok (.str y) t
        | .ok _ _ => .bad
        | r => r
      | none => .bad
    | none => match x with
      | .int i => if i.natAbs.log2 < 1920 then .ok (.str (toString i)) s else .bad
      | _ => .bad
  | _ => .bad
section
variable {X : Cx} {T : Tx} {W : WX} {as : Ev → M (List MV)} {e : Expr} {es : List Expr} {p pos : Pos} {x : Str} {Ty : String} {n : Nat} {mf : MF} {cs : List (Nat × MF)}
theorem v_calT (h : CalM X T W (.type Ty) n mf) (hv : bootBuiltins x = some (.type Ty)) (hm : X.mg x = none) (ha : PA X (e :: es) (tA T W as)) (hn : Len as n := by repeat first | exact len_nil | apply len_cons) (hg : Gl X x := by rfl) (hnn : x ≠ "__name__" := by decide) (hdb : (x == ("__debug__" : Str)) = false := by decide)
    (he : starEach (e :: es) X.env = (false, eval e X.env) :: starEach es X.env := by rfl) (hpl : (backTo pos (starEach es X.env)).any (·.1) = false := by rfl) : PE X (.Call (.Name x p) (e :: es) [] pos) (tE T W (mCall mf as)) := by
  refine ⟨fun pins s σ H Q I ⟨ρ, st, env, S, E, hh⟩ => ?_⟩
  refine wpAny_Call_Name_kw (ld_blt I hg hm hv ?_ hnn hdb)
  have t2 : tA T W as σ H fun us H1 => ∃ ρ1 s1 ms, Fut T ρ H ρ1 s1 H1 ∧ RVs T ρ1 H1 ms us ∧ ms.length = n ∧ OutF T ρ1 H1 (mf ms s1) Q (WE W σ) := ⟨ρ, st, env, S, E, args_red hn hh⟩
  exact PyProof.Rows.callWith_type1 (thn (ha.run pos pins s σ H _ I t2) fun us s1 ⟨vs, H1, I1, r1, ρ1, st1, ms, F1, rm, hl, q⟩ => h pins s1 σ H1 us vs Q ρ1 st1 ms I1 r1 F1.sim rm hl q) he hpl
theorem cal_str (tk : Takes X W) (hu : X.A.in1.in1.units < cLine) (h : ∀ q ∈ cs, OwnOk X T "__str__" 1 q.1 q.2) : CalM X T W (.type "str") 1 (strM cs) := fun pins s σ H us vs Q ρ st ms I r S rm hl q => by
  match ms, hl with
  | [a], _ =>
    obtain ⟨v, rfl, rv⟩ := rvs1 rm
    cases r with
    | cons r0 r9 =>
      cases r9
      rename_i u
      simp only [strM] at q
      cases e1 : clsOf st a with
      | some c =>
        simp only [e1] at q
        cases e3 : cs.lookup c with
        | none => rw [e3] at q; exact q.elim
        | some mf =>
          simp only [e3] at q
          obtain ⟨a1, dx, ids, xs, vs, rfl, _, h2, _, _, _⟩ := ins_of S rv e1
          cases r0
          obtain ⟨f, fd, ps, k, hs, hf, F, hr, hb⟩ := (h _ (lookup_mem e3)).ok
          obtain ⟨_, J, _⟩ := ins_get I.hok h2
          obtain ⟨od, J, _⟩ := J.look
          refine PySem.W.kso_call hu I.kIn J hs hf ?_
          have q2 : OutF T ρ H (mf [a] st) (fun w H' => (∃ y, w = .str y) ∧ Q w H') (WE W σ) := by
            cases em : mf [a] st with
            | ok w t =>
              rw [em] at q
              cases w with
              | str y => exact fun ρ' H' u F r => ⟨⟨y, r⟩, q ρ' H' u F r⟩
              | _ => exact q.elim
            | ex c fs t => rw [em] at q; exact q
            | bad => rw [em] at q; exact q.elim
          have b := hb s [.ref a1] I.kIn (by have := F.len [.ref a1] H _ _ ⟨ρ, st, [a], S, rm, rfl, q2⟩; simpa using this)
          rw [List.append_nil] at b
          have ev : Env0 X.prog X.w X.K X.mg X.base X.A.in1.in1 X.stack s H := by
            have e := I.env0
            exact ⟨e.frames, e.mod, e.bs, e.bsz, e.funs, e.frf, e.hok, e.bare⟩
          refine wpAny_call (codeAny_mono (F.run X.A.in1.in1 X.stack s H ⟨[.ref a1], []⟩ [.ref a1] [.ref a1] _ (WE W σ) hr.in1.in1 ev b (.cons rfl .nil) ⟨ρ, st, [a], S, rm, rfl, q2⟩) fun r s' hq => ?_)
          cases r with
          | error e => exact passAt tk σ pins H s e s' I hq
          | ok fl =>
            cases fl with
            | ret w =>
              obtain ⟨z, H', I', rz, ⟨y, ey⟩, qz⟩ := I.after hq
              subst ey
              obtain ⟨t, rfl⟩ := id rz
              exact ⟨_, H', I', rz, qz⟩
            | next => exact False.elim hq
            | brk => exact False.elim hq
            | cont => exact False.elim hq
      | none =>
        simp only [e1] at q
        cases a with
        | int i =>
          simp only at q
          by_cases hl : i.natAbs.log2 < 1920
          · rw [if_pos hl] at q
            cases rv
            exact call_str_int pins s σ H _ [u] Q I (.cons r0 .nil) ⟨_, rfl, hl, q ρ H _ (Fut.refl S) rfl⟩
          · rw [if_neg hl] at q; exact q.elim
        | _ => exact q.elim
end
end Z

namespace Z
open PySem L2

/-! ### isinstance -/
inductive TyM where
  | non | bl | int | str | tup | lst | own (c : Nat)
def TyM.nm : TyM → String
  | .non => "NoneType" | .bl => "bool" | .int => "int" | .str => "str" | .tup => "tuple" | .lst => "list" | .own _ => "object"
def tyM (s : Sto) : MV → Option TyM
  | .non => some .non
  | .bl _ => some .bl
  | .int _ => some .int
  | .str _ => some .str
  | .tup _ => some .tup
  | .lst _ => some .lst
  | .frz _ => some .lst
  | .ins c _ => some (.own c)
  | .ref n => match s[n]? with
    | some (.lst _) => some .lst
    | some (.ins c _) => some (.own c)
    | _ => none
  | _ => none
/-- what isinstance asks of the classes -/
structure InsTy (K : PySem.W.Frag) (C : Addr) : Prop where
  ha : PySem.W.findIn K (.ref C) "__class__" = some (some (.builtin "object.__class__"))
  hn : PySem.W.specialIn K (.builtin "object.__class__") "__get__" = some (some (.builtin "getset_descriptor.__get__"))
  ht : PySem.W.takesIn K (.builtin "object.__class__") = some true
  hm : PySem.W.mroIn K C (.type "object") = some true
def tyV (T : Tx) : TyM → Value
  | .own c => .ref (T.cls c)
  | t => .type t.nm
theorem ty_of {T : Tx} {K : PySem.W.Frag} {ρ : List Addr} {st : Sto} {H : Hp} {m : MV} {v : V} {t : TyM} (hK : T.K = K) (hC : ClsAll T) (hI : ∀ c, T.has c = true → InsTy K (T.cls c)) (S : Sim T ρ st H) (r : RV T ρ H m v) (h : tyM st m = some t) : TyX K H v (tyV T t) ∧ ∀ c, t = .own c → T.has c = true := by
  have nb : (∀ c, t ≠ .own c) → ∀ c, t = .own c → T.has c = true := fun e c e2 => absurd e2 (e c)
  have inst : ∀ {c : Nat}, clsOf st m = some c → TyX K H v (.ref (T.cls c)) ∧ T.has c = true := fun {c} e => by
    obtain ⟨a, dx, ids, xs, vs, rfl, h1, h2, _, _, _⟩ := ins_of S r e
    have z := hI c h1
    exact ⟨.base (.ins h2 (hK ▸ (hC c h1).cls) z.ha z.hn z.ht z.hm), h1⟩
  have lst : ∀ {p : Addr} {ys : List V}, SqL T.K H p ys → TyX K H (.ref p) (.type "list") := fun {p ys} q => by
    rcases q with (q | ⟨o, q⟩) | ⟨o, its, n, e1, e2, _⟩
    · exact .base (.lst q)
    · exact .base (.frz q)
    · exact .kList (hK ▸ e1) e2
  cases m with
  | non => cases h; cases r; exact ⟨.base .non, nb (by intro c z; cases z)⟩
  | bl b => cases h; cases r; exact ⟨.base (.bl b), nb (by intro c z; cases z)⟩
  | int b => cases h; cases r; exact ⟨.base (.int b), nb (by intro c z; cases z)⟩
  | str b => cases h; cases r; exact ⟨.base (.str b), nb (by intro c z; cases z)⟩
  | tup xs =>
    cases h
    obtain ⟨a, ys, rfl, z, _⟩ := r
    refine ⟨?_, nb (by intro c z; cases z)⟩
    rcases z with ⟨_, q | ⟨o, q⟩⟩ | ⟨o, its, n, e1, e2, _⟩
    · exact .base (.tup q)
    · exact .fTuple q
    · exact .kTuple (hK ▸ e1) e2
  | lst xs =>
    cases h
    obtain ⟨a, ys, rfl, _, z, _⟩ := r
    exact ⟨.base (.lst z), nb (by intro c z; cases z)⟩
  | frz xs =>
    cases h
    obtain ⟨a, ys, rfl, z, _⟩ := r
    exact ⟨lst z.sq, nb (by intro c z; cases z)⟩
  | ins c xs =>
    cases h
    have z := inst (c := c) rfl
    exact ⟨z.1, fun d e => by cases e; exact z.2⟩
  | ref n =>
    simp only [tyM] at h
    split at h
    · rename_i xs e
      cases h
      obtain ⟨a, ys, rfl, z, _⟩ := list_of (xs := xs) S r (by simp only [listOf, e])
      exact ⟨.base (.lst z), nb (by intro c z; cases z)⟩
    · rename_i c fs e
      cases h
      have z := inst (c := c) (by simp only [clsOf, e])
      exact ⟨z.1, fun d e => by cases e; exact z.2⟩
    · cases h
  | fn k => cases h
  | exc => cases h
/-- the answers: of a built-in class, of an own one -/
def isTup : TyM → Option Bool
  | .tup => some true | .own _ => none | _ => some false
def isLst : TyM → Option Bool
  | .lst => some true | .own _ => none | _ => some false
def isBl : TyM → Option Bool
  | .bl => some true | .own _ => none | _ => some false
def isInt : TyM → Option Bool
  | .int => some true | .bl => some true | .own _ => none | _ => some false
def isStr : TyM → Option Bool
  | .str => some true | .own _ => none | _ => some false
def isOwn (d : Nat) : TyM → Option Bool
  | .own c => some (c == d) | _ => none
theorem is_bi {T : Tx} {K : PySem.W.Frag} {n : String} {f : TyM → Option Bool} (h : ∀ t b, (∀ c, t ≠ .own c) → f t = some b → kitB t.nm n = some b) (h2 : ∀ c, f (.own c) = none) : ∀ t b, (∀ c, t = .own c → T.has c = true) → f t = some b → PySem.W.kitOne K (tyV T t) (.type n) = some b := fun t b _ e => by
  cases t with
  | own c => rw [h2] at e; cases e
  | _ => exact kit_ty (h _ b (by intro c z; cases z) e)
theorem is_tup {T : Tx} {K : PySem.W.Frag} : ∀ t b, (∀ c, t = .own c → T.has c = true) → isTup t = some b → PySem.W.kitOne K (tyV T t) (.type "tuple") = some b := is_bi (fun t b n e => by cases t <;> first | exact absurd rfl (n _) | (cases e; decide +kernel)) fun _ => rfl
theorem is_lst {T : Tx} {K : PySem.W.Frag} : ∀ t b, (∀ c, t = .own c → T.has c = true) → isLst t = some b → PySem.W.kitOne K (tyV T t) (.type "list") = some b := is_bi (fun t b n e => by cases t <;> first | exact absurd rfl (n _) | (cases e; decide +kernel)) fun _ => rfl
theorem is_bl {T : Tx} {K : PySem.W.Frag} : ∀ t b, (∀ c, t = .own c → T.has c = true) → isBl t = some b → PySem.W.kitOne K (tyV T t) (.type "bool") = some b := is_bi (fun t b n e => by cases t <;> first | exact absurd rfl (n _) | (cases e; decide +kernel)) fun _ => rfl
theorem is_int {T : Tx} {K : PySem.W.Frag} : ∀ t b, (∀ c, t = .own c → T.has c = true) → isInt t = some b → PySem.W.kitOne K (tyV T t) (.type "int") = some b := is_bi (fun t b n e => by cases t <;> first | exact absurd rfl (n _) | (cases e; decide +kernel)) fun _ => rfl
theorem is_str {T : Tx} {K : PySem.W.Frag} : ∀ t b, (∀ c, t = .own c → T.has c = true) → isStr t = some b → PySem.W.kitOne K (tyV T t) (.type "str") = some b := is_bi (fun t b n e => by cases t <;> first | exact absurd rfl (n _) | (cases e; decide +kernel)) fun _ => rfl
theorem is_own {T : Tx} {K : PySem.W.Frag} {d : Nat} {u : Value} (h : ∀ c, T.has c = true → PySem.W.kitOne K (.ref (T.cls c)) u = some (c == d)) : ∀ t b, (∀ c, t = .own c → T.has c = true) → isOwn d t = some b → PySem.W.kitOne K (tyV T t) u = some b := fun t b q e => by
  cases t with
  | own c => cases e; exact h c (q c rfl)
  | _ => cases e
def mIsi (f : TyM → Option Bool) (ma : Ev → M MV) : Ev → M MV := fun env => M.bnd (ma env) fun x s => match tyM s x with
  | some t => M.opt ((f t).map .bl) s
  | none => .bad
section
variable {X : Cx} {T : Tx} {W : WX} {ma : Ev → M MV} {a c : Expr} {p pos : Pos} {f : TyM → Option Bool}
theorem v_isi {w : V} {u : Value} (hK : T.K = X.K) (hC : ClsAll T) (hI : ∀ c, T.has c = true → InsTy X.K (T.cls c)) (hf : ∀ t b, (∀ c, t = .own c → T.has c = true) → f t = some b → PySem.W.kitOne X.K (tyV T t) u = some b) (hc : PE X c (tC w)) (hw : ClsV w u) (hm : X.mg "isinstance" = none) (ha : PE X a (tE T W ma)) (hg : Gl X "isinstance" := by rfl)
    (he : starEach (a :: [c]) X.env = (false, eval a X.env) :: starEach [c] X.env := by rfl) (he2 : starEach (c :: []) X.env = (false, eval c X.env) :: starEach [] X.env := by rfl) (hpl : (backTo pos (starEach [c] X.env)).any (·.1) = false := by rfl) :
    PE X (.Call (.Name "isinstance" p) [a, c] [] pos) (tE T W (mIsi f ma)) :=
  pe_mono (pe_callB call_isi hg hm rfl (pa_cons ha (pa_cons hc pa_nil he2) he) (by decide) (by decide) he hpl) fun σ H Q h => by
    obtain ⟨ρ, st, env, S, E, h⟩ := h
    refine ⟨ρ, st, env, S, E, h.bnd.imp fun x H1 ⟨ρ1, s1, m, F1, r1, q1⟩ => ?_⟩
    cases e : tyM s1 m with
    | none => simp only [e] at q1; exact q1.elim
    | some t =>
      simp only [e] at q1
      obtain ⟨z1, z2⟩ := ty_of hK hC hI F1.sim r1 e
      obtain ⟨v, ev, q⟩ := opt_out q1
      cases eb : f t with
      | none => rw [eb] at ev; cases ev
      | some b =>
        rw [eb] at ev; cases ev
        exact ⟨x, w, tyV T t, u, b, rfl, hw, z1, hf t b z2 eb, q ρ1 H1 _ (Fut.refl F1.sim) rfl⟩
end

/-! ### isinstance of the handled exception -/
def subXs (c : Nat) (ks : List Nat) : Bool := ks.any (subX c)
def mExcIs (i : Nat) (fs : List (Nat × MV)) (b : Bool) : Ev → M MV := fun env s => match env.getD i none, fs with
  | some .exc, [] => .ok (.bl b) s
  | _, _ => .bad
theorem excIs_out {i : Nat} {fs : List (Nat × MV)} {b : Bool} {env : Ev} {s : Sto} {T : Tx} {W : WX} {ρ : List Addr} {H : Hp} {σ : St} {Q : VK} (h : Out T W (RV T) ρ H σ (mExcIs i fs b env s) Q) : env[i]? = some (some .exc) ∧ fs = [] ∧ ∀ ρ' H' u, Fut T ρ H ρ' s H' → RV T ρ' H' (.bl b) u → Q u H' := by
  unfold mExcIs at h
  cases e : env.getD i none with
  | none => rw [e] at h; exact h.elim
  | some m =>
    rw [e] at h
    cases m with
    | exc =>
      cases fs with
      | nil =>
        refine ⟨?_, rfl, h⟩
        rw [List.getD_eq_getElem?_getD] at e
        cases q : env[i]? with
        | none => rw [q] at e; cases e
        | some o => rw [q] at e; simp at e; rw [e]
      | cons _ _ => exact h.elim
    | _ => exact h.elim
/-- isinstance(e, (c1, c2, ..)) -/
def rIsET (K : PySem.W.Frag) (D a : Addr) : List V → Hp → VK → Prop := fun xs H Q => ∃ (tp : Addr) (cs : List V) (us : List Value) (b : Bool), xs = [.ref a, .ref tp] ∧ H tp = some (.tup cs) ∧ Paired ClsV cs us ∧ PySem.W.kitAny K (.ref D) us = some b ∧ Q (.bl b) H
theorem call_isET {X : Cx} {a D : Addr} {oe : Obj} {pn : List (Addr × Obj)} (C : ExcC X.K D) (hz : Zc (.ref D) none oe) (hf : ∃ vs, oe.data = .fields vs) : CallR (X.suite a ((a, oe) :: pn)) (.builtin "isinstance") (rIsET X.K D a) := by
  intro pins s σ H xs us Q I r ⟨tp, cs, ws, b, e1, hT, k, e, q⟩
  subst e1
  obtain ⟨u1, u2, rfl, r1, r2⟩ := vals2 r
  cases (show u1 = Value.ref a from r1)
  cases (show u2 = Value.ref tp from r2)
  obtain ⟨hget, _⟩ := I.pin (a, oe) (List.mem_append.mpr (.inl List.mem_cons_self))
  obtain ⟨vs, hv⟩ := hf
  have J : PySem.W.InstAt s.heap a oe D none := by
    rcases oe with ⟨oc, od, oda, osl⟩
    have h1 := hz.1
    have h2 := hz.2
    dsimp only at h1 h2 hv
    subst h1 h2 hv
    exact ⟨hget, rfl, rfl, trivial⟩
  obtain ⟨_, its, rv, o, h1, h2, n, h3⟩ := (show ObjOk X.prog X.w H s.heap tp (.tup cs) from I.hok tp _ hT)
  have e3 := ClsV.all k rv
  subst e3
  rcases o with ⟨oc, od, dt, sl⟩
  simp only at h2 h3
  subst h2 h3
  exact PySem.W.kia_tup (PySem.W.handS_kitx_exc C.hg C.hk C.hs C.hd C.ha C.hn C.ht C.hm) I.kIn J h1 e (fun z => nomatch z) fun tk => ⟨.bl b, H, I.kept (t' := tk) fun _ _ z => z, rfl, q⟩
section
variable {X : Cx} {T : Tx} {a : Addr} {oe : Obj} {pn : List (Addr × Obj)} {cl : Value} {d : Option Addr} {c : Nat} {fs : List (Nat × MV)} {x : Str} {px p pos : Pos} {ce : Expr}
theorem exc_now {ρ : List Addr} {st : Sto} {H : Hp} {σ : St} {env : Ev} {i : Nat} (S : Sim (T.on c fs cl d a) ρ st H) (E : REnv (T.on c fs cl d a) ρ H env σ) (h : env[i]? = some (some .exc)) (hf : fs = []) : cl = .ref (T.cls c) ∧ d = none ∧ T.hasX c = true ∧ σ[i]? = some (some (.ref a)) := by
  obtain ⟨h1, h2, _, h4⟩ := S.exc c fs cl d a rfl
  subst hf
  have hd : d = none := by
    rcases h4 with ⟨_, h4⟩ | ⟨_, _, _, ne, _⟩
    · exact h4
    · exact absurd rfl ne
  obtain ⟨v, q1, q2⟩ := E.get h
  rcases q2 with q2 | ⟨_, c', fs', cl', d', a', e, ev⟩
  · exact q2.elim
  · cases e
    exact ⟨h1, hd, h2, by rw [q1, ev]⟩
theorem v_excIs (i : Nat) {w : V} {cv : Value} {b : Bool} (hC : ∀ c, T.hasX c = true → ExcC X.K (T.cls c)) (hb : T.hasX c = true → PySem.W.kitOne X.K (.ref (T.cls c)) cv = some b) (hz : Zc cl d oe) (hf : ∃ vs, oe.data = .fields vs) (hw : ClsV w cv)
    (hx : PE (X.suite a ((a, oe) :: pn)) (.Name x px) (fun σ H Q => ∃ v, σ[i]? = some (some v) ∧ Q v H)) (hc : PE (X.suite a ((a, oe) :: pn)) ce (tC w)) (hm : X.mg "isinstance" = none) (hg : Gl X "isinstance" := by rfl)
    (he : starEach (.Name x px :: [ce]) X.env = (false, eval (.Name x px) X.env) :: starEach [ce] X.env := by rfl) (he2 : starEach (ce :: []) X.env = (false, eval ce X.env) :: starEach [] X.env := by rfl) (hpl : (backTo pos (starEach [ce] X.env)).any (·.1) = false := by rfl) :
    PE (X.suite a ((a, oe) :: pn)) (.Call (.Name "isinstance" p) [.Name x px, ce] [] pos) (tE (T.on c fs cl d a) WF (mExcIs i fs b)) := by
  refine ⟨fun pins s σ H Q I hh => ?_⟩
  obtain ⟨ρ, st, env, S, E, h⟩ := hh
  obtain ⟨e1, e2, q⟩ := excIs_out h
  obtain ⟨rfl, rfl, hx1, hs⟩ := exc_now S E e1 e2
  exact (pe_callB (X := X.suite a ((a, oe) :: pn)) (call_isE (hC c hx1) hz hf) hg hm rfl (pa_cons hx (pa_cons hc pa_nil he2) he) (by decide) (by decide) he hpl).run pins s σ H Q I
    ⟨_, hs, w, cv, b, rfl, fun u r => hw.eq r, hb hx1, q ρ H _ (Fut.refl S) rfl⟩
theorem v_excIsT (i : Nat) {ws : List V} {cvs : List Value} {es : List Expr} {b : Bool} {k : Nat} {p2 : Pos} (hC : ∀ c, T.hasX c = true → ExcC X.K (T.cls c)) (hb : T.hasX c = true → PySem.W.kitAny X.K (.ref (T.cls c)) cvs = some b) (hz : Zc cl d oe) (hf : ∃ vs, oe.data = .fields vs) (hw : Paired ClsV ws cvs)
    (hx : PE (X.suite a ((a, oe) :: pn)) (.Name x px) (fun σ H Q => ∃ v, σ[i]? = some (some v) ∧ Q v H)) (hc : PA (X.suite a ((a, oe) :: pn)) es (fun _ H Q => Q ws H)) (hl : ws.length ≤ 1000) (hm : X.mg "isinstance" = none) (hg : Gl X "isinstance" := by rfl)
    (he : starEach (.Name x px :: [.Tuple es k p2]) X.env = (false, eval (.Name x px) X.env) :: starEach [.Tuple es k p2] X.env := by rfl) (he2 : starEach (.Tuple es k p2 :: []) X.env = (false, eval (.Tuple es k p2) X.env) :: starEach [] X.env := by rfl) (hpl : (backTo pos (starEach [.Tuple es k p2] X.env)).any (·.1) = false := by rfl) :
    PE (X.suite a ((a, oe) :: pn)) (.Call (.Name "isinstance" p) [.Name x px, .Tuple es k p2] [] pos) (tE (T.on c fs cl d a) WF (mExcIs i fs b)) := by
  refine ⟨fun pins s σ H Q I hh => ?_⟩
  obtain ⟨ρ, st, env, S, E, h⟩ := hh
  obtain ⟨e1, e2, q⟩ := excIs_out h
  obtain ⟨rfl, rfl, hx1, hs⟩ := exc_now S E e1 e2
  refine (pe_callB (X := X.suite a ((a, oe) :: pn)) (call_isET (hC c hx1) hz hf) hg hm rfl (pa_cons hx (pa_cons (pe_tup hc) pa_nil he2) he) (by decide) (by decide) he hpl).run pins s σ H Q I
    ⟨_, hs, Nat.le_trans hl (by decide), fun tp hp => ?_⟩
  exact ⟨tp, ws, cvs, b, rfl, upd_same, hw, hb hx1, q ρ _ _ (S.fresh (o := .tup ws) hp) rfl⟩
end

/-! ### f'..' -/
def mFmt (ma : Ev → M MV) : Ev → M MV := fun env => M.bnd (ma env) fun x => match x with
  | .str y => if y.length ≤ line then M.ret (.str y) else fun _ => .bad
  | .int i => if i.natAbs.log2 < 1920 then M.ret (.str (toString i)) else fun _ => .bad
  | _ => fun _ => .bad
def mJs : List (Ev → M MV) → Str → Ev → M MV
  | [], acc, _ => M.ret (.str acc)
  | m :: ms, acc, env => M.bnd (m env) fun x => match x with
    | .str y => if (acc ++ y).length ≤ line then mJs ms (acc ++ y) env else fun _ => .bad
    | _ => fun _ => .bad
section
variable {X : Cx} {T : Tx} {W : WX} {ma : Ev → M MV} {e : Expr} {pos : Pos}
theorem v_fmt (he : PE X e (tE T W ma)) : PE X (.FormattedValue e (-1) none pos) (tE T W (mFmt ma)) := pe_mono (pe_fmt he) fun σ H Q h => by
  obtain ⟨ρ, st, env, S, E, h⟩ := h
  refine ⟨ρ, st, env, S, E, h.bnd.imp fun x H1 ⟨ρ1, s1, m, F1, r1, q1⟩ => ?_⟩
  cases m with
  | str y =>
    cases r1
    simp only at q1
    split at q1
    · rename_i hl; exact .inl ⟨y, rfl, line_le hl, q1 ρ1 H1 _ (Fut.refl F1.sim) rfl⟩
    · exact q1.elim
  | int i =>
    cases r1
    simp only at q1
    split at q1
    · rename_i hl; exact .inr ⟨i, rfl, hl, q1 ρ1 H1 _ (Fut.refl F1.sim) rfl⟩
    · exact q1.elim
  | _ => exact False.elim q1
theorem js_red {σ : St} {Q : VK} : ∀ {ms : List (Ev → M MV)} {acc : Str} {H : Hp}, tE T W (mJs ms acc) σ H Q → tJs (ms.map fun m => tE T W m) acc σ H fun out H1 => Q (.str out) H1
  | [], acc, H, ⟨ρ, st, env, S, E, h⟩ => h ρ H _ (Fut.refl S) rfl
  | m :: ms, acc, H, ⟨ρ, st, env, S, E, h⟩ => by
    refine ⟨ρ, st, env, S, E, (Out.bnd (f := fun x => _) h).imp fun x H1 ⟨ρ1, s1, m, F1, r1, q1⟩ => ?_⟩
    cases m with
    | str y =>
      cases r1
      simp only at q1
      split at q1
      · rename_i hl; exact ⟨y, rfl, line_le hl, js_red ⟨ρ1, s1, env, F1.sim, E.later F1.lat, q1⟩⟩
      · exact q1.elim
    | _ => exact False.elim q1
theorem v_joined {v1 v2 : Expr} {rest : List Expr} {ms : List (Ev → M MV)} (h : PJ X (v1 :: v2 :: rest) (ms.map fun m => tE T W m)) : PE X (.JoinedStr (v1 :: v2 :: rest) pos) (tE T W (mJs ms Str.empty)) :=
  pe_mono (pe_joined h) fun σ H Q h => js_red h
theorem v_joined1 (h : PE X e (tE T W ma)) : PE X (.JoinedStr [e] pos) (tE T W ma) := pe_joined1 h
/-! i.bit_length() -/
def mBits (ma : Ev → M MV) : Ev → M MV := fun env => M.bnd (ma env) fun x => match x with
  | .int i => M.ret (.int (Builtin.Int.intBits i : Nat))
  | _ => fun _ => .bad
theorem v_bits {apos : Pos} (ho : PE X e (tE T W ma)) (hbase : attributeBase e "bit_length" X.env (eval e X.env) = eval e X.env := by rfl) (hline : (apos.endLine == pos.line) = true := by rfl) : PE X (.Call (.Attribute e "bit_length" apos) [] [] pos) (tE T W (mBits ma)) :=
  pe_mono (pe_bits ho hbase hline) fun σ H Q h => by
    obtain ⟨ρ, st, env, S, E, h⟩ := h
    refine ⟨ρ, st, env, S, E, h.bnd.imp fun x H1 ⟨ρ1, s1, m, F1, r1, q1⟩ => ?_⟩
    cases m with
    | int i => cases r1; exact ⟨i, rfl, q1 ρ1 H1 _ (Fut.refl F1.sim) rfl⟩
    | _ => exact False.elim q1
end
end Z

namespace Z
open PySem L2

/-! ### C(e, .., k = v, ..) -/
/-- what is raised by it is not followed -/
def noEx (r : R MV) : R MV := match r with
  | .ok v s => .ok v s
  | _ => .bad
def mKw (g : List MV → List MV → List MV) (mf : MF) (as bs : Ev → M (List MV)) : Ev → M MV := fun env => M.bnd (as env) fun xs => M.bnd (bs env) fun ys s => noEx (mf (g xs ys) s)
section
variable {X : Cx} {T : Tx} {W : WX} {ma : Ev → M MV} {as bs : Ev → M (List MV)} {k n q c : Nat} {f : Addr} {fd : FuncData} {ps ks : List Str} {init : MF} {x nm : Str} {pp pos kpos : Pos} {e : Expr} {es : List Expr} {kws : List Keyword} {g : List Value → List Value → List Value} {gV gA : List V → List V → List V} {gM : List MV → List MV → List MV}
theorem pk_mono {t t' : TA} (h : PK X kws t) (q : ∀ σ H Q, t' σ H Q → t σ H Q) : PK X kws t' := ⟨fun pos pins s σ H Q I z => h.run pos pins s σ H Q I (q σ H Q z)⟩
theorem k_nil : PK X [] (tA T W mNil) := pk_mono pk_nil fun σ H Q h => by
  obtain ⟨ρ, st, env, S, E, h⟩ := h
  exact h ρ H [] (Fut.refl S) rfl
theorem k_cons (ha : PE X e (tE T W ma)) (hr : PK X kws (tA T W as)) : PK X (⟨nm, e, kpos⟩ :: kws) (tA T W (mCons ma as)) :=
  pk_mono (pk_cons ha hr) fun σ H Q h => by
    obtain ⟨ρ, st, env, S, E, h⟩ := h
    refine ⟨ρ, st, env, S, E, h.bnd.imp fun x H1 ⟨ρ1, s1, a, F1, r1, q1⟩ => ?_⟩
    refine ⟨ρ1, s1, env, F1.sim, E.later F1.lat, (Out.bnd q1).imp fun xs H2 ⟨ρ2, s2, as, F2, r2, q2⟩ => ?_⟩
    exact q2 ρ2 H2 _ (Fut.refl F2.sim) ⟨x, xs, rfl, r1.later F2.lat, r2⟩
theorem noEx_out {ρ : List Addr} {H : Hp} {r : R MV} {Q : VK} {E : XK} (h : OutF T ρ H (noEx r) Q E) : OutF T ρ H r Q (fun _ _ _ => False) := by
  cases r with
  | ok v s => exact h
  | ex c fs s => exact h.elim
  | bad => exact h
/-- arguments one behind the other -/
theorem kw_red {σ : St} {H : Hp} {Q : VK} {mf : MF} (hmf : ∀ (ρ : List Addr) (st : Sto) (H : Hp) (ms : List MV) (Q : VK) (E : XK), Sim T ρ st H → OutF T ρ H (mf ms st) Q E → OutF T ρ H (newC c init ms st) Q E) (hA : Len as n) (hB : Len bs q) (hc : T.has c = true) (hgr : ∀ {ρ : List Addr} {H : Hp} {ms ns : List MV} {vs zs : List V}, ms.length = n → ns.length = q → RVs T ρ H ms vs → RVs T ρ H ns zs → RVs T ρ H (gM ms ns) (gA vs zs)) {p : Nat} (hgl : ∀ ms ns : List MV, ms.length = n → ns.length = q → (gM ms ns).length + 1 = p)
    (h : tE T W (mKw gM mf as bs) σ H Q) :
    tA T W as σ H fun vs H1 => tA T W bs σ H1 fun zs H2 => vs.length = n ∧ zs.length = q ∧ ∀ x dx, H2 x = none → H2 dx = none → dx ≠ x → spM T p init (.ref x :: gA vs zs) (upd (upd H2 dx (.own x)) x (.ins (T.cls c) dx [])) (fun v H3 => v = .non ∧ Q (.ref x) H3) (fun _ _ _ => False) := by
  obtain ⟨ρ, st, env, S, E, h⟩ := h
  refine ⟨ρ, st, env, S, E, ?_⟩
  unfold mKw M.bnd at h
  cases e1 : as env st with
  | ok xs t =>
    simp only [e1] at h
    intro ρ1 H1 vs F1 r1
    refine ⟨ρ1, t, env, F1.sim, E.later F1.lat, ?_⟩
    cases e2 : bs env t with
    | ok ys t2 =>
      simp only [e2] at h
      intro ρ2 H2 zs F2 r2
      have l1 := hA _ _ _ _ e1
      have l2 := hB _ _ _ _ e2
      have r1' := r1.later F2.lat
      have h2 : OutF T ρ H (noEx (mf (gM xs ys) t2)) Q (WE W σ) := outF_of h
      have h3 : OutF T ρ2 H2 (newC c init (gM xs ys) t2) Q (fun _ _ _ => False) := by
        refine hmf ρ2 t2 H2 _ _ _ F2.sim ?_
        have z := noEx_out h2
        revert z
        generalize mf (gM xs ys) t2 = r
        intro z
        cases r with
        | ok v s => exact fun ρ' H' u F r => z ρ' H' u ((F1.trans F2).trans F) r
        | ex c fs s => exact fun ρ' H' cl d F r => z ρ' H' cl d ((F1.trans F2).trans F) r
        | bad => exact z
      refine ⟨by rw [← r1.length]; exact l1, by rw [← r2.length]; exact l2, ?_⟩
      exact new_red hc F2.sim (hgr l1 l2 r1' r2) h3 (hgl xs ys l1 l2)
    | ex c fs t2 => simp only [e2] at h; exact fun ρ' H' cl d F r => h ρ' H' cl d (F1.trans F) r
    | bad => simp only [e2] at h; exact h.elim
  | ex c fs t => simp only [e1] at h; exact h
  | bad => simp only [e1] at h; exact h.elim
theorem new_same (ρ : List Addr) (st : Sto) (H : Hp) (ms : List MV) (Q : VK) (E : XK) (_ : Sim T ρ st H) (h : OutF T ρ H (newC c init ms st) Q E) : OutF T ρ H (newC c init ms st) Q E := h
theorem new_pure (ρ : List Addr) (st : Sto) (H : Hp) (ms : List MV) (Q : VK) (E : XK) (S : Sim T ρ st H) (h : OutF T ρ H (mPure (newC c init) ms st) Q E) : OutF T ρ H (newC c init ms st) Q E := pure_out S h
theorem passes_no (tk : Takes X W) : Passes (L2.CX X.prog X.w) X (fun _ _ _ => False) := passes_call tk fun _ _ _ _ z => z.elim
theorem v_makeK {mf : MF} (hmf : ∀ (ρ : List Addr) (st : Sto) (H : Hp) (ms : List MV) (Q : VK) (E : XK), Sim T ρ st H → OutF T ρ H (mf ms st) Q E → OutF T ρ H (newC c init ms st) Q E) (tk : Takes X W) (hc : T.has c = true) (M : Mk X.K (T.cls c) f) {p : Nat} (F : FnOk X.prog X.w X.K X.mg X.base (L2.CX X.prog X.w) k f fd ps (spM T p init)) (hr : Room (k + 1) X.A) (hm : X.mg x = some (.ref (T.cls c))) (hb : KBn X.K fd ps (n + 1) ks g gV)
    (hgV : ∀ (x : V) vs zs, vs.length = n → zs.length = ks.length → gV (x :: vs) zs = x :: gA vs zs) (hgr : ∀ {ρ : List Addr} {H : Hp} {ms ns : List MV} {vs zs : List V}, ms.length = n → ns.length = ks.length → RVs T ρ H ms vs → RVs T ρ H ns zs → RVs T ρ H (gM ms ns) (gA vs zs))
    (hgl : ∀ ms ns : List MV, ms.length = n → ns.length = ks.length → (gM ms ns).length + 1 = p)
    (ha : PA X (e :: es) (tA T W as)) (hkw : PK X kws (tA T W bs)) (hA : Len as n := by repeat first | exact len_nil | apply len_cons) (hB : Len bs ks.length := by repeat first | exact len_nil | apply len_cons) (hg : Gl X x := by rfl) (hall : (backToKw pos (keywordEach kws X.env)).all (·.1.isSome) = true := by rfl) (hks : (backToKw pos (keywordEach kws X.env)).filterMap (·.1) = ks := by rfl)
    (hdb : (x == ("__debug__" : Str)) = false := by decide) (he : starEach (e :: es) X.env = (false, eval e X.env) :: starEach es X.env := by rfl)
    (hpl : ((backTo pos (starEach (e :: es) X.env)).any (·.1) || (backToKw pos (keywordEach kws X.env)).any (·.1.isNone)) = false := by rfl) :
    PE X (.Call (.Name x pp) (e :: es) kws pos) (tE T W (mKw gM mf as bs)) :=
  pe_mono (pe_makeN M F hr hg hm hb (passes_no tk) ha hkw hall hks hdb he hpl) fun σ H Q h => by
    have z := kw_red hmf hA hB hc hgr hgl h
    obtain ⟨ρ, st, env, S, E, z⟩ := z
    refine ⟨ρ, st, env, S, E, z.imp fun vs H1 ⟨ρ1, st1, env1, S1, E1, z1⟩ => ⟨ρ1, st1, env1, S1, E1, z1.imp fun zs H2 ⟨l1, l2, z2⟩ => ⟨l1, l2, fun x dx h1 h2 h3 => ?_⟩⟩⟩
    rw [hgV _ _ _ l1 l2]
    exact z2 x dx h1 h2 h3
theorem v_makeK0 {mf : MF} (hmf : ∀ (ρ : List Addr) (st : Sto) (H : Hp) (ms : List MV) (Q : VK) (E : XK), Sim T ρ st H → OutF T ρ H (mf ms st) Q E → OutF T ρ H (newC c init ms st) Q E) (tk : Takes X W) (hc : T.has c = true) (M : Mk X.K (T.cls c) f) {p : Nat} (F : FnOk X.prog X.w X.K X.mg X.base (L2.CX X.prog X.w) k f fd ps (spM T p init)) (hr : Room (k + 1) X.A) (hm : X.mg x = some (.ref (T.cls c))) (hb : KBn X.K fd ps 1 ks g gV)
    (hgV : ∀ (x : V) zs, zs.length = ks.length → gV [x] zs = x :: gA [] zs) (hgr : ∀ {ρ : List Addr} {H : Hp} {ms ns : List MV} {vs zs : List V}, ms.length = 0 → ns.length = ks.length → RVs T ρ H ms vs → RVs T ρ H ns zs → RVs T ρ H (gM ms ns) (gA vs zs))
    (hgl : ∀ ms ns : List MV, ms.length = 0 → ns.length = ks.length → (gM ms ns).length + 1 = p)
    (hkw : PK X kws (tA T W bs)) (hB : Len bs ks.length := by repeat first | exact len_nil | apply len_cons) (hg : Gl X x := by rfl) (hall : (backToKw pos (keywordEach kws X.env)).all (·.1.isSome) = true := by rfl) (hks : (backToKw pos (keywordEach kws X.env)).filterMap (·.1) = ks := by rfl)
    (hdb : (x == ("__debug__" : Str)) = false := by decide)
    (hpl : ((backTo pos (starEach [] X.env)).any (·.1) || (backToKw pos (keywordEach kws X.env)).any (·.1.isNone)) = false := by rfl) :
    PE X (.Call (.Name x pp) [] kws pos) (tE T W (mKw gM mf mNil bs)) :=
  pe_mono (pe_makeK0 M F hr hg hm hb (passes_no tk) hkw hall hks hdb hpl) fun σ H Q h => by
    have z := kw_red (as := mNil) hmf len_nil hB hc hgr hgl h
    obtain ⟨ρ, st, env, S, E, z⟩ := z
    have z0 := z ρ H [] (Fut.refl S) rfl
    obtain ⟨ρ1, st1, env1, S1, E1, z1⟩ := z0
    refine ⟨ρ1, st1, env1, S1, E1, z1.imp fun zs H2 ⟨l1, l2, z2⟩ => ⟨rfl, l2, fun x dx h1 h2 h3 => ?_⟩⟩
    rw [hgV _ _ l2]
    exact z2 x dx h1 h2 h3
end
end Z
namespace Z
open PySem L2
theorem vals_rev : ∀ {vs : List V} {us : List Value}, Vals vs us → Vals vs.reverse us.reverse
  | [], [], _ => .nil
  | v :: vs, u :: us, h => by
    cases h with
    | cons r t =>
      rw [List.reverse_cons, List.reverse_cons]
      exact (vals_rev t).append (.cons r .nil)
theorem rvs_rev {T : Tx} {ρ : List Addr} {H : Hp} : ∀ {ms : List MV} {vs : List V}, RVs T ρ H ms vs → RVs T ρ H ms.reverse vs.reverse
  | [], vs, h => by cases h; rfl
  | m :: ms, vs, h => by
    obtain ⟨y, ys, rfl, h1, h2⟩ := h
    rw [List.reverse_cons, List.reverse_cons]
    exact (rvs_rev h2).append (RVs.one h1)
end Z

namespace Z
open PySem L2

/-! ### the head: facts as tests of the written part, defs by names -/
abbrev Fc := PySem.W.Frag → Bool
def obsZ (fs : List Fc) (fn : List He.DefD) (K : PySem.W.Frag) : He.AlD := ((fs.all (· K)) && (fn.all (·.ok K)), fn.map (He.fnW K ·.at_))
def SaysZ (fs : List Fc) (fn : List He.DefD) (K : PySem.W.Frag) : Prop := obsZ fs fn K = (true, fn.map (He.DefD.val))
def obsZG (n : Nat) (fs : List Fc) (fn : List He.DefD) (g : Addr → Option Obj) : He.AlD := obsZ fs fn (He.frG g (He.asD g n))
def hookZ (n : Nat) (fs : List Fc) (fn : List He.DefD) : PySem.W.Hook where
  α := He.AlD
  obs s := obsZG n fs fn s.heap.get?
  val _ := (true, fn.map (He.DefD.val))
  says _ h := ∃ K : PySem.W.Frag, K.In h ∧ SaysZ fs fn K
  of _ s e := ⟨He.frG s.heap.get? (He.asD s.heap.get? n), He.frG_in, e⟩
  keeps _ _ _ q k := q.elim fun K z => ⟨K, PySem.W.Frag.In.keeps z.1 k, z.2⟩
theorem obsZG_eq {n : Nat} {fs : List Fc} {fn : List He.DefD} {g : Addr → Option Obj} {s : Shared} (h : ∀ a, g a = s.heap.get? a) : (obsZG n fs fn g : (hookZ n fs fn).α) = (hookZ n fs fn).obs s := by
  rw [show g = s.heap.get? from funext h]
  rfl
section
variable {fs : List Fc} {fn : List He.DefD} {K : PySem.W.Frag}
theorem SaysZ.two (c : SaysZ fs fn K) : fs.all (· K) = true ∧ fn.all (·.ok K) = true := by
  have := congrArg (fun z : He.AlD => z.1) c
  exact Bool.and_eq_true_iff.mp this
theorem SaysZ.fc (c : SaysZ fs fn K) (i : Nat) {f : Fc} (h : fs[i]? = some f := by rfl) : f K = true :=
  List.all_eq_true.mp c.two.1 f (List.mem_of_getElem? h)
/-- the function object at a place -/
def fdOf (K : PySem.W.Frag) (p : Str × Option Str) : FuncData := match K.lookup (He.fAd K p) with
  | some ⟨_, _, .func fd, _⟩ => fd
  | _ => PySem.W.fnOf "" "" (defArgs (.Pass ⟨0, 0, 0, 0⟩)) [] (defScope (.Pass ⟨0, 0, 0, 0⟩)) .none .none .none .none none .none .none
theorem SaysZ.fd (c : SaysZ fs fn K) (i : Nat) {d : He.DefD} (h : fn[i]? = some d := by rfl) : FunD K d.name d.qual d.params d.body d.scope (d.dvs K) (d.kws K) (He.fAd K d.at_) (fdOf K d.at_) := by
  have ok : d.ok K = true := List.all_eq_true.mp c.two.2 d (List.mem_of_getElem? h)
  have e := congrArg (fun z : He.AlD => z.2[i]?) c
  have e2 : (fn.map (He.fnW K ·.at_))[i]? = (fn.map (He.DefD.val))[i]? := e
  rw [List.getElem?_map, List.getElem?_map, h] at e2
  obtain ⟨fd, F⟩ := He.DefD.funD (Option.some.inj e2) ok
  have F2 := F.ex
  obtain ⟨oc, od, dV, kV, doc, pm, an, cdv, ct, osl, _, lk, _⟩ := F2
  have : fdOf K d.at_ = fd := by unfold fdOf; rw [lk]
  rw [this]
  exact F
end
/-- .. with what the module's names stand for -/
structure TxtZ (fs : List Fc) (fn : List He.DefD) (K : PySem.W.Frag) (mg : Str → Option Value) : Prop where
  c : SaysZ fs fn K
  g : ∀ x v, PySem.W.nsIn K mainGlobals x = some (some v) → mg x = some v
  n : ∀ x, PySem.W.nsIn K mainGlobals x = some none → mg x = none
theorem txt_of {fs : List Fc} {fn : List He.DefD} {K : PySem.W.Frag} {mg : Str → Option Value} {h : Heap} (X : K.In h) (G : h.Ns mainGlobals mg) (c : SaysZ fs fn K) : TxtZ fs fn K mg :=
  ⟨c, fun _ _ e => PySem.W.mg_of X G e, fun _ e => PySem.W.mg_none_of X G e⟩
/-! the tests -/
def isV (a : Option (Option Value)) (v : Value) : Bool := decide (a = some (some v))
def isA (a : Option (Option Value)) : Bool := decide (a = some none)
def cGlo (x : Str) : Fc := fun K => isV (PySem.W.nsIn K mainGlobals x) (.ref (He.ga K x))
def cBlt (x : Str) (id : String) : Fc := fun K => isV (PySem.W.nsIn K mainGlobals x) (.builtin id)
def cFree (x : Str) : Fc := fun K => isA (PySem.W.nsIn K mainGlobals x)
def cKeep (x : Str) : Fc := fun K => PySem.W.keepIn K (.ref (He.ga K x))
def cNo (x f : Str) : Fc := fun K => isA (PySem.W.findIn K (.ref (He.ga K x)) f)
/-- a class whose instances are laid plainly -/
def cCls (x : Str) : Fc := fun K => PySem.W.plainGet K (He.ga K x) Str.empty && PySem.W.hasDictIn K (He.ga K x) && PySem.W.plainOver K (He.ga K x) && isV (PySem.W.findIn K (.ref (He.ga K x)) "__setattr__") (.builtin "object.__setattr__")
def cMet (x m : Str) : Fc := fun K => isV (PySem.W.findIn K (.ref (He.ga K x)) m) (.ref (He.fAd K (x, some m))) && PySem.W.isFn K (.ref (He.fAd K (x, some m)))
def cMk (x : Str) : Fc := fun K => PySem.W.makesIn K (He.ga K x)
def cSelf (x : Str) : Fc := fun K => PySem.W.selfFirst K (He.ga K x)
def cIns (x : Str) : Fc := fun K => isV (PySem.W.findIn K (.ref (He.ga K x)) "__class__") (.builtin "object.__class__") && decide (PySem.W.specialIn K (.builtin "object.__class__") "__get__" = some (some (.builtin "getset_descriptor.__get__"))) && decide (PySem.W.takesIn K (.builtin "object.__class__") = some true) && decide (PySem.W.mroIn K (He.ga K x) (.type "object") = some true)
def cExc (x : Str) : Fc := fun K => PySem.W.excIn K (He.ga K x) [.type "ValueError", .type "Exception", .type "BaseException", .type "object"] "ValueError.__new__" && decide (PySem.W.subIn K (.ref (He.ga K x)) (.type "BaseException") = some true) && decide (PySem.W.typeIn K (.ref (He.ga K x)) = some (.type "type"))
def cExm (x y : Str) (b : Bool) : Fc := fun K => decide (PySem.W.exmOne K (.ref (He.ga K x)) (.ref (He.ga K y)) = some b)
def cExi (x : Str) : Fc := fun K => isV (PySem.W.findIn K (.ref (He.ga K x)) "__getattribute__") (.builtin "BaseException.__getattribute__") && isA (PySem.W.findIn K (.ref (He.ga K x)) "__getattr__") && decide (PySem.W.subIn K (.ref (He.ga K x)) (.type "BaseException") = some true) && PySem.W.hasDictIn K (He.ga K x) &&
  isV (PySem.W.findIn K (.ref (He.ga K x)) "__class__") (.builtin "object.__class__") && decide (PySem.W.specialIn K (.builtin "object.__class__") "__get__" = some (some (.builtin "getset_descriptor.__get__"))) && decide (PySem.W.takesIn K (.builtin "object.__class__") = some true) && decide (PySem.W.mroIn K (He.ga K x) (.type "object") = some true)
def cKit (x : Str) (y : PySem.W.Frag → Value) (b : Bool) : Fc := fun K => decide (PySem.W.kitOne K (.ref (He.ga K x)) (y K) = some b)
def cKitA (x : Str) (ys : PySem.W.Frag → List Value) (b : Bool) : Fc := fun K => decide (PySem.W.kitAny K (.ref (He.ga K x)) (ys K) = some b)
section
variable {fs : List Fc} {fn : List He.DefD} {K : PySem.W.Frag} {mg : Str → Option Value} {x m f : Str}
theorem isV_ok {a : Option (Option Value)} {v : Value} (h : isV a v = true) : a = some (some v) := of_decide_eq_true h
theorem isA_ok {a : Option (Option Value)} (h : isA a = true) : a = some none := of_decide_eq_true h
theorem and2 {a b : Bool} (h : (a && b) = true) : a = true ∧ b = true := Bool.and_eq_true_iff.mp h
theorem TxtZ.glo (T : TxtZ fs fn K mg) (i : Nat) (h : fs[i]? = some (cGlo x) := by rfl) : mg x = some (.ref (He.ga K x)) := T.g _ _ (isV_ok (T.c.fc i h))
theorem TxtZ.blt {id : String} (T : TxtZ fs fn K mg) (i : Nat) (h : fs[i]? = some (cBlt x id) := by rfl) : mg x = some (.builtin id) := T.g _ _ (isV_ok (T.c.fc i h))
theorem TxtZ.free (T : TxtZ fs fn K mg) (i : Nat) (h : fs[i]? = some (cFree x) := by rfl) : mg x = none := T.n _ (isA_ok (T.c.fc i h))
theorem TxtZ.keep (T : TxtZ fs fn K mg) (i : Nat) (h : fs[i]? = some (cKeep x) := by rfl) : PySem.W.keepIn K (.ref (He.ga K x)) = true := T.c.fc i h
theorem TxtZ.no (T : TxtZ fs fn K mg) (i : Nat) (h : fs[i]? = some (cNo x f) := by rfl) : NoAttr K (He.ga K x) f := isA_ok (T.c.fc i h)
theorem TxtZ.cls (T : TxtZ fs fn K mg) (i : Nat) (h : fs[i]? = some (cCls x) := by rfl) : Cls K (He.ga K x) := by
  obtain ⟨z, h4⟩ := and2 (T.c.fc i h)
  obtain ⟨z, h3⟩ := and2 z
  obtain ⟨h1, h2⟩ := and2 z
  exact ⟨h1, h2, h3, isV_ok h4⟩
theorem TxtZ.met (T : TxtZ fs fn K mg) (i : Nat) (h : fs[i]? = some (cMet x m) := by rfl) : PySem.W.findIn K (.ref (He.ga K x)) m = some (some (.ref (He.fAd K (x, some m)))) ∧ PySem.W.isFn K (.ref (He.fAd K (x, some m))) = true := by
  obtain ⟨h1, h2⟩ := and2 (T.c.fc i h)
  exact ⟨isV_ok h1, h2⟩
theorem TxtZ.make (T : TxtZ fs fn K mg) (i j k : Nat) (h : fs[i]? = some (cMk x) := by rfl) (h2 : fs[j]? = some (cMet x "__init__") := by rfl) (h3 : fs[k]? = some (cKeep x) := by rfl) : Mk K (He.ga K x) (He.fAd K (x, some "__init__")) :=
  ⟨T.c.fc i h, (T.met j h2).1, (T.met j h2).2, T.keep k h3⟩
theorem TxtZ.self (T : TxtZ fs fn K mg) (i : Nat) (h : fs[i]? = some (cSelf x) := by rfl) : PySem.W.selfFirst K (He.ga K x) = true := T.c.fc i h
theorem TxtZ.exc (T : TxtZ fs fn K mg) (i : Nat) (h : fs[i]? = some (cExc x) := by rfl) : PySem.W.excIn K (He.ga K x) [.type "ValueError", .type "Exception", .type "BaseException", .type "object"] "ValueError.__new__" = true ∧ PySem.W.subIn K (.ref (He.ga K x)) (.type "BaseException") = some true ∧ PySem.W.typeIn K (.ref (He.ga K x)) = some (.type "type") := by
  obtain ⟨z, h3⟩ := and2 (T.c.fc i h)
  obtain ⟨h1, h2⟩ := and2 z
  exact ⟨h1, of_decide_eq_true h2, of_decide_eq_true h3⟩
theorem TxtZ.exm {y : Str} {b : Bool} (T : TxtZ fs fn K mg) (i : Nat) (h : fs[i]? = some (cExm x y b) := by rfl) : PySem.W.exmOne K (.ref (He.ga K x)) (.ref (He.ga K y)) = some b := of_decide_eq_true (T.c.fc i h)
theorem TxtZ.exi (T : TxtZ fs fn K mg) (i : Nat) (h : fs[i]? = some (cExi x) := by rfl) : ExcC K (He.ga K x) := by
  obtain ⟨z, h8⟩ := and2 (T.c.fc i h)
  obtain ⟨z, h7⟩ := and2 z
  obtain ⟨z, h6⟩ := and2 z
  obtain ⟨z, h5⟩ := and2 z
  obtain ⟨z, h4⟩ := and2 z
  obtain ⟨z, h3⟩ := and2 z
  obtain ⟨h1, h2⟩ := and2 z
  exact ⟨isV_ok h1, isA_ok h2, of_decide_eq_true h3, h4, isV_ok h5, of_decide_eq_true h6, of_decide_eq_true h7, of_decide_eq_true h8⟩
theorem TxtZ.ins (T : TxtZ fs fn K mg) (i : Nat) (h : fs[i]? = some (cIns x) := by rfl) : InsTy K (He.ga K x) := by
  obtain ⟨z, h4⟩ := and2 (T.c.fc i h)
  obtain ⟨z, h3⟩ := and2 z
  obtain ⟨h1, h2⟩ := and2 z
  exact ⟨isV_ok h1, of_decide_eq_true h2, of_decide_eq_true h3, of_decide_eq_true h4⟩
theorem TxtZ.kit {y : PySem.W.Frag → Value} {b : Bool} (T : TxtZ fs fn K mg) (i : Nat) (h : fs[i]? = some (cKit x y b) := by rfl) : PySem.W.kitOne K (.ref (He.ga K x)) (y K) = some b := of_decide_eq_true (T.c.fc i h)
theorem TxtZ.kitA {ys : PySem.W.Frag → List Value} {b : Bool} (T : TxtZ fs fn K mg) (i : Nat) (h : fs[i]? = some (cKitA x ys b) := by rfl) : PySem.W.kitAny K (.ref (He.ga K x)) (ys K) = some b := of_decide_eq_true (T.c.fc i h)
theorem Df.of {qual nm : Str} {st : Stmt} {f : Addr} {fd : FuncData} {dvs : List V} {kws : List (Str × V)} (F : FunD K nm qual (defArgs st) (defBody st) (defScope st) dvs kws f fd) : Df K qual st f fd := by
  obtain ⟨oc, od, dV, kV, doc, pm, an, cdv, ct, osl, e, lk, hc, _, _⟩ := F.ex
  exact ⟨⟨nm, oc, od, dV, kV, doc, pm, an, cdv, ct, osl, e, lk, hc⟩, F.kp⟩
end
/-- a promise that nothing keeps -/
theorem fn_bad {P : Program} {w : World} {K : PySem.W.Frag} {mg : Str → Option Value} {base : Heap} {T : Tx} {k p : Nat} {f : Addr} {fd : FuncData} {ps : List Str} : FnOk P w K mg base (L2.CX P w) k f fd ps (spM T p fun _ _ => .bad) :=
  ⟨fun _ _ _ _ ⟨_, _, _, _, _, _, h⟩ => h.elim, fun _ _ _ _ _ _ _ _ _ _ _ _ _ ⟨_, _, _, _, _, _, h⟩ => h.elim⟩
theorem hu64 {A : Around} {k : Nat} (hr : Room k A) : A.units + 64 < cLine := hr.units
theorem hu65 {A : Around} {k : Nat} (hr : Room k A) : A.units + 65 < cLine := by have := hr.un; omega
theorem hu2 {A : Around} {k : Nat} (hr : Room k A) : A.in1.in1.units < cLine := by have := hr.un; show A.units + 1 + 1 < cLine; omega
theorem hu0 {A : Around} {k : Nat} (hr : Room k A) : A.units < cLine := by have := hr.un; omega
theorem one_all {α β : Type} {P : α → β → Prop} {c : α} {m : β} (h : P c m) : ∀ q ∈ [(c, m)], P q.1 q.2 := fun q hq => by
  rw [List.mem_singleton.mp hq]; exact h
end Z
namespace Z
open PySem L2
/-- a law's end: exceptions may leave its defs, none leaves the law -/
theorem walk_ofW {l : PySem.W.OpenLaw} {n k : Nat} {q : Program} {loose : List Str} {XP : (Str → Option Value) → Heap → Prop} {YP : World → Heap → Prop} {d : PySem.DefRec} {CX : World → CXT} {x : Str} (hn : l.most = some n) (hn2 : n ≤ sizeLine) (hdf : d.params.defaults = []) (hr : Room k PySem.callerA)
    (F : ∀ (w : World) (mg : Str → Option Value) (fa : Addr) (h : Heap), YP w h → h.Ns mainGlobals mg → mg d.name = some (.ref fa) → ∃ (K : PySem.W.Frag) (fd : FuncData) (sp : Sp), K.In h ∧ (∀ (s : Shared) (u : Value), BindsTo s fd ⟨[u], []⟩ [(x, u)]) ∧
      (∀ (H : Hp) (a : Addr) (ns : List Int), ns.length ≤ n → Only H → SqL K H a (ns.map V.int) → sp [.ref a] H (fun v _ => v = .bl true) fun _ _ _ => False) ∧ ∀ base : Heap, K.In base → base.Ns mainGlobals mg → FnOk l.prog w K mg base (CX w) k fa fd [x] sp)
    (hCX : ∀ (w : World) (H : Hp) (s : Shared) (e : Value) (s' : Shared), CX w [] H s (fun _ _ _ => False) e s' → False) : PySem.W.WalkO q loose XP YP l.row.toRowW d [] (fun f vs => PySem.call f vs) := by
  refine Att.attach_call hn hdf fun w s0 s1 mg mb fa o pm cd doc a vs ns G Y ho hd hcd hmg hobj hints hlen hg => ?_
  have ⟨K, fd, sp, KX, hb, hsp, hF⟩ := F w mg fa _ Y G.T.g hmg
  refine law_call (CX := CX w) KX G.T.g G.T.b G.T.builtins G.T.nolimit hg hobj hints (Nat.le_trans hlen hn2) hr hF hb ?_ ?_
  · exact fun H hO hS => hsp H a ns hlen hO hS
  · exact fun H e s' => hCX w H s1 e s'
/-- the script, as a locked list -/
theorem law_sp {T : Tx} {K : PySem.W.Frag} {H : Hp} {a : Addr} {ns : List Int} {mf : MF} (hK : T.K = K) (hT : T.exc = none) (hS : SqL K H a (ns.map V.int)) (h : ∃ s, mf [.frz (ns.map .int)] [] = .ok (.bl true) s) : spM T 1 mf [.ref a] H (fun v _ => v = .bl true) fun _ _ _ => False := by
  obtain ⟨s, h⟩ := h
  have go : ∀ l : List Int, RVs T [] H (l.map .int) (l.map V.int) := fun l => by
    induction l with
    | nil => rfl
    | cons i l ih => exact ⟨_, _, rfl, rfl, ih⟩
  refine ⟨[], [], [.frz (ns.map .int)], ⟨rfl, .nil, fun c fs cl d a e => ?_, fun i a c e => ?_⟩, ⟨_, [], rfl, ⟨a, _, rfl, ?_, go ns⟩, rfl⟩, rfl, ?_⟩
  · rw [hT] at e; cases e
  · cases e
  · subst hK
    exact hS.imp (fun z => ⟨by simp, z⟩) id
  · rw [h]
    exact fun ρ' H' u F r => r
theorem cx_no {P : Program} (w : World) (H : Hp) (s : Shared) (e : Value) (s' : Shared) (h : L2.CX P w [] H s (fun _ _ _ => False) e s') : False := by
  obtain ⟨_, _, _, _, _, _, _, _, _, _, _, _, z⟩ := h
  exact z
end Z

namespace Z
open PySem L2
/-! ### running a plain reading -/
section
variable {α β : Type} {env : Ev} {s : Sto}
@[simp] theorem ret_run (a : α) : M.ret a s = .ok a s := rfl
@[simp] theorem opt_some (a : α) : M.opt (some a) s = .ok a s := rfl
@[simp] theorem opt_none : M.opt (none : Option α) s = .bad := rfl
@[simp ↓] theorem bnd_run (m : M α) (f : α → M β) : M.bnd m f s = (match m s with | .ok a t => f a t | .ex c fs t => .ex c fs t | .bad => .bad) := rfl
@[simp ↓] theorem mVar_run (i : Nat) : mVar i env s = (match env.getD i none with | some .exc => .bad | some v => .ok v s | none => .bad) := rfl
@[simp ↓] theorem mC_run (v : MV) : mC v env s = .ok v s := rfl
@[simp ↓] theorem mBin_run (f : Sto → MV → MV → Option MV) (ma mb : Ev → M MV) : mBin f ma mb env s = (match ma env s with | .ok x t => (match mb env t with | .ok y u => M.opt (f u x y) u | .ex c fs t => .ex c fs t | .bad => .bad) | .ex c fs t => .ex c fs t | .bad => .bad) := by
  unfold mBin M.bnd
  cases ma env s with
  | ex c fs z => rfl
  | bad => rfl
  | ok x0 t0 =>
    simp only []
    cases mb env t0 with
    | ex c fs z => rfl
    | bad => rfl
    | ok x1 t1 =>
      rfl
@[simp ↓] theorem mUn_run (f : Sto → MV → Option MV) (ma : Ev → M MV) : mUn f ma env s = (match ma env s with | .ok x t => M.opt (f t x) t | .ex c fs t => .ex c fs t | .bad => .bad) := by
  unfold mUn M.bnd
  cases ma env s with
  | ex c fs z => rfl
  | bad => rfl
  | ok x0 t0 =>
    rfl
@[simp ↓] theorem mCmp_run (f : Sto → MV → MV → Option Bool) (ma mb : Ev → M MV) : mCmp f ma mb env s = (match ma env s with | .ok x t => (match mb env t with | .ok y u => M.opt (f u x y) u | .ex c fs t => .ex c fs t | .bad => .bad) | .ex c fs t => .ex c fs t | .bad => .bad) := by
  unfold mCmp M.bnd
  cases ma env s with
  | ex c fs z => rfl
  | bad => rfl
  | ok x0 t0 =>
    simp only []
    cases mb env t0 with
    | ex c fs z => rfl
    | bad => rfl
    | ok x1 t1 =>
      rfl
@[simp ↓] theorem mV_run (m : Ev → M Bool) : mV m env s = (match m env s with | .ok b t => .ok (.bl b) t | .ex c fs t => .ex c fs t | .bad => .bad) := by
  unfold mV M.bnd
  cases m env s with
  | ex c fs z => rfl
  | bad => rfl
  | ok x0 t0 =>
    rfl
@[simp ↓] theorem mAnd_run (m m' : Ev → M Bool) : mAnd m m' env s = (match m env s with | .ok k t => (if k = true then m' env t else .ok false t) | .ex c fs t => .ex c fs t | .bad => .bad) := by
  show M.bnd _ _ _ = _
  unfold M.bnd
  cases m env s with
  | ok k t => cases k <;> rfl
  | ex c fs t => rfl
  | bad => rfl
@[simp ↓] theorem mOr_run (m m' : Ev → M Bool) : mOr m m' env s = (match m env s with | .ok k t => (if k = true then .ok true t else m' env t) | .ex c fs t => .ex c fs t | .bad => .bad) := by
  show M.bnd _ _ _ = _
  unfold M.bnd
  cases m env s with
  | ok k t => cases k <;> rfl
  | ex c fs t => rfl
  | bad => rfl
@[simp ↓] theorem mNot_run (m : Ev → M Bool) : mNot m env s = (match m env s with | .ok k t => .ok (!k) t | .ex c fs t => .ex c fs t | .bad => .bad) := by
  unfold mNot M.bnd
  cases m env s with
  | ex c fs z => rfl
  | bad => rfl
  | ok x0 t0 =>
    rfl
@[simp ↓] theorem mTru_run (ma : Ev → M MV) : mTru ma env s = (match ma env s with | .ok x t => M.opt (truOf t x) t | .ex c fs t => .ex c fs t | .bad => .bad) := by
  unfold mTru M.bnd
  cases ma env s with
  | ex c fs z => rfl
  | bad => rfl
  | ok x0 t0 =>
    rfl
@[simp ↓] theorem mAndV_run (ma mb : Ev → M MV) : mAndV ma mb env s = (match ma env s with | .ok (.bl true) t => mb env t | .ok (.bl false) t => .ok (.bl false) t | .ok _ _ => .bad | .ex c fs t => .ex c fs t | .bad => .bad) := by
  show M.bnd _ _ _ = _
  unfold M.bnd
  cases ma env s with
  | ok k t => cases k with
    | bl b => cases b <;> rfl
    | _ => rfl
  | ex c fs t => rfl
  | bad => rfl
@[simp ↓] theorem mOrV_run (ma mb : Ev → M MV) : mOrV ma mb env s = (match ma env s with | .ok (.bl true) t => .ok (.bl true) t | .ok (.bl false) t => mb env t | .ok _ _ => .bad | .ex c fs t => .ex c fs t | .bad => .bad) := by
  show M.bnd _ _ _ = _
  unfold M.bnd
  cases ma env s with
  | ok k t => cases k with
    | bl b => cases b <;> rfl
    | _ => rfl
  | ex c fs t => rfl
  | bad => rfl
@[simp ↓] theorem mNotV_run (ma : Ev → M MV) : mNotV ma env s = (match ma env s with | .ok (.bl k) t => .ok (.bl !k) t | .ok _ _ => .bad | .ex c fs t => .ex c fs t | .bad => .bad) := by
  show M.bnd _ _ _ = _
  unfold M.bnd
  cases ma env s with
  | ok k t => cases k <;> rfl
  | ex c fs t => rfl
  | bad => rfl
@[simp ↓] theorem mIte_run (m : Ev → M Bool) (ma mb : Ev → M MV) : mIte m ma mb env s = (match m env s with | .ok k t => (if k = true then ma env t else mb env t) | .ex c fs t => .ex c fs t | .bad => .bad) := by
  show M.bnd _ _ _ = _
  unfold M.bnd
  cases m env s with
  | ok k t => cases k <;> rfl
  | ex c fs t => rfl
  | bad => rfl
@[simp ↓] theorem mNil_run : mNil env s = .ok [] s := rfl
@[simp ↓] theorem mCons_run (m : Ev → M MV) (r : Ev → M (List MV)) : mCons m r env s = (match m env s with | .ok x t => (match r env t with | .ok xs u => .ok (x :: xs) u | .ex c fs t => .ex c fs t | .bad => .bad) | .ex c fs t => .ex c fs t | .bad => .bad) := by
  unfold mCons M.bnd
  cases m env s with
  | ex c fs z => rfl
  | bad => rfl
  | ok x0 t0 =>
    simp only []
    cases r env t0 with
    | ex c fs z => rfl
    | bad => rfl
    | ok x1 t1 =>
      rfl
@[simp ↓] theorem mTup_run (as : Ev → M (List MV)) : mTup as env s = (match as env s with | .ok xs t => (if xs.length ≤ line then .ok (.tup xs) t else .bad) | .ex c fs t => .ex c fs t | .bad => .bad) := by
  show M.bnd _ _ _ = _
  unfold M.bnd
  cases as env s with
  | ok xs t => simp only []; split <;> rfl
  | ex c fs t => rfl
  | bad => rfl
@[simp ↓] theorem mLst_run (fr : Bool) (as : Ev → M (List MV)) : mLst fr as env s = (match as env s with | .ok xs t => (if xs.length ≤ line then mkList fr xs t else .bad) | .ex c fs t => .ex c fs t | .bad => .bad) := by
  show M.bnd _ _ _ = _
  unfold M.bnd
  cases as env s with
  | ok xs t => simp only []; split <;> rfl
  | ex c fs t => rfl
  | bad => rfl
@[simp] theorem mkList_t (xs : List MV) : mkList true xs s = .ok (.lst xs) s := rfl
@[simp] theorem mkList_f (xs : List MV) : mkList false xs s = .ok (.ref s.length) (s ++ [.lst xs]) := rfl
@[simp ↓] theorem mIx_run (ma mb : Ev → M MV) : mIx ma mb env s = mBin ixF ma mb env s := rfl
@[simp ↓] theorem mCallF_run (f : Sto → List MV → Option MV) (as : Ev → M (List MV)) : mCallF f as env s = (match as env s with | .ok xs t => M.opt (f t xs) t | .ex c fs t => .ex c fs t | .bad => .bad) := by
  unfold mCallF M.bnd
  cases as env s with
  | ex c fs z => rfl
  | bad => rfl
  | ok x0 t0 =>
    rfl
@[simp ↓] theorem mCallL_run (fr : Bool) (f : Sto → List MV → Option (List MV)) (as : Ev → M (List MV)) : mCallL fr f as env s = (match as env s with | .ok xs t => (match f t xs with | some ys => mkList fr ys t | none => .bad) | .ex c fs t => .ex c fs t | .bad => .bad) := by
  unfold mCallL M.bnd
  cases as env s <;> rfl
@[simp ↓] theorem mCall_run (mf : MF) (as : Ev → M (List MV)) : mCall mf as env s = (match as env s with | .ok xs t => mf xs t | .ex c fs t => .ex c fs t | .bad => .bad) := by
  unfold mCall M.bnd
  cases as env s with
  | ex c fs z => rfl
  | bad => rfl
  | ok x0 t0 =>
    rfl
@[simp ↓] theorem mFld_run (f : Nat) (ma : Ev → M MV) : mFld f ma env s = (match ma env s with | .ok x t => M.opt (fldOf t f x) t | .ex c fs t => .ex c fs t | .bad => .bad) := by
  unfold mFld mUn M.bnd
  cases ma env s with
  | ex c fs z => rfl
  | bad => rfl
  | ok x0 t0 =>
    rfl
@[simp ↓] theorem mMeth_run (cs : List (Nat × MF)) (ma : Ev → M MV) (as : Ev → M (List MV)) : mMeth cs ma as env s = (match ma env s with | .ok x t => (match clsOf t x with | some c => (match cs.lookup c with | some mf => (match as env t with | .ok xs u => mf (x :: xs) u | .ex c fs t => .ex c fs t | .bad => .bad) | none => .bad) | none => .bad) | .ex c fs t => .ex c fs t | .bad => .bad) := by
  unfold mMeth M.bnd
  cases ma env s with
  | ex c fs z => rfl
  | bad => rfl
  | ok x t =>
    simp only []
    cases clsOf t x with
    | none => rfl
    | some c =>
      simp only []
      cases cs.lookup c with
      | none => rfl
      | some mf =>
        simp only []
        cases as env t <;> rfl
@[simp ↓] theorem mBinM_run (g : MV → MV → M MV) (ma mb : Ev → M MV) : mBinM g ma mb env s = (match ma env s with | .ok x t => (match mb env t with | .ok y u => g x y u | .ex c fs t => .ex c fs t | .bad => .bad) | .ex c fs t => .ex c fs t | .bad => .bad) := by
  unfold mBinM M.bnd
  cases ma env s with
  | ex c fs z => rfl
  | bad => rfl
  | ok x0 t0 =>
    simp only []
    cases mb env t0 with
    | ex c fs z => rfl
    | bad => rfl
    | ok x1 t1 =>
      rfl
@[simp ↓] theorem mIsi_run (f : TyM → Option Bool) (ma : Ev → M MV) : mIsi f ma env s = (match ma env s with | .ok x t => (match tyM t x with | some k => M.opt ((f k).map .bl) t | none => .bad) | .ex c fs t => .ex c fs t | .bad => .bad) := by
  unfold mIsi M.bnd
  cases ma env s <;> rfl
@[simp ↓] theorem mBits_run (ma : Ev → M MV) : mBits ma env s = (match ma env s with | .ok (.int i) t => .ok (.int (Builtin.Int.intBits i : Nat)) t | .ok _ _ => .bad | .ex c fs t => .ex c fs t | .bad => .bad) := by
  show M.bnd _ _ _ = _
  unfold M.bnd
  cases ma env s with
  | ok k t => cases k <;> rfl
  | ex c fs t => rfl
  | bad => rfl
@[simp ↓] theorem mFmt_run (ma : Ev → M MV) : mFmt ma env s = (match ma env s with | .ok (.str y) t => (if y.length ≤ line then .ok (.str y) t else .bad) | .ok (.int i) t => (if i.natAbs.log2 < 1920 then .ok (.str (toString i)) t else .bad) | .ok _ _ => .bad | .ex c fs t => .ex c fs t | .bad => .bad) := by
  show M.bnd _ _ _ = _
  unfold M.bnd
  cases ma env s with
  | ok k t => cases k with
    | str y => simp only []; split <;> rfl
    | int y => simp only []; split <;> rfl
    | _ => rfl
  | ex c fs t => rfl
  | bad => rfl
@[simp ↓] theorem mJs_nil (acc : Str) : mJs [] acc env s = .ok (.str acc) s := rfl
@[simp ↓] theorem mJs_cons (m : Ev → M MV) (ms : List (Ev → M MV)) (acc : Str) : mJs (m :: ms) acc env s = (match m env s with | .ok (.str y) t => (if (acc ++ y).length ≤ line then mJs ms (acc ++ y) env t else .bad) | .ok _ _ => .bad | .ex c fs t => .ex c fs t | .bad => .bad) := by
  show M.bnd _ _ _ = _
  unfold M.bnd
  cases m env s with
  | ok k t => cases k with
    | str y => simp only []; split <;> rfl
    | _ => rfl
  | ex c fs t => rfl
  | bad => rfl
@[simp ↓] theorem mKw_run (g : List MV → List MV → List MV) (mf : MF) (as bs : Ev → M (List MV)) : mKw g mf as bs env s = (match as env s with | .ok xs t => (match bs env t with | .ok ys u => noEx (mf (g xs ys) u) | .ex c fs t => .ex c fs t | .bad => .bad) | .ex c fs t => .ex c fs t | .bad => .bad) := by
  unfold mKw M.bnd
  cases as env s with
  | ex c fs z => rfl
  | bad => rfl
  | ok x0 t0 =>
    simp only []
    cases bs env t0 with
    | ex c fs z => rfl
    | bad => rfl
    | ok x1 t1 => rfl
@[simp] theorem noEx_ok (v : MV) : noEx (.ok v s) = .ok v s := rfl
/-! statements -/
@[simp ↓] theorem sSeq_run (a b : MS) : sSeq a b env s = (match a env s with | .nx e t => b e t | .rt v t => .rt v t | .bk e t => .bk e t | .ct e t => .ct e t | .ex e c fs t => .ex e c fs t | .bad => .bad) := rfl
@[simp ↓] theorem sNil_run : sNil env s = .nx env s := rfl
@[simp ↓] theorem sBreak_run : sBreak env s = .bk env s := rfl
@[simp ↓] theorem sCont_run : sCont env s = .ct env s := rfl
@[simp ↓] theorem sAsg_run (i : Nat) (m : Ev → M MV) : sAsg i m env s = (match m env s with | .ok v t => .nx (env.set i (some v)) t | .ex c fs t => .ex env c fs t | .bad => .bad) := by
  unfold sAsg bndS
  cases m env s with
  | ex c fs z => rfl
  | bad => rfl
  | ok x0 t0 =>
    rfl
@[simp ↓] theorem sExpr_run (m : Ev → M MV) : sExpr m env s = (match m env s with | .ok _ t => .nx env t | .ex c fs t => .ex env c fs t | .bad => .bad) := by
  unfold sExpr bndS
  cases m env s with
  | ex c fs z => rfl
  | bad => rfl
  | ok x0 t0 =>
    rfl
@[simp ↓] theorem sRet_run (m : Ev → M MV) : sRet m env s = (match m env s with | .ok v t => .rt v t | .ex c fs t => .ex env c fs t | .bad => .bad) := by
  unfold sRet bndS
  cases m env s with
  | ex c fs z => rfl
  | bad => rfl
  | ok x0 t0 =>
    rfl
@[simp ↓] theorem sRetN_run : sRetN env s = .rt .non s := rfl
@[simp ↓] theorem sIf_run (m : Ev → M Bool) (a b : MS) : sIf m a b env s = (match m env s with | .ok k t => (if k = true then a env t else b env t) | .ex c fs t => .ex env c fs t | .bad => .bad) := by
  unfold sIf bndS
  cases m env s with
  | ex c fs z => rfl
  | bad => rfl
  | ok x0 t0 =>
    rfl
@[simp ↓] theorem sPar_run (i j : Nat) (as : Ev → M (List MV)) : sPar i j as env s = (match as env s with | .ok [v, w] t => .nx ((env.set i (some v)).set j (some w)) t | .ok _ _ => .bad | .ex c fs t => .ex env c fs t | .bad => .bad) := by
  show bndS _ _ _ _ = _
  unfold bndS
  cases as env s with
  | ok xs t => match xs with
    | [] => rfl
    | [_] => rfl
    | [_, _] => rfl
    | _ :: _ :: _ :: _ => rfl
  | ex c fs t => rfl
  | bad => rfl
@[simp ↓] theorem sSub_run (mo mi mv : Ev → M MV) : sSub mo mi mv env s = (match mv env s with | .ok v t => (match mo env t with | .ok o u => (match mi env u with | .ok i w => (match setL o i v w with | some z => .nx env z | none => .bad) | .ex c fs t => .ex env c fs t | .bad => .bad) | .ex c fs t => .ex env c fs t | .bad => .bad) | .ex c fs t => .ex env c fs t | .bad => .bad) := by
  unfold sSub bndS
  cases mv env s with
  | ex c fs z => rfl
  | bad => rfl
  | ok x0 t0 =>
    simp only []
    cases mo env t0 with
    | ex c fs z => rfl
    | bad => rfl
    | ok x1 t1 =>
      simp only []
      cases mi env t1 with
      | ex c fs z => rfl
      | bad => rfl
      | ok x2 t2 =>
        rfl
@[simp ↓] theorem sFldM_run (f : Nat) (mo mv : Ev → M MV) : sFldM f mo mv env s = (match mv env s with | .ok v t => (match mo env t with | .ok o u => (match setFld f o v u with | some z => .nx env z | none => .bad) | .ex c fs t => .ex env c fs t | .bad => .bad) | .ex c fs t => .ex env c fs t | .bad => .bad) := by
  unfold sFldM bndS
  cases mv env s with
  | ex c fs z => rfl
  | bad => rfl
  | ok x0 t0 =>
    simp only []
    cases mo env t0 with
    | ex c fs z => rfl
    | bad => rfl
    | ok x1 t1 =>
      rfl
@[simp ↓] theorem sTg_run (g : MG) (m : Ev → M MV) : sTg g m env s = (match m env s with | .ok v t => (match g v env t with | .ok e u => .nx e u | _ => .bad) | .ex c fs t => .ex env c fs t | .bad => .bad) := by
  unfold sTg bndS
  cases m env s with
  | ex c fs z => rfl
  | bad => rfl
  | ok x0 t0 =>
    rfl
@[simp ↓] theorem sRaise_run (c : Nat) : sRaise c env s = .ex env c [] s := rfl
@[simp ↓] theorem sFor_run (mi : MI) (g : MG) (b : MS) : sFor mi g b env s = (match mi env s with | .ok it t => forL g b it.ok it.xs env t | .ex c fs t => .ex env c fs t | .bad => .bad) := by
  unfold sFor bndS
  cases mi env s with
  | ex c fs z => rfl
  | bad => rfl
  | ok x0 t0 =>
    rfl
@[simp ↓] theorem miRange_run (ma : Ev → M MV) : miRange ma env s = (match ma env s with | .ok (.int j) t => (if small j = true then .ok ⟨intsM 0 j.toNat, fun _ => True⟩ t else .bad) | .ok _ _ => .bad | .ex c fs t => .ex c fs t | .bad => .bad) := by
  show M.bnd _ _ _ = _
  unfold M.bnd
  cases ma env s with
  | ok k t => cases k with
    | int j => simp only []; split <;> rfl
    | _ => rfl
  | ex c fs t => rfl
  | bad => rfl
@[simp ↓] theorem tgName_run (i : Nat) (v : MV) : tgName i v env s = .ok (env.set i (some v)) s := rfl
theorem mFun_run (n : Nat) (mb : MS) (args : List MV) : mFun n mb args s = flowR (mb (args.map some ++ List.replicate (n - args.length) none) s) := rfl
@[simp] theorem flow_rt (v : MV) : flowR (.rt v s) = .ok v s := rfl
@[simp] theorem flow_nx (e : Ev) : flowR (.nx e s) = .ok .non s := rfl
@[simp] theorem flow_ex (e : Ev) (c : Nat) (fs : List (Nat × MV)) : flowR (.ex e c fs s) = .ex c fs s := rfl
@[simp] theorem flow_bad : flowR .bad = .bad := rfl
theorem for_T_nil (g : MG) (b : MS) : forL g b (fun _ => True) [] env s = .nx env s := for_nil trivial
theorem for_T_cons (g : MG) (b : MS) (x : MV) (r : List MV) : forL g b (fun _ => True) (x :: r) env s = (match g x env s with
    | .ok e t => (match b e t with
      | .nx e u => forL g b (fun _ => True) r e u
      | .ct e u => forL g b (fun _ => True) r e u
      | .bk e u => .nx e u
      | .rt v u => .rt v u
      | .ex e c fs u => .ex e c fs u
      | .bad => .bad)
    | .ex c fs t => .bad
    | .bad => .bad) := by
  conv => lhs; unfold forL
  simp only [if_true]
  cases g x env s with
  | ex c fs z => rfl
  | bad => rfl
  | ok e t =>
    simp only []
    all_goals (cases b e t <;> rfl)
/-! data -/
@[simp] theorem bAdd_i (i j : Int) : bAdd s (.int i) (.int j) = some (.int (i + j)) := rfl
@[simp] theorem bSub_i (i j : Int) : bSub s (.int i) (.int j) = some (.int (i - j)) := rfl
theorem bMul_i {i j : Int} (h : i.natAbs.log2 + j.natAbs.log2 < 100000000) : bMul s (.int i) (.int j) = some (.int (i * j)) := by
  show (if mulOk i j = true then some (MV.int (i * j)) else none) = _
  have e : mulOk i j = true := decide_eq_true h
  rw [if_pos e]
theorem bDiv_i {i j : Int} (h : 0 < j) (h2 : j.natAbs.log2 < 9000) : bDiv s (.int i) (.int j) = some (.int (i / j)) := by
  have e : divOk j = true := decide_eq_true ⟨h, h2⟩
  unfold bDiv
  simp only [e, if_true]
theorem bMod_i {i j : Int} (h : 0 < j) : bMod s (.int i) (.int j) = some (.int (i % j)) := by
  show (if 0 < j then _ else _) = _
  rw [if_pos h]
@[simp] theorem cLt_i (i j : Int) : cLt s (.int i) (.int j) = some (decide (i < j)) := rfl
@[simp] theorem cLe_i (i j : Int) : cLe s (.int i) (.int j) = some (decide (i ≤ j)) := rfl
@[simp] theorem cGt_i (i j : Int) : cGt s (.int i) (.int j) = some (decide (j < i)) := rfl
@[simp] theorem cGe_i (i j : Int) : cGe s (.int i) (.int j) = some (decide (j ≤ i)) := rfl
@[simp] theorem cEq_i (i j : Int) : cEq s (.int i) (.int j) = some (decide (i = j)) := rfl
@[simp] theorem cEq_b (i j : Bool) : cEq s (.bl i) (.bl j) = some (i == j) := rfl
@[simp] theorem cEq_s (i j : Str) : cEq s (.str i) (.str j) = some (decide (i = j)) := rfl
@[simp] theorem cNe_b (i j : Bool) : cNe s (.bl i) (.bl j) = some (!(i == j)) := rfl
@[simp] theorem cNe_i (i j : Int) : cNe s (.int i) (.int j) = some (!decide (i = j)) := rfl
@[simp] theorem cIs_n (x : MV) : cIs s x .non = some (isN x) := rfl
@[simp] theorem tru_b (b : Bool) : truOf s (.bl b) = some b := rfl
@[simp] theorem fInt_i (i : Int) : fInt s [.int i] = some (.int i) := rfl
@[simp] theorem fInt_b (b : Bool) : fInt s [.bl b] = some (.int (if b then 1 else 0)) := rfl
@[simp] theorem fAbs_i (i : Int) : fAbs s [.int i] = some (.int i.natAbs) := rfl
@[simp] theorem fGcd_i (i j : Int) : fGcd s [.int i, .int j] = some (.int (Nat.gcd i.natAbs j.natAbs : Nat)) := rfl
theorem atI_n {α : Type} (xs : List α) (n : Nat) : atI xs (n : Int) = xs[n]? := by
  unfold atI ixN
  rw [if_pos (Int.natCast_nonneg n)]
  by_cases h : n < xs.length
  · have h' : (n : Int) < (xs.length : Int) := by omega
    rw [if_pos h']; simp
  · have h' : ¬ (n : Int) < (xs.length : Int) := by omega
    rw [if_neg h', List.getElem?_eq_none (by omega)]; rfl
@[simp] theorem ix_t0 (x : MV) (xs : List MV) : ixF s (.tup (x :: xs)) (.int 0) = some x := atI_n (x :: xs) 0
@[simp] theorem ix_t1 (x y : MV) (xs : List MV) : ixF s (.tup (x :: y :: xs)) (.int 1) = some y := atI_n (x :: y :: xs) 1
@[simp] theorem ix_t2 (x y z : MV) (xs : List MV) : ixF s (.tup (x :: y :: z :: xs)) (.int 2) = some z := atI_n (x :: y :: z :: xs) 2
@[simp] theorem ix_l0 (x : MV) (xs : List MV) : ixF s (.lst (x :: xs)) (.int 0) = some x := atI_n (x :: xs) 0
@[simp] theorem ix_l1 (x y : MV) (xs : List MV) : ixF s (.lst (x :: y :: xs)) (.int 1) = some y := atI_n (x :: y :: xs) 1
end
end Z

namespace Z
open PySem L2
/-! ### sizes -/
abbrev nb (x : Int) : Nat := Builtin.Int.intBits x
theorem nb_lt {m : Nat} {x : Int} (h : x.natAbs < 2 ^ m) : nb x ≤ m := PySem.intBits_le_iff.mpr h
theorem lt_nb {m : Nat} {x : Int} (h : nb x ≤ m) : x.natAbs < 2 ^ m := PySem.intBits_le_iff.mp h
theorem log_nb (x : Int) : x.natAbs.log2 ≤ nb x := by
  unfold nb Builtin.Int.intBits
  split
  · rename_i h; have : x = 0 := by simpa using h
    subst this; decide
  · omega
theorem nb_log {m : Nat} {x : Int} (h : nb x ≤ m) : x.natAbs.log2 ≤ m := Nat.le_trans (log_nb x) h
theorem nb_mono {m n : Nat} {x : Int} (h : nb x ≤ m) (hm : m ≤ n) : nb x ≤ n := Nat.le_trans h hm
theorem nb_abs {x y : Int} {m : Nat} (h : x.natAbs ≤ y.natAbs) (hy : nb y ≤ m) : nb x ≤ m := nb_lt (Nat.lt_of_le_of_lt h (lt_nb hy))
theorem nb_mul {x y : Int} {m n : Nat} (hx : nb x ≤ m) (hy : nb y ≤ n) : nb (x * y) ≤ m + n := nb_lt (by
  rw [Int.natAbs_mul, Nat.pow_add]
  exact Nat.mul_lt_mul'' (lt_nb hx) (lt_nb hy))
theorem nb_add {x y : Int} {m n : Nat} (hx : nb x ≤ m) (hy : nb y ≤ n) : nb (x + y) ≤ max m n + 1 := nb_lt (by
  have h1 := lt_nb (nb_mono hx (Nat.le_max_left m n))
  have h2 := lt_nb (nb_mono hy (Nat.le_max_right m n))
  rw [Nat.pow_succ]
  have := Int.natAbs_add_le x y
  omega)
theorem nb_neg {x : Int} {m : Nat} (h : nb x ≤ m) : nb (-x) ≤ m := nb_abs (by omega) h
theorem nb_sub {x y : Int} {m n : Nat} (hx : nb x ≤ m) (hy : nb y ≤ n) : nb (x - y) ≤ max m n + 1 := by
  rw [Int.sub_eq_add_neg]; exact nb_add hx (nb_neg hy)
theorem nb_div {x y : Int} {m : Nat} (hx : nb x ≤ m) (hy : 0 < y) : nb (x / y) ≤ m := nb_abs (by
  rcases Int.lt_or_le x 0 with h | h
  · have h1 : x ≤ x / y := by
      have := Int.le_ediv_of_mul_le hy (show x * y ≤ x by
        have h2 : 1 ≤ y := by omega
        have h3 : (-x) * 1 ≤ (-x) * y := Int.mul_le_mul_of_nonneg_left h2 (by omega)
        have h4 : (-x) * y = -(x * y) := Int.neg_mul x y
        omega)
      exact this
    have h2 : x / y < 0 := Int.ediv_neg_of_neg_of_pos h hy
    omega
  · have h1 : x / y ≤ x := Int.ediv_le_self y h
    have h2 : 0 ≤ x / y := Int.ediv_nonneg h (by omega)
    omega) hx
section
variable {s : Sto} {x y : Int} {m n : Nat}
theorem mulS (hx : nb x ≤ m) (hy : nb y ≤ n) (h : m + n < 100000000) : bMul s (.int x) (.int y) = some (.int (x * y)) := bMul_i (by
  have := nb_log hx
  have := nb_log hy
  omega)
theorem divS (h : 0 < y) (hy : nb y ≤ m) (hm : m < 9000) : bDiv s (.int x) (.int y) = some (.int (x / y)) := bDiv_i h (by
  have := nb_log hy
  omega)
end
end Z

namespace Z
open PySem PySem.W PySem.Calls PyProof.Rows PySem.HandSPX
/-! ### an own exception whose __init__ says super().__init__(f'..') and stores its argument -/
def iniArgs (fld : Str) (pa pb : Pos) : Arguments := { posonlyargs := [], args := [{ arg := "self", annotation := none, pos := pa }, { arg := fld, annotation := none, pos := pb }], vararg := none, kwonlyargs := [], kw_defaults := [], kwarg := none, defaults := [] }
def iniScope (fld : Str) : Scope := { kind := .function, names := [(Str.ofString "self", .local), (fld, .local), (Str.ofString "__class__", .free), (Str.ofString "super", .globalImplicit)], isGenerator := false, isCoroutine := false, more := [] }
/-- a part of the text: written, or the argument -/
inductive GP (fld : Str) : Expr → Prop where
  | c {x : Str} {j : Nat} {p : Pos} (h : x.length ≤ 1000) : GP fld (.Constant (.str x) j p)
  | f {p p' : Pos} : GP fld (.FormattedValue (.Name fld p) (-1) none p')
inductive GPs (fld : Str) : List Expr → Prop where
  | nil : GPs fld []
  | cons {e : Expr} {es : List Expr} (h : GP fld e) (r : GPs fld es) : GPs fld (e :: es)
/-- an int or a text, of a size that can be written -/
def VOk (v : Value) : Prop := (∃ i t, v = .int i t ∧ i.natAbs.log2 < 1920) ∨ ∃ y t, v = .str y t ∧ y.length ≤ 100000
section
variable {prog : Program} {w : World} {A : Around} {E : Value → Shared → Prop}
theorem part_run {fld : Str} {env : Env} {s : Shared} {v : Value} (hl : ∀ (tk : Nat) (p : Pos) (Q : Value → Shared → Prop), Q v { s with toks := tk } → wpAny (model prog w) A (eval (.Name fld p) env) Q E { s with toks := tk }) (hv : VOk v) {e : Expr} (h : GP fld e) (tk : Nat)
    (Q : Value → Shared → Prop) (hq : ∀ y t tk', y.length ≤ 100000 → Q (.str y t) { s with toks := tk' }) : wpAny (model prog w) A (eval e env) Q E { s with toks := tk } := by
  cases h with
  | c hx => exact Calls.Constant_str (hq _ _ _ (Nat.le_trans hx (by decide)))
  | f =>
    refine wpAny_FormattedValue_plain (hl tk _ _ ?_)
    rcases hv with ⟨i, t, rfl, hi⟩ | ⟨y, t, rfl, hy⟩
    · refine wpAny_formatField_int hi (hq _ _ _ ?_)
      have := int_text_length_le (a := i) (by omega) hi
      show (Str.ofString (toString i)).length ≤ 100000
      rw [PySem.ofString_length]; omega
    · refine wpAny_formatField_str (hq y _ _ hy) (hq y _ _ hy) ?_
      exact Nat.le_trans hy (by decide)
theorem parts_run {fld : Str} {env : Env} {s : Shared} {v : Value} (hl : ∀ (tk : Nat) (p : Pos) (Q : Value → Shared → Prop), Q v { s with toks := tk } → wpAny (model prog w) A (eval (.Name fld p) env) Q E { s with toks := tk }) (hv : VOk v) {es : List Expr} (h : GPs fld es) :
    ∀ (acc : Str) (tk : Nat) (Q : Str → Shared → Prop), acc.length + es.length * 100000 ≤ 1000000 → (∀ out tk', out.length ≤ 1000000 → Q out { s with toks := tk' }) → Joins (model prog w) A E (evalEach es env) acc Q { s with toks := tk } := by
  induction h with
  | nil =>
    intro acc tk Q hz hq
    have e0 : evalEach [] env = [] := by first | rfl | simp [evalEach]
    rw [e0]
    exact hq acc tk (by simpa using hz)
  | @cons e es he r ih =>
    intro acc tk Q hz hq
    have e0 : evalEach (e :: es) env = eval e env :: evalEach es env := by first | rfl | simp [evalEach]
    rw [e0]
    rw [List.length_cons] at hz
    refine part_run hl hv he tk _ fun y t tk' hy => ⟨y, t, rfl, ?_, ih (acc ++ y) tk' Q ?_ hq⟩
    · rw [Str.length_append, sizeLine_eq]; omega
    · rw [Str.length_append]; omega
/-- what the written part says of such a class at C, its __init__ at f, the cell of __class__ at cc, the code at cda -/
structure IniK (P : Program) (K : Frag) (C f : Addr) (qual fld : Str) (es : List Expr) (pa pb p0 p1 p2 p3 p4 p5 q1 q2 q3 q4 : Pos) : Prop where
  fn : ∃ (oc ccl cl doc pm ct : Value) (od cdd cld an : Option Addr) (osl ccs csl : Array (Option Value)) (cc cda : Addr) (vs : Array Value) (file : Str) (tf : Tok),
    K.lookup f = some ⟨oc, od, .func (ksFn "__init__" qual (iniArgs fld pa pb) [.Expr (.Call (.Attribute (.Call (.Name "super" p0) [] [] p1) "__init__" p2) [.JoinedStr es p5] [] p3) p4, .Assign [.Attribute (.Name "self" q1) fld q2] (.Name fld q3) q4] (iniScope fld) .none .none doc pm an (.ref cda) ct cc), osl⟩ ∧
      codeIn K (.ref cda) qual = true ∧ K.lookup cda = some ⟨ccl, cdd, .fields vs, ccs⟩ ∧ vs[2]? = some (.str file tf) ∧ ((P.main.file : Str) == file) = true ∧ K.lookup cc = some ⟨cl, cld, .cell (some (.ref C)), csl⟩
  gp : ∃ e1 e2 r, es = e1 :: e2 :: r ∧ GPs fld es ∧ es.length ≤ 5
  top : (P.main.scope.names.lookup ("super" : Str)).isSome = false
  op : nsIn K cStatics "thirdparty.any" = some none
  cls : excInitIn K C [.type "ValueError", .type "Exception", .type "BaseException", .type "object"] "ValueError.__new__" = true
  mro : ∃ cd, clsIn K C = some cd ∧ refsVE cd.mro = true ∧ cd.hasDict = true ∧ alongIn K "__init__" ((cd.mro.dropWhile (· != .ref C)).drop 1) = some (some (.builtin "ValueError.__init__"))
  sub : mroIn K C (.ref C) = some true
  ve : subIn K (.ref C) (.type "ValueError") = some true
  sa : findIn K (.ref C) "__setattr__" = some (some (.builtin "object.__setattr__"))
  no : findIn K (.ref C) fld = some none
  f1 : ¬ fld = Str.ofString "self" ∧ ¬ fld = Str.ofString "super" ∧ (fld == ("__debug__" : Str)) = false ∧ ¬ fld = Str.ofString "__class__"
  ini : findIn K (.ref C) "__init__" = some (some (.ref f))
  tf : typeIn K (.ref f) = some (.type "function")
  kC : keepIn K (.ref C) = true
  bd : ∀ (body : List Stmt) (doc pm ct cdv : Value) (an : Option Addr) (cc : Addr) (a b : Value), bindArgs (ksFn "__init__" qual (iniArgs fld pa pb) body (iniScope fld) .none .none doc pm an cdv ct cc) ⟨[a, b], []⟩ = pure [(Str.ofString "self", a), (fld, b)]
/-- .. of the text itself, whatever the frame -/
structure IniE (fld : Str) (es : List Expr) (p0 p1 p2 p3 p4 p5 q1 q2 q3 q4 : Pos) : Prop where
  ev : ∀ env : Env, ∃ pl : Sem Bool, eval (.Call (.Attribute (.Call (.Name "super" p0) [] [] p1) "__init__" p2) [.JoinedStr es p5] [] p3) env = (do
    let ov ← attributeBase (.Call (.Name "super" p0) [] [] p1) "__init__" env (eval (.Call (.Name "super" p0) [] [] p1) env)
    standAt p2.atName
    let (f, first) ← holding [ov] (getMethod ov "__init__" pl)
    callWith p3 f first (backTo p3 (starEach [.JoinedStr es p5] env)) [])
  st : ∀ env : Env, starEach [.JoinedStr es p5] env = (false, eval (.JoinedStr es p5) env) :: starEach [] env
  sw : ∀ env : Env, swapsWith (.Name fld q3) (some (.Attribute (.Name "self" q1) fld q2)) q4.line env = pure false
  sx : ∀ env : Env, swapsWith (.Call (.Attribute (.Call (.Name "super" p0) [] [] p1) "__init__" p2) [.JoinedStr es p5] [] p3) none p4.line env = pure false
/-- its __init__, run -/
theorem ini_init {K : Frag} {mg mb : Str → Option Value} {C f : Addr} {qual fld : Str} {es : List Expr} {pa pb p0 p1 p2 p3 p4 p5 q1 q2 q3 q4 : Pos} (T : IniK prog K C f qual fld es pa pb p0 p1 p2 p3 p4 p5 q1 q2 q3 q4) (TE : IniE fld es p0 p1 p2 p3 p4 p5 q1 q2 q3 q4) {s : Shared} {R : Result → Shared → Prop} {x t0 : Addr} {v : Value} (hv : VOk v)
    (X : K.In s.heap) (hlim : s.heap.NoLimit) (hx : s.heap.get? x = some (excO C t0)) (hnx : K.lookup x = none) (hroom : A.depth < recursionLimit) (hg : s.heap.Ns mainGlobals mg) (hb : s.heap.Ns builtinsNs mb) (hmg : mg "super" = none) (hmb : mb "super" = some (.type "super"))
    (hq : ∀ h' tk dx t1, (∀ b o, b ≠ x → s.heap.get? b = some o → h'.get? b = some o) → h'.get? x = some { cls := .ref C, dict := some dx, data := .fields #[.ref t1, .none, .none, .none, .bool false, .none] } → s.heap.objs.size ≤ dx → dx ≠ x →
      h'.Ns1 dx (fun y => if y = fld then some v else none) → R (.ok (.ret .none)) { s with heap := h', toks := tk }) :
    codeAny (model prog w) A (.call (.ref f) ⟨[.ref x, v], []⟩) R s := by
  obtain ⟨oc, ccl, cl, doc, pm, ct, od, cdd, cld, an, osl, ccs, csl, cc, cda, vs, file, tf, ho, hcd, hcda, hvs, hfile, hcc⟩ := T.fn
  obtain ⟨cd, hcl, hmro, hhd, hal⟩ := T.mro
  obtain ⟨g1, g2, g3, g4⟩ := T.f1
  obtain ⟨e1, e2, er, hes, hgp, hlen⟩ := T.gp
  have l1 : (iniScope fld).names.lookup (Str.ofString "self") = some .local := by simp [iniScope]
  have l2 : (iniScope fld).names.lookup fld = some .local := by simp [iniScope, List.lookup, beq_eq_false_iff_ne.mpr g1]
  have l3 : (iniScope fld).names.lookup (Str.ofString "__class__") = some .free := by
    have : (Str.ofString "__class__" == fld) = false := beq_eq_false_iff_ne.mpr (Ne.symm g4)
    have z : (Str.ofString "__class__" == Str.ofString "self") = false := by decide
    simp [iniScope, List.lookup, this, z]
  have l4 : (iniScope fld).names.lookup (Str.ofString "super") = some .globalImplicit := by
    have : (Str.ofString "super" == fld) = false := beq_eq_false_iff_ne.mpr (Ne.symm g2)
    have z : (Str.ofString "super" == Str.ofString "self") = false := by decide
    have z2 : (Str.ofString "super" == Str.ofString "__class__") = false := by decide
    simp [iniScope, List.lookup, this, z, z2]
  refine ks_codeAny_call_defAt (binds := [(Str.ofString "self", .ref x), (fld, v)]) hroom (X _ _ ho) rfl hlim (codeRec_of X hcd) rfl (BindsTo.of_eq (T.bd _ _ _ _ _ _ _ _ _)) ?_ ?_ (fun h₁ hns k => ?_)
  · intro y hy
    simp [iniScope] at hy
    rcases hy with rfl | rfl | rfl | rfl <;> exact fun z => nomatch z
  · intro y hy
    simp at hy
    rcases hy with rfl | rfl
    · exact l1
    · exact l2
  have hn : (fun y => (List.reverse [((Str.ofString "self"), Value.ref x), (fld, v)]).lookup y) (Str.ofString "self") = some (.ref x) := by
    have : (Str.ofString "self" == fld) = false := beq_eq_false_iff_ne.mpr (Ne.symm g1)
    simp [List.lookup, this]
  have hn2 : (fun y => (List.reverse [((Str.ofString "self"), Value.ref x), (fld, v)]).lookup y) fld = some v := by
    simp [List.lookup]
  have hxL : s.heap.objs.size ≠ x := Nat.ne_of_gt (Heap.lt_size hx)
  have X₁ : K.In h₁ := X.keeps k
  have hx₁ := k _ _ hx
  have hI : InstAt h₁ x (excO C t0) C none := ⟨hx₁, rfl, rfl, trivial⟩
  obtain ⟨oD, hD1, hD2⟩ : ∃ oD, h₁.get? C = some oD ∧ oD.data = .cls cd := by
    unfold clsIn at hcl
    split at hcl
    · rename_i c d cd' sl ho2
      cases hcl
      exact ⟨_, X₁ _ _ ho2, rfl⟩
    · cases hcl
  obtain ⟨hp, g, dr, tk, os⟩ := s
  -- super().__init__(..)
  obtain ⟨pl, hev⟩ := TE.ev (callEnv (ksFn "__init__" qual (iniArgs fld pa pb) [.Expr (.Call (.Attribute (.Call (.Name "super" p0) [] [] p1) "__init__" p2) [.JoinedStr es p5] [] p3) p4, .Assign [.Attribute (.Name "self" q1) fld q2] (.Name fld q3) q4] (iniScope fld) .none .none doc pm an (.ref cda) ct cc) hp.objs.size f)
  refine ks_wpAt_execs_cons (ks_wpAt_Expr_any ?_ rfl (TE.sx _))
  refine ks_wpAt_MethodCall ?_ hev
  refine ks_wpAt_super_base (fd := ksFn "__init__" qual (iniArgs fld pa pb) _ (iniScope fld) .none .none doc pm an (.ref cda) ct cc) l4 l3 (by decide) rfl (X₁ _ _ ho) rfl (ar := { arg := "self", annotation := none, pos := pa }) rfl rfl (X₁ _ _ hcda) rfl hvs hfile T.top ?_
  refine ks_loadName_global rfl l4 (loadGlobal_builtin (hg.keeps k) hmg (hb.keeps k) hmb ⟨rfl, ?_⟩)
  refine wpAny_loadName_free rfl l3 (by rfl) ⟨_, X₁ _ _ hcc, rfl⟩ ?_
  refine wpAny_loadName_local rfl l1 hns hn ?_
  refine ks_wpAny_isType_cls hD1 hD2 ⟨rfl, ?_⟩
  refine ks_wpAny_call_super hD1 hD2 hx₁ rfl (fun c e => nomatch e) (looks_mroIn X₁ T.sub) (fun h₂ hso k₂ => ?_)
  have X₂ : K.In h₂ := X₁.keeps k₂
  have hx₂ := k₂ _ _ hx₁
  have hI₂ : InstAt h₂ x (excO C t0) C none := ⟨hx₂, rfl, rfl, trivial⟩
  refine kxs_getMethod kxs_ValueError hso (looks_opaque X₂ T.op) (l₀ := cd.mro) (fun A Q E s k q => wpAny_bind ((looks_clsIn X₂ hcl) A _ E s k (wpAny_pure q))) rfl X₂ hal (hI₂.type.andThen (looks_subIn X₂ T.ve)) (ks_ne X₂ hI₂ hcl) (by decide) ?_
  rw [TE.st]
  have k₃ : ∀ b o, h₂.get? b = some o → (h₂.push (kxs_mw "ValueError.__init__" x)).get? b = some o := fun b o e => Heap.get?_push_of_some _ e
  have hu : (h₂.push (kxs_mw "ValueError.__init__" x)).get? h₂.objs.size = some (kxs_mw "ValueError.__init__" x) := Heap.get?_push_at rfl rfl
  refine kxs_callWith (i := "ValueError.__init__") (x := x) rfl (evalArgs_plain ?_)
  refine Calls.spliced_cons ?_
  subst hes
  refine wpAny_JoinedStr (pos := p5) (parts_run (fld := fld) (v := v) (s := ⟨h₂.push (kxs_mw "ValueError.__init__" x), g, dr, tk, os⟩) (fun tk' p Q q => ?_) hv hgp Str.empty _ _ (by show 0 + _ ≤ _; omega) fun out tk' ho' => ⟨Nat.le_trans ho' (by decide), ?_⟩)
  · exact wpAny_Name (wpAny_loadName_local rfl l2 (hns.keeps fun b o e => k₃ b o (k₂ b o e)) hn2 q) g3
  refine Calls.spliced_nil ⟨hu, ?_⟩
  have ux : h₂.objs.size ≠ x := Nat.ne_of_gt (Heap.lt_size hx₂)
  have hns₂ := hns.keeps k₂
  have uL : h₂.objs.size ≠ hp.objs.size := Nat.ne_of_gt hns₂.lt
  have g0n : ∀ b, hp.objs.size ≤ b → (hideAll hp [x]).get? b = none := fun b hb => Heap.get?_none_of_le (by rw [hideAll_size]; exact hb)
  have F : Fr (hideAll hp [x]) hp.objs.size (h₂.push (kxs_mw "ValueError.__init__" x)) (fun y => (List.reverse [((Str.ofString "self"), Value.ref x), (fld, v)]).lookup y) :=
    ⟨hns₂.keeps k₃, fun b o e => k₃ _ _ (k₂ _ _ (k _ _ (of_hideAll _ e))), Nat.le_of_eq (hideAll_size _ _)⟩
  have N : News (hideAll hp [x]) hp.objs.size (h₂.push (kxs_mw "ValueError.__init__" x)) [(h₂.objs.size, kxs_mw "ValueError.__init__" x), (x, excObj C t0 none .none)] := by
    intro p hp'
    simp only [List.mem_cons, List.not_mem_nil, or_false] at hp'
    rcases hp' with rfl | rfl
    · exact ⟨hu, uL, g0n _ (Nat.le_of_lt hns₂.lt)⟩
    · exact ⟨k₃ _ _ hx₂, Ne.symm hxL, hideAll_none _ (by simp)⟩
  have X0 : K.In (hideAll hp [x]) := fun a o e => hideAll_get _ (X a o e) (fun m => by
    rw [List.mem_singleton.mp m, hnx] at e; cases e)
  refine kxs_call F X0 N PySem.F.excBase_ValueError T.cls List.mem_cons_self (.tail ux (.head fun p hp => nomatch hp)) (by rw [sizeLine_eq]; exact (by decide : 1 ≤ 16777216)) fun t1 h₄ F₄ N₄ _ => ?_
  have hx₄ : h₄.get? x = some (excObj C t1 none .none) := (N₄ (x, excObj C t1 none .none) (by simp)).1
  have X₄ : K.In h₄ := X0.keeps F₄.keep
  -- self.fld = fld
  refine ks_wpAt_execs_cons (ks_wpAt_Assign_Attr ?_ (TE.sw _))
  refine wpAt_of_wpAny (wpAny_Name (wpAny_loadName_local rfl l2 F₄.ns hn2 ?_) g3)
  refine wpAny_Name (wpAny_loadName_local rfl l1 F₄.ns hn ?_) (by decide)
  refine set_plain X₄ (ox := excObj C t1 none .none) (od := none) ⟨hx₄, rfl, rfl, trivial⟩ T.sa ?_
  refine exc_osa X₄ hx₄ hcl hmro hhd T.no fun h₅ tk₅ dx k₅ dn dne hx₅ hn₅ => ?_
  refine wpAt_of_wpAny (wpAny_execs_nil (hq h₅ tk₅ dx t1 (fun b o hb e => k₅ b o hb (F₄.keep b o (hideAll_get _ e (by simpa using hb)))) hx₅ ?_ dne hn₅))
  exact Nat.le_of_lt (Nat.lt_of_lt_of_le F₄.ns.lt dn)
end
end Z

namespace Z
open PySem PySem.W PySem.Calls PyProof.Rows PySem.HandSPX
/-- such an exception, made -/
structure IniMade (h h' : Heap) (e C d : Addr) (fld : Str) (v : Value) : Prop where
  keep : ∀ b o, h.get? b = some o → h'.get? b = some o
  new : h.objs.size ≤ e
  obj : ∃ oe vs, h'.get? e = some oe ∧ oe.cls = .ref C ∧ oe.dict = some d ∧ oe.data = .fields vs ∧ vs[1]? = some .none
  dbig : h.objs.size ≤ d
  dne : d ≠ e
  ns : h'.Ns1 d (fun y => if y = fld then some v else none)
section
variable {prog : Program} {w : World} {A : Around} {E : Value → Shared → Prop}
theorem ini_made {K : Frag} {mg mb : Str → Option Value} {C f : Addr} {qual fld : Str} {es : List Expr} {pa pb p0 p1 p2 p3 p4 p5 q1 q2 q3 q4 : Pos} (T : IniK prog K C f qual fld es pa pb p0 p1 p2 p3 p4 p5 q1 q2 q3 q4) (TE : IniE fld es p0 p1 p2 p3 p4 p5 q1 q2 q3 q4) {s : Shared} {R : Result → Shared → Prop} {v : Value} (hv : VOk v)
    (X : K.In s.heap) (hlim : s.heap.NoLimit) (hroom : A.depth + 1 < recursionLimit) (hg : s.heap.Ns mainGlobals mg) (hb : s.heap.Ns builtinsNs mb) (hmg : mg "super" = none) (hmb : mb "super" = some (.type "super"))
    (hq : ∀ h' tk e d, IniMade s.heap h' e C d fld v → R (.ok (.ret (.ref e))) { s with heap := h', toks := tk }) : codeAny (model prog w) A (.call (.ref C) ⟨[v], []⟩) R s := by
  obtain ⟨nm, N, qn, bs, bm, hdct, sn, sub, ab, col, dd, k0, k1, k2, k3, k5, hC, hT⟩ := excInit_of X T.cls
  rcases s with ⟨hp, g, dr, tk, os⟩
  have kk : ∀ b o, hp.get? b = some o → ((hp.push (kdv_tup [v])).push (excO C hp.objs.size)).get? b = some o := fun b o e => Heap.get?_push_of_some _ (Heap.get?_push_of_some _ e)
  have hget : ((hp.push (kdv_tup [v])).push (excO C hp.objs.size)).get? (hp.objs.size + 1) = some (excO C hp.objs.size) := by heap_get
  have hnx : K.lookup (hp.objs.size + 1) = none := by
    cases e : K.lookup (hp.objs.size + 1) with
    | none => rfl
    | some o =>
      have z := Heap.lt_size (X _ _ e)
      exact absurd z (by show ¬ hp.objs.size + 1 < hp.objs.size; omega)
  refine call_own PySem.F.excBase_ValueError hT hC (looks_findIn X T.ini) (fun self => bind_fn X self T.tf) (by rw [sizeLine_eq]; exact (by decide : 1 ≤ 16777216)) ?_
  refine ini_init (mg := mg) (mb := mb) (s := ⟨(hp.push (kdv_tup [v])).push (excO C hp.objs.size), g, dr, tk, os⟩) T TE hv (X.keeps kk) (hlim.keeps kk) hget hnx ?_ (hg.keeps kk) (hb.keeps kk) hmg hmb fun h' tk' dx t1 k' hx dn dne hns => ?_
  · show A.depth + 1 < recursionLimit
    exact hroom
  · have z : hp.objs.size + 1 + 1 ≤ dx := by
      have q := dn
      rw [Heap.size_push, Heap.size_push] at q
      exact q
    refine ⟨rfl, hq h' tk' (hp.objs.size + 1) dx ⟨fun b o e => k' b o (Nat.ne_of_lt (Nat.lt_succ_of_lt (Heap.lt_size e))) (kk b o e), Nat.le_succ _, ⟨_, _, hx, rfl, rfl, rfl, rfl⟩, by show hp.objs.size ≤ dx; omega, dne, hns⟩⟩
end
end Z
namespace Z
open PySem L2
theorem relO_one {fld : Str} {v : V} {v' : Value} (r : RelV v v') (f : Str) : RelO (List.lookup f [(fld, v)]) (if f = fld then some v' else none) := by
  by_cases h : f = fld
  · subst h
    rw [if_pos rfl, show List.lookup f [(f, v)] = some v by simp [List.lookup]]
    exact r
  · have q : (f == fld) = false := beq_eq_false_iff_ne.mpr h
    rw [if_neg h, show List.lookup f [(fld, v)] = none by simp [List.lookup, q]]
    trivial
/-- an int or a text that can be written -/
def VSm : V → Prop
  | .int i => i.natAbs.log2 < 1920
  | .str y => y.length ≤ 100000
  | _ => False
theorem vok_of {y : V} {v : Value} (r : RelV y v) (h : VSm y) : VOk v := by
  cases y with
  | int i => obtain ⟨t, rfl⟩ := r; exact .inl ⟨i, t, rfl, h⟩
  | str x => obtain ⟨t, rfl⟩ := r; exact .inr ⟨x, t, rfl, h⟩
  | _ => exact h.elim
section
variable {X : Cx} {C f : Addr} {qual fld : Str} {es : List Expr} {pa pb p0 p1 p2 p3 p4 p5 q1 q2 q3 q4 : Pos}
def tMkI (C : Addr) (fld : Str) (ta : TA) : St → Hp → XK → Prop := fun σ H Q => ta σ H fun vs H1 => ∃ y, vs = [y] ∧ VSm y ∧ ∀ d, H1 d = none → Q (.ref C) (some d) (upd H1 d (.xd [(fld, y)]))
theorem pmk_ini {a : Expr} {ta : TA} {x : Str} {p pos : Pos} {k : Nat} (T : IniK X.prog X.K C f qual fld es pa pb p0 p1 p2 p3 p4 p5 q1 q2 q3 q4) (TE : IniE fld es p0 p1 p2 p3 p4 p5 q1 q2 q3 q4) (hr : Room k X.A) (hms : X.mg "super" = none) (gC : X.mg x = some (.ref C)) (rC : Raises X (.ref C)) (ha : PA X [a] ta) (hg : Gl X x := by rfl)
    (hdb : (x == ("__debug__" : Str)) = false := by decide) (he : starEach (a :: []) X.env = (false, eval a X.env) :: starEach [] X.env := by rfl) (hpl : (backTo pos (starEach [] X.env)).any (·.1) = false := by rfl) :
    PMk X (.Call (.Name x p) [a] [] pos) (tMkI C fld ta) := by
  intro pins s σ H Q I h
  refine wpAny_Call_Name_kw (ld_glob I hg gC ?_ hdb)
  refine PySem.W.callWith_K (h₀ := X.base) I.ok.mod.kin T.kC (thn (ha.run pos pins s σ H _ I h) fun us s1 hh => ?_) he hpl
  obtain ⟨vs, H1, I1, r1, y, rfl, hy, q1⟩ := hh
  refine ⟨I1.kIn, ?_⟩
  cases r1 with
  | cons rv rn =>
    rename_i v' us'
    cases rn
    show wpAny _ _ (call (.ref C) [v']) _ _ _
    have hlim := I1.nolimit
    obtain ⟨mb, hmb, hbb⟩ := I1.mod.blt
    have hsup : mb "super" = some (.type "super") := (hbb _ (by decide)).trans (by decide +kernel)
    have g1 := I1.mod.glob.keeps I1.bk
    have g2 := hmb.keeps I1.bk
    rcases s1 with ⟨hp, g, dr, tk, os⟩
    refine wpAny_call (ini_made (mg := X.mg) (mb := mb) T TE (vok_of rv hy) I1.kIn hlim (by have := hr.dp; omega) g1 g2 hms hsup fun h' tk' e d M => ?_)
    show MkP X pins σ Q (.ref e) ⟨h', g, dr, tk', os⟩
    obtain ⟨oe, fv, hoe, hc, hd, hdat, h1⟩ := M.obj
    have hns := M.ns
    obtain ⟨G', g1, g2⟩ := restrict h' fun b => decide (b ≠ e)
    have gk : ∀ b, b ≠ e → G'.get? b = h'.get? b := fun b hb => g1 b (decide_eq_true hb)
    have ge : G'.get? e = none := g2 e (by simp)
    have old : ∀ b o, hp.get? b = some o → G'.get? b = some o := fun b o q => (gk b (Nat.ne_of_lt (Nat.lt_of_lt_of_le (Heap.lt_size q) M.new))).trans (M.keep b o q)
    have ob : ObjOk X.prog X.w (upd H1 d (.xd [(fld, y)])) G' d (.xd [(fld, y)]) := ⟨_, hns.at (fun o q => (gk d M.dne).trans q), fun f => relO_one rv f⟩
    have J : Inv X pins σ (upd H1 d (.xd [(fld, y)])) ⟨G', g, dr, tk', os⟩ := I1.laid (t' := tk') old M.dbig ob
    refine ⟨e, oe, fv, ⟨G', g, dr, tk', os⟩, _, .ref C, some d, rfl, J, fun b o q => ?_, ge, hoe, ⟨hc, hd⟩, hdat, h1, ?_, rfl, I1.bare, rC, q1 d (I1.hok.fresh M.dbig)⟩
    · by_cases hb : b = e
      · have q' : G'.get? b = some o := q
        rw [hb, ge] at q'; cases q'
      · exact (gk b hb).symm.trans q
    · rw [upd_ne (Ne.symm M.dne)]
      exact I1.hok.fresh M.new
end
end Z

namespace Z
open PySem L2
/-! ### raise X(e), X with an __init__ that says super().__init__(f'..') -/
def smM : MV → Bool
  | .int i => decide (i.natAbs.log2 < 1920)
  | .str y => decide (y.length ≤ 100000)
  | _ => false
def sRaiseA (c f : Nat) (ma : Ev → M MV) : MS := fun env => bndS (ma env) env fun v s => if smM v = true then .ex env c [(f, v)] s else .bad
section
variable {X : Cx} {T : Tx} {W : WX} {ma : Ev → M MV} {c f : Nat} {C fA : Addr} {qual x : Str} {es : List Expr} {pa pb p0 p1 p2 p3 p4 p5 q1 q2 q3 q4 p pos pos2 : Pos} {a : Expr} {k : Nat}
theorem vsm_of {ρ : List Addr} {H : Hp} {v : MV} {y : V} (r : RV T ρ H v y) (h : smM v = true) : VSm y := by
  cases v with
  | int i =>
    cases r
    show i.natAbs.log2 < 1920
    exact of_decide_eq_true h
  | str s =>
    cases r
    show s.length ≤ 100000
    exact of_decide_eq_true h
  | _ => cases h
theorem s_raiseA (hc : X.calm = true) (tk : Takes X W) (TI : IniK X.prog X.K (T.cls c) fA qual (fnm f) es pa pb p0 p1 p2 p3 p4 p5 q1 q2 q3 q4) (TE : IniE (fnm f) es p0 p1 p2 p3 p4 p5 q1 q2 q3 q4) (hr : Room k X.A) (hms : X.mg "super" = none) (gC : X.mg x = some (.ref (T.cls c))) (rC : Raises X (.ref (T.cls c))) (hx : T.hasX c = true) (hf : f < 34)
    (ha : PE X a (tE T W ma)) (hg : Gl X x := by rfl) (hdb : (x == ("__debug__" : Str)) = false := by decide) (he : starEach (a :: []) X.env = (false, eval a X.env) :: starEach [] X.env := by rfl) (hpl : (backTo pos (starEach [] X.env)).any (·.1) = false := by rfl) :
    PS X (.Raise (some (.Call (.Name x p) [a] [] pos)) none pos2) (tS T W (sRaiseA c f ma)) :=
  ps_mono (ps_raise hc tk (pmk_ini TI TE hr hms gC rC (pa_cons ha pa_nil he) hg hdb he hpl)) fun D σ H ⟨ρ, st, env, S, E, h⟩ => by
    refine ⟨ρ, st, env, S, E, (OutS.bnd E h).imp fun y H1 ⟨ρ1, s1, v, F1, r1, q1⟩ => ?_⟩
    by_cases hs : smM v = true
    · rw [if_pos hs] at q1
      refine ⟨y, rfl, vsm_of r1 hs, fun d hd => ?_⟩
      have F2 := F1.sim.fresh (o := .xd [(fnm f, y)]) hd
      refine q1 _ _ _ _ _ F2 ((E.later F1.lat).later F2.lat) ⟨rfl, hx, ?_, .inr ⟨d, [y], rfl, by simp, F1.sim.free hd, upd_same, ⟨y, [], rfl, r1.later F2.lat, rfl⟩⟩⟩
      intro p hp
      rw [List.mem_singleton.mp hp]; exact hf
    · rw [if_neg hs] at q1; exact q1.elim
/-- a statement that is never reached -/
def sBad : MS := fun _ _ => .bad
theorem s_bad {st : Stmt} : PS X st (tS T W sBad) := ⟨fun pins s σ H D I ⟨_, _, _, _, _, h⟩ => h.elim⟩
def mBad : Ev → M MV := fun _ _ => .bad
theorem v_bad {e : Expr} : PE X e (tE T W mBad) := ⟨fun pins s σ H Q I ⟨_, _, _, _, _, h⟩ => h.elim⟩
end
/-! ### the handled exception, with fields -/
def mExcI (i : Nat) (b : Bool) : Ev → M MV := fun env s => match env.getD i none with
  | some .exc => .ok (.bl b) s
  | _ => .bad
def mExcF (i f : Nat) (fs : List (Nat × MV)) : Ev → M MV := fun env s => match env.getD i none, lookN f fs with
  | some .exc, some v => .ok v s
  | _, _ => .bad
theorem getD_some {env : Ev} {i : Nat} {m : MV} (e : env.getD i none = some m) : env[i]? = some (some m) := by
  rw [List.getD_eq_getElem?_getD] at e
  cases q : env[i]? with
  | none => rw [q] at e; cases e
  | some o => rw [q] at e; simp at e; rw [e]
section
variable {X : Cx} {T : Tx} {a : Addr} {oe : Obj} {pn : List (Addr × Obj)} {cl : Value} {d : Option Addr} {c : Nat} {fs : List (Nat × MV)} {x : Str} {px p pos : Pos} {ce : Expr}
/-- the exception's object, as the suite holds it -/
theorem exc_inst {pins : List (Addr × Obj)} {s : Shared} {σ : St} {H : Hp} {D : Addr} (I : Inv (X.suite a ((a, oe) :: pn)) pins σ H s) (hz : Zc (.ref D) d oe) (hf : ∃ vs, oe.data = .fields vs) (hd : d = none ∨ ∃ dd gs, d = some dd ∧ H dd = some (.xd gs)) : ∃ od, PySem.W.InstAt s.heap a oe D od := by
  obtain ⟨hget, _⟩ := I.pin (a, oe) (List.mem_append.mpr (.inl List.mem_cons_self))
  obtain ⟨vs, hv⟩ := hf
  have hnc : PySem.W.notCls oe = true := by unfold PySem.W.notCls; rw [hv]
  rcases hd with rfl | ⟨dd, gs, rfl, e⟩
  · refine ⟨none, hget, hz.1, hnc, ?_⟩
    rw [hz.2]; trivial
  · obtain ⟨mA, hns, _⟩ := (show ObjOk X.prog X.w H s.heap dd (.xd gs) from I.hok dd _ e)
    obtain ⟨od, ho, _⟩ := lookIn_ns hns
    exact ⟨some od, hget, hz.1, hnc, by rw [hz.2]; exact ho⟩
theorem clsIn_some {K : PySem.W.Frag} {D : Addr} (h : PySem.W.hasDictIn K D = true) : (PySem.W.clsIn K D).isSome = true := by
  obtain ⟨cd, e, _⟩ := PySem.W.any_some h
  rw [e]; rfl
theorem exc_rx {ρ : List Addr} {st : Sto} {H : Hp} {σ : St} {env : Ev} {i : Nat} (S : Sim (T.on c fs cl d a) ρ st H) (E : REnv (T.on c fs cl d a) ρ H env σ) (h : env[i]? = some (some .exc)) : RX (T.on c fs cl d a) ρ H c fs cl d ∧ σ[i]? = some (some (.ref a)) := by
  refine ⟨S.exc c fs cl d a rfl, ?_⟩
  obtain ⟨v, q1, q2⟩ := E.get h
  rcases q2 with q2 | ⟨_, c', fs', cl', d', a', e, ev⟩
  · exact q2.elim
  · cases e
    rw [q1, ev]
theorem rx_dict {T : Tx} {ρ : List Addr} {H : Hp} (r : RX T ρ H c fs cl d) : d = none ∨ ∃ dd gs, d = some dd ∧ H dd = some (.xd gs) := by
  rcases r.2.2.2 with ⟨_, h⟩ | ⟨dd, vs, e, _, _, h, _⟩
  · exact .inl h
  · exact .inr ⟨dd, _, e, h⟩
theorem v_excI (i : Nat) {w : V} {cv : Value} {b : Bool} (hC : ∀ c, T.hasX c = true → ExcC X.K (T.cls c)) (hb : T.hasX c = true → PySem.W.kitOne X.K (.ref (T.cls c)) cv = some b) (hz : Zc cl d oe) (hf : ∃ vs, oe.data = .fields vs) (hw : ClsV w cv)
    (hx : PE (X.suite a ((a, oe) :: pn)) (.Name x px) (fun σ H Q => ∃ v, σ[i]? = some (some v) ∧ Q v H)) (hc : PE (X.suite a ((a, oe) :: pn)) ce (tC w)) (hm : X.mg "isinstance" = none) (hg : Gl X "isinstance" := by rfl)
    (he : starEach (.Name x px :: [ce]) X.env = (false, eval (.Name x px) X.env) :: starEach [ce] X.env := by rfl) (he2 : starEach (ce :: []) X.env = (false, eval ce X.env) :: starEach [] X.env := by rfl) (hpl : (backTo pos (starEach [ce] X.env)).any (·.1) = false := by rfl) :
    PE (X.suite a ((a, oe) :: pn)) (.Call (.Name "isinstance" p) [.Name x px, ce] [] pos) (tE (T.on c fs cl d a) WF (mExcI i b)) := by
  refine ⟨fun pins s σ H Q I ⟨ρ, st, env, S, E, h⟩ => ?_⟩
  unfold mExcI at h
  cases e : env.getD i none with
  | none => rw [e] at h; exact h.elim
  | some m =>
    rw [e] at h
    cases m with
    | exc =>
      obtain ⟨R, hs⟩ := exc_rx S E (getD_some e)
      obtain ⟨ecl, hx1, _⟩ := id R
      have ecl' : cl = .ref (T.cls c) := ecl
      subst ecl'
      have K := hC c hx1
      have call : CallR (X.suite a ((a, oe) :: pn)) (.builtin "isinstance") (fun xs H' Q' => xs = [.ref a, w] ∧ (d = none ∨ ∃ dd gs, d = some dd ∧ H' dd = some (.xd gs)) ∧ Q' (.bl b) H') := by
        intro pins s σ H' xs us Q' I r ⟨e1, hd, q⟩
        subst e1
        obtain ⟨u1, u2, rfl, r1, r2⟩ := vals2 r
        cases (show u1 = Value.ref a from r1)
        have e3 := hw.eq r2
        subst e3
        obtain ⟨od, J⟩ := exc_inst I hz hf hd
        exact PySem.W.kia_one (PySem.W.kitx_exc (clsIn_some K.hd) K.hg K.hk K.hs K.ha K.hn K.ht K.hm) I.kIn J (hb hx1) (fun z => nomatch z) fun tk => ⟨.bl b, H', I.kept (t' := tk) fun _ _ z => z, rfl, q⟩
      exact (pe_callB (X := X.suite a ((a, oe) :: pn)) call hg hm rfl (pa_cons hx (pa_cons hc pa_nil he2) he) (by decide) (by decide) he hpl).run pins s σ H Q I ⟨_, hs, rfl, rx_dict R, h ρ H _ (Fut.refl S) rfl⟩
    | _ => exact h.elim
theorem v_excIT (i : Nat) {ws : List V} {cvs : List Value} {es : List Expr} {b : Bool} {k : Nat} {p2 : Pos} (hC : ∀ c, T.hasX c = true → ExcC X.K (T.cls c)) (hb : T.hasX c = true → PySem.W.kitAny X.K (.ref (T.cls c)) cvs = some b) (hz : Zc cl d oe) (hf : ∃ vs, oe.data = .fields vs) (hw : Paired ClsV ws cvs)
    (hx : PE (X.suite a ((a, oe) :: pn)) (.Name x px) (fun σ H Q => ∃ v, σ[i]? = some (some v) ∧ Q v H)) (hc : PA (X.suite a ((a, oe) :: pn)) es (fun _ H Q => Q ws H)) (hl : ws.length ≤ 1000) (hm : X.mg "isinstance" = none) (hg : Gl X "isinstance" := by rfl)
    (he : starEach (.Name x px :: [.Tuple es k p2]) X.env = (false, eval (.Name x px) X.env) :: starEach [.Tuple es k p2] X.env := by rfl) (he2 : starEach (.Tuple es k p2 :: []) X.env = (false, eval (.Tuple es k p2) X.env) :: starEach [] X.env := by rfl) (hpl : (backTo pos (starEach [.Tuple es k p2] X.env)).any (·.1) = false := by rfl) :
    PE (X.suite a ((a, oe) :: pn)) (.Call (.Name "isinstance" p) [.Name x px, .Tuple es k p2] [] pos) (tE (T.on c fs cl d a) WF (mExcI i b)) := by
  refine ⟨fun pins s σ H Q I ⟨ρ, st, env, S, E, h⟩ => ?_⟩
  unfold mExcI at h
  cases e : env.getD i none with
  | none => rw [e] at h; exact h.elim
  | some m =>
    rw [e] at h
    cases m with
    | exc =>
      obtain ⟨R, hs⟩ := exc_rx S E (getD_some e)
      obtain ⟨ecl, hx1, _⟩ := id R
      have ecl' : cl = .ref (T.cls c) := ecl
      subst ecl'
      have K := hC c hx1
      have call : CallR (X.suite a ((a, oe) :: pn)) (.builtin "isinstance") (fun xs H' Q' => ∃ tp, xs = [.ref a, .ref tp] ∧ H' tp = some (.tup ws) ∧ (d = none ∨ ∃ dd gs, d = some dd ∧ H' dd = some (.xd gs)) ∧ Q' (.bl b) H') := by
        intro pins s σ H' xs us Q' I r ⟨tp, e1, hT, hd, q⟩
        subst e1
        obtain ⟨u1, u2, rfl, r1, r2⟩ := vals2 r
        cases (show u1 = Value.ref a from r1)
        cases (show u2 = Value.ref tp from r2)
        obtain ⟨od, J⟩ := exc_inst I hz hf hd
        obtain ⟨_, its, rv, o, h1, h2, n, h3⟩ := (show ObjOk X.prog X.w H' s.heap tp (.tup ws) from I.hok tp _ hT)
        have e3 := ClsV.all hw rv
        subst e3
        rcases o with ⟨oc, od, dt, sl⟩
        simp only at h2 h3
        subst h2 h3
        exact PySem.W.kia_tup (PySem.W.kitx_exc (clsIn_some K.hd) K.hg K.hk K.hs K.ha K.hn K.ht K.hm) I.kIn J h1 (hb hx1) (fun z => nomatch z) fun tk => ⟨.bl b, H', I.kept (t' := tk) fun _ _ z => z, rfl, q⟩
      refine (pe_callB (X := X.suite a ((a, oe) :: pn)) call hg hm rfl (pa_cons hx (pa_cons (pe_tup hc) pa_nil he2) he) (by decide) (by decide) he hpl).run pins s σ H Q I ⟨_, hs, Nat.le_trans hl (by decide), fun tp hp => ?_⟩
      have F := S.fresh (o := .tup ws) hp
      exact ⟨tp, rfl, upd_same, rx_dict (R.later F.lat), h ρ _ _ F rfl⟩
    | _ => exact h.elim
theorem v_excF (i f : Nat) {n : Str} (hX : ∀ c, T.hasX c = true → XfC X.K (T.cls c)) (hno : T.hasX c = true → PySem.W.findIn X.K (.ref (T.cls c)) n = some none) (hz : Zc cl d oe) (hf : ∃ vs, oe.data = .fields vs) (h34 : f < 34)
    (hx : PE (X.suite a ((a, oe) :: pn)) (.Name x px) (fun σ H Q => ∃ v, σ[i]? = some (some v) ∧ Q v H)) (hn : n = fnm f := by rfl) (hb : attributeBase (.Name x px) n X.env (eval (.Name x px) X.env) = eval (.Name x px) X.env := by rfl) :
    PE (X.suite a ((a, oe) :: pn)) (.Attribute (.Name x px) n pos) (tE (T.on c fs cl d a) WF (mExcF i f fs)) := by
  refine ⟨fun pins s σ H Q I ⟨ρ, st, env, S, E, h⟩ => ?_⟩
  unfold mExcF at h
  cases e : env.getD i none with
  | none => rw [e] at h; exact h.elim
  | some m =>
    rw [e] at h
    cases m with
    | exc =>
      cases el : lookN f fs with
      | none => rw [el] at h; exact h.elim
      | some v =>
        rw [el] at h
        obtain ⟨R, hs⟩ := exc_rx S E (getD_some e)
        obtain ⟨ecl, hx1, h3, h4⟩ := id R
        have ecl' : cl = .ref (T.cls c) := ecl
        subst ecl'
        rcases h4 with ⟨h4, _⟩ | ⟨dd, vs, rfl, _, _, hH, rv⟩
        · subst h4; cases el
        · subst hn
          rw [lookN_zip] at el
          obtain ⟨u, l1, l2⟩ := zip_lookup h34 (fun j hj => by
            obtain ⟨q, hq, rfl⟩ := List.mem_map.mp hj
            exact h3 q hq) rv el
          rw [List.map_map] at l1
          exact (pe_xf (hX c hx1) (hno hx1) hz hf hx hb).run pins s σ H Q I ⟨_, hs, rfl, rfl, dd, _, u, rfl, hH, l1, h ρ H u (Fut.refl S) l2⟩
    | _ => exact h.elim
end
end Z

namespace Z
open PySem L2
/-! ### methods of lists and texts -/
def mMB (ok : Sto → MV → Bool) (f : MV → List MV → M MV) (mo : Ev → M MV) (as : Ev → M (List MV)) : Ev → M MV := fun env => M.bnd (mo env) fun x s => if ok s x = true then M.bnd (as env) (f x) s else .bad
def rMB (T : Tx) (f : MV → List MV → M MV) : V → List V → Hp → VK → Prop := fun x xs H Q => ∃ (W : WX) (σ : St) (ρ : List Addr) (st : Sto) (a : MV) (ms : List MV), Sim T ρ st H ∧ RV T ρ H a x ∧ RVs T ρ H ms xs ∧ Out T W (RV T) ρ H σ (f a ms st) Q
section
variable {X : Cx} {T : Tx} {W : WX} {ma : Ev → M MV} {as : Ev → M (List MV)} {o e : Expr} {es : List Expr} {name : Str} {apos cpos : Pos} {Ty id : String} {ok : Sto → MV → Bool} {f : MV → List MV → M MV}
theorem mb_red {σ : St} {H : Hp} {Q : VK} (hok : ∀ (ρ : List Addr) (st : Sto) (H : Hp) (a : MV) (x : V), Sim T ρ st H → RV T ρ H a x → ok st a = true → L2.tyV X.K Ty x H) (h : tE T W (mMB ok f ma as) σ H Q) : tBM X.K Ty (rMB T f) (tE T W ma) (tA T W as) σ H Q := by
  obtain ⟨ρ, st, env, S, E, h⟩ := h
  refine ⟨ρ, st, env, S, E, h.bnd.imp fun x H1 ⟨ρ1, s1, a, F1, r1, q1⟩ => ?_⟩
  by_cases hk : ok s1 a = true
  · rw [if_pos hk] at q1
    refine ⟨hok ρ1 s1 H1 a x F1.sim r1 hk, ρ1, s1, env, F1.sim, E.later F1.lat, (Out.bnd q1).imp fun xs H2 ⟨ρ2, s2, ms, F2, r2, q2⟩ => ?_⟩
    exact ⟨W, σ, ρ2, s2, a, ms, F2.sim, r1.later F2.lat, r2, q2⟩
  · rw [if_neg hk] at q1; exact q1.elim
theorem v_mb (pa : PlainAttrs Ty) (slot : Slot Ty name id) (hty : typeOf (.builtin id) = pure (.type "method_descriptor")) (hm : MtR X id (rMB T f)) (hok : ∀ (ρ : List Addr) (st : Sto) (H : Hp) (a : MV) (x : V), Sim T ρ st H → RV T ρ H a x → ok st a = true → L2.tyV X.K Ty x H)
    (ho : PE X o (tE T W ma)) (ha : PA X (e :: es) (tA T W as)) (hbase : attributeBase o name X.env (eval o X.env) = eval o X.env := by rfl)
    (hfew : ((backTo cpos (starEach (e :: es) X.env)).all (fun x => !x.1) && (backToKw cpos (keywordEach [] X.env)).all (fun x => x.1.isSome)
      && decide ((e :: es).length + ([] : List Keyword).length + (if ([] : List Keyword).isEmpty then 0 else 1) < 30)) = true := by rfl)
    (hline : (apos.endLine == cpos.line) = true := by rfl) (hs : starEach (e :: es) X.env = (false, eval e X.env) :: starEach es X.env := by rfl) (hplain : (backTo cpos (starEach es X.env)).any (·.1) = false := by rfl) :
    PE X (.Call (.Attribute o name apos) (e :: es) [] cpos) (tE T W (mMB ok f ma as)) := pe_mono (pe_bm pa slot hty hm ho ha hbase hfew hline hs hplain) fun σ H Q h => mb_red hok h
theorem v_mb0 (pa : PlainAttrs Ty) (slot : Slot Ty name id) (hty : typeOf (.builtin id) = pure (.type "method_descriptor")) (hm : MtR X id (rMB T f)) (hok : ∀ (ρ : List Addr) (st : Sto) (H : Hp) (a : MV) (x : V), Sim T ρ st H → RV T ρ H a x → ok st a = true → L2.tyV X.K Ty x H)
    (ho : PE X o (tE T W ma)) (hbase : attributeBase o name X.env (eval o X.env) = eval o X.env := by rfl) (hline : (apos.endLine == cpos.line) = true := by rfl) :
    PE X (.Call (.Attribute o name apos) [] [] cpos) (tE T W (mMB ok f ma mNil)) := pe_mono (pe_bm0 pa slot hty hm ho hbase hline) fun σ H Q h => by
  obtain ⟨ρ, st, env, S, E, h⟩ := mb_red hok h
  refine ⟨ρ, st, env, S, E, h.imp fun x H1 ⟨ty, ρ1, s1, env1, S1, E1, q1⟩ => ⟨ty, ?_⟩⟩
  exact q1 ρ1 H1 [] (Fut.refl S1) rfl
/-! lists -/
def isLs (s : Sto) (x : MV) : Bool := (listOf s x).isSome
theorem ls_ty (ρ : List Addr) (st : Sto) (H : Hp) (a : MV) (x : V) (S : Sim T ρ st H) (r : RV T ρ H a x) (h : isLs st a = true) : L2.tyV X.K "list" x H := by
  unfold isLs at h
  cases e : listOf st a with
  | none => rw [e] at h; cases h
  | some xs =>
    obtain ⟨p, ys, rfl, z, _⟩ := list_of S r e
    exact .inl ⟨rfl, ys, SqL.of z⟩
/-- the cell at x, changed -/
def onLs (x : MV) (g : List MV → Option (MV × List MV)) : M MV := fun s => match x with
  | .ref n => match s[n]? with
    | some (.lst xs) => match g xs with
      | some (v, ys) => .ok v (s.set n (.lst ys))
      | none => .bad
    | _ => .bad
  | _ => .bad
theorem onLs_out {x : MV} {g : List MV → Option (MV × List MV)} {ρ : List Addr} {st : Sto} {H : Hp} {σ : St} {Q : VK} {y : V} (S : Sim T ρ st H) (r : RV T ρ H x y) (h : Out T W (RV T) ρ H σ (onLs x g st) Q) :
    ∃ a xs zs v ys, y = .ref a ∧ H a = some (.lst zs) ∧ RVs T ρ H xs zs ∧ g xs = some (v, ys) ∧ ∀ u ws, RV T ρ H v u → RVs T ρ H ys ws → Q u (upd H a (.lst ws)) := by
  unfold onLs at h
  cases x with
  | ref n =>
    simp only at h
    cases e : st[n]? with
    | none => rw [e] at h; exact h.elim
    | some c =>
      rw [e] at h
      cases c with
      | lst xs =>
        simp only at h
        cases eg : g xs with
        | none => rw [eg] at h; exact h.elim
        | some p =>
          obtain ⟨v, ys⟩ := p
          rw [eg] at h
          obtain ⟨a, ea, rfl⟩ := r
          obtain ⟨zs, ez, rz⟩ := S.cell n a _ ea e
          refine ⟨a, xs, zs, v, ys, rfl, ez, rz, eg, fun u ws ru rw => ?_⟩
          have F := S.set (c := .lst ys) (o := .lst ws) ea fun ρ' H' L => ⟨ws, rfl, rw.later L⟩
          exact h _ _ u F (ru.later F.lat)
      | _ => exact h.elim
  | _ => exact h.elim
def fAppend (x : MV) (as : List MV) : M MV := match as with
  | [y] => onLs x fun xs => if xs.length < line then some (.non, xs ++ [y]) else none
  | _ => fun _ => .bad
theorem ok_append : MtR X "list.append" (rMB T fAppend) := by
  intro pins s σ H x vs v us Q I rx rv ⟨W, σ', ρ, st, a, ms, S, ra, rm, h⟩
  unfold fAppend at h
  split at h
  · rename_i y
    obtain ⟨p, xs, zs, v0, ys, rfl, hz, rz, eg, q⟩ := onLs_out S ra h
    obtain ⟨w, rfl, ry⟩ := rvs1 rm
    split at eg
    · rename_i hl
      cases eg
      exact mt_append pins s σ H _ _ v us Q I rx rv ⟨p, zs, w, rfl, rfl, hz, by rw [← rz.length]; exact line_lt hl, q .non _ rfl (rz.append (RVs.one ry))⟩
    · cases eg
  · exact h.elim
def fExtend (x : MV) (as : List MV) : M MV := match as with
  | [y] => fun s => match listOf s y with
    | some zs => onLs x (fun xs => if xs.length + zs.length ≤ line then some (.non, xs ++ zs) else none) s
    | none => .bad
  | _ => fun _ => .bad
theorem ok_extend : MtR X "list.extend" (rMB T fExtend) := by
  intro pins s σ H x vs v us Q I rx rv ⟨W, σ', ρ, st, a, ms, S, ra, rm, h⟩
  unfold fExtend at h
  split at h
  · rename_i y
    cases e : listOf st y with
    | none => simp only [e] at h; exact h.elim
    | some zs' =>
      simp only [e] at h
      obtain ⟨p, xs, zs, v0, ys, rfl, hz, rz, eg, q⟩ := onLs_out S ra h
      obtain ⟨w, rfl, ry⟩ := rvs1 rm
      obtain ⟨b, us', rfl, hb, rb⟩ := list_of S ry e
      split at eg
      · rename_i hl
        cases eg
        exact mt_extend pins s σ H _ _ v us Q I rx rv ⟨p, b, zs, us', rfl, rfl, hz, hb, by rw [← rz.length, ← rb.length]; exact line_le hl, q .non _ rfl (rz.append rb)⟩
      · cases eg
  · exact h.elim
def fPop (x : MV) (as : List MV) : M MV := match as with
  | [] => onLs x fun xs => match xs[xs.length - 1]? with
    | some y => some (y, xs.dropLast)
    | none => none
  | _ => fun _ => .bad
theorem RVs.dropLast {ρ : List Addr} {H : Hp} {ms : List MV} {vs : List V} (r : RVs T ρ H ms vs) : RVs T ρ H ms.dropLast vs.dropLast := by
  rw [List.dropLast_eq_take, List.dropLast_eq_take, r.length]
  exact r.take _
theorem ok_pop : MtR X "list.pop" (rMB T fPop) := by
  intro pins s σ H x vs v us Q I rx rv ⟨W, σ', ρ, st, a, ms, S, ra, rm, h⟩
  unfold fPop at h
  split at h
  · obtain ⟨p, xs, zs, v0, ys, rfl, hz, rz, eg, q⟩ := onLs_out S ra h
    cases rm
    split at eg
    · rename_i y hy
      cases eg
      obtain ⟨w, hw, rw⟩ := rz.get hy
      rw [rz.length] at hw
      exact mt_pop pins s σ H _ _ v us Q I rx rv ⟨p, zs, w, rfl, rfl, hz, hw, q w _ rw rz.dropLast⟩
    · cases eg
  · exact h.elim
def fPopAt (x : MV) (as : List MV) : M MV := match as with
  | [.int i] => onLs x fun xs => match ixN xs.length i with
    | some k => match xs[k]? with
      | some y => if small i = true then some (y, xs.eraseIdx k) else none
      | none => none
    | none => none
  | _ => fun _ => .bad
theorem ok_popAt : MtR X "list.pop" (rMB T fPopAt) := by
  intro pins s σ H x vs v us Q I rx rv ⟨W, σ', ρ, st, a, ms, S, ra, rm, h⟩
  unfold fPopAt at h
  split at h
  · rename_i i
    obtain ⟨p, xs, zs, v0, ys, rfl, hz, rz, eg, q⟩ := onLs_out S ra h
    obtain ⟨w, rfl, ry⟩ := rvs1 rm
    cases ry
    cases ek : ixN xs.length i with
    | none => rw [ek] at eg; cases eg
    | some k =>
      rw [ek] at eg
      simp only at eg
      cases ey : xs[k]? with
      | none => rw [ey] at eg; cases eg
      | some y =>
        rw [ey] at eg
        simp only at eg
        by_cases hs : small i = true
        · rw [if_pos hs] at eg; cases eg
          obtain ⟨w, hw, rw⟩ := rz.get ey
          have sm := small_of hs
          have ek' : ixN zs.length i = some k := by rw [← rz.length]; exact ek
          exact mt_popAt pins s σ H _ _ v us Q I rx rv ⟨p, zs, i, k, w, rfl, rfl, hz, by omega, by omega, (ixN_seq ek').1, hw, q w _ rw (rz.erase k)⟩
        · rw [if_neg hs] at eg; cases eg
  · exact h.elim
def fInsert (x : MV) (as : List MV) : M MV := match as with
  | [.int i, y] => onLs x fun xs => if xs.length < line ∧ 0 ≤ i ∧ i < 1000000000 then some (.non, xs.take i.toNat ++ [y] ++ xs.drop i.toNat) else none
  | _ => fun _ => .bad
theorem ok_insert : MtR X "list.insert" (rMB T fInsert) := by
  intro pins s σ H x vs v us Q I rx rv ⟨W, σ', ρ, st, a, ms, S, ra, rm, h⟩
  unfold fInsert at h
  split at h
  · rename_i i y
    obtain ⟨p, xs, zs, v0, ys, rfl, hz, rz, eg, q⟩ := onLs_out S ra h
    obtain ⟨w, w', rfl, ri, ry⟩ := rvs2 rm
    cases ri
    split at eg
    · rename_i hl
      cases eg
      exact mt_insert pins s σ H _ _ v us Q I rx rv ⟨p, zs, i, w', rfl, rfl, hz, by rw [← rz.length]; exact line_lt hl.1, hl.2.1, by omega, q .non _ rfl (((rz.take _).append (RVs.one ry)).append (rz.drop _))⟩
    · cases eg
  · exact h.elim
/-- the first place of an equal item: flat items alone -/
def findM (y : MV) : List MV → Option Nat
  | [] => none
  | x :: xs => if flatEq x y then some 0 else (findM y xs).map (· + 1)
theorem findM_spec {y : MV} : ∀ {xs : List MV} {j : Nat}, findM y xs = some j → (∃ z, xs[j]? = some z ∧ flatEq z y = true) ∧ ∀ m z', m < j → xs[m]? = some z' → flatEq z' y = false
  | [], j, h => by cases h
  | x :: xs, j, h => by
    unfold findM at h
    by_cases e : flatEq x y = true
    · rw [if_pos e] at h; cases h
      exact ⟨⟨x, rfl, e⟩, fun m z' hm => absurd hm (by omega)⟩
    · rw [if_neg e] at h
      cases q : findM y xs with
      | none => rw [q] at h; cases h
      | some k =>
        rw [q] at h; cases h
        obtain ⟨⟨z, h1, h2⟩, h3⟩ := findM_spec q
        refine ⟨⟨z, by simpa using h1, h2⟩, fun m z' hm hz => ?_⟩
        cases m with
        | zero => simp at hz; subst hz; simpa using e
        | succ m =>
          have hm' : m + 1 < k + 1 := hm
          exact h3 m z' (by omega) (by simpa using hz)
def fIndex (x : MV) (as : List MV) : M MV := match as with
  | [y] => fun s => match listOf s x with
    | some xs => if flatM y && xs.all flatM then match findM y xs with
        | some j => .ok (.int (j : Nat)) s
        | none => .bad
      else .bad
    | none => .bad
  | _ => fun _ => .bad
theorem ok_index : MtR X "list.index" (rMB T fIndex) := by
  intro pins s σ H x vs v us Q I rx rv ⟨W, σ', ρ, st, a, ms, S, ra, rm, h⟩
  unfold fIndex at h
  split at h
  · rename_i y
    cases e : listOf st a with
    | none => simp only [e] at h; exact h.elim
    | some xs =>
      simp only [e] at h
      obtain ⟨w, rfl, ry⟩ := rvs1 rm
      obtain ⟨p, zs, rfl, hz, rz⟩ := list_of S ra e
      by_cases hf : (flatM y && xs.all flatM) = true
      · rw [if_pos hf] at h
        obtain ⟨f1, f2⟩ := Bool.and_eq_true_iff.mp hf
        cases ej : findM y xs with
        | none => rw [ej] at h; exact h.elim
        | some j =>
          rw [ej] at h
          obtain ⟨⟨z, h1, h2⟩, h3⟩ := findM_spec ej
          obtain ⟨u, hu, ru⟩ := rz.get h1
          have fz : ∀ {m : Nat} {z : MV}, xs[m]? = some z → flatM z = true := fun e => List.all_eq_true.mp f2 _ (List.mem_of_getElem? e)
          refine mt_index pins s σ H _ _ v us Q I rx rv ⟨p, zs, w, j, u, rfl, rfl, SqL.of hz, flat_of ry f1, flat_all rz f2, hu, ?_, fun m z' hm hz' => ?_, h ρ H _ (Fut.refl S) rfl⟩
          · rw [flat_eq ru ry (fz h1) f1]; exact h2
          · obtain ⟨m', e1, e2⟩ := rz.getV hz'
            rw [flat_eq e2 ry (fz e1) f1]; exact h3 m m' hm e1
      · rw [if_neg hf] at h; exact h.elim
  · exact h.elim
/-! texts -/
def isSt (_ : Sto) (x : MV) : Bool := match x with
  | .str _ => true
  | _ => false
theorem st_ty (ρ : List Addr) (st : Sto) (H : Hp) (a : MV) (x : V) (S : Sim T ρ st H) (r : RV T ρ H a x) (h : isSt st a = true) : L2.tyV X.K "str" x H := by
  cases a with
  | str z => cases r; rfl
  | _ => cases h
def strsOf : List MV → Option (List Str)
  | [] => some []
  | .str z :: xs => (strsOf xs).map (z :: ·)
  | _ :: _ => none
theorem strs_rel {ρ : List Addr} {H : Hp} : ∀ {ms : List MV} {ys : List Str} {vs : List V}, strsOf ms = some ys → RVs T ρ H ms vs → vs = ys.map V.str
  | [], ys, vs, h, r => by cases h; cases r; rfl
  | m :: ms, ys, vs, h, r => by
    cases m with
    | str z =>
      unfold strsOf at h
      cases e : strsOf ms with
      | none => rw [e] at h; cases h
      | some zs =>
        rw [e] at h; cases h
        obtain ⟨v, us, rfl, r1, r2⟩ := r
        cases r1
        rw [strs_rel e r2]; rfl
    | _ => cases h
def fJoin (x : MV) (as : List MV) : M MV := match x, as with
  | .str a, [y] => fun s => match seqOf s y with
    | some xs => match strsOf xs with
      | some ys => if (ys.map (·.length)).sum + ys.length * a.length ≤ 16000000 then .ok (.str (Txt.join a ys)) s else .bad
      | none => .bad
    | none => .bad
  | _, _ => fun _ => .bad
theorem ok_join (hK : T.K = X.K) : MtR X "str.join" (rMB T fJoin) := by
  intro pins s σ H x vs v us Q I rx rv ⟨W, σ', ρ, st, a, ms, S, ra, rm, h⟩
  unfold fJoin at h
  split at h
  · rename_i z y
    cases e : seqOf st y with
    | none => simp only [e] at h; exact h.elim
    | some xs =>
      simp only [e] at h
      cases e2 : strsOf xs with
      | none => rw [e2] at h; exact h.elim
      | some ys =>
        rw [e2] at h
        simp only at h
        split at h
        · rename_i hl
          obtain ⟨w, rfl, ry⟩ := rvs1 rm
          obtain ⟨p, zs, rfl, hq, rz⟩ := seq_of S ry e
          have ez := strs_rel e2 rz
          subst ez
          cases ra
          exact mt_join pins s σ H _ _ v us Q I rx rv ⟨z, p, ys, rfl, rfl, hK ▸ hq, by omega, h ρ H _ (Fut.refl S) rfl⟩
        · exact h.elim
  · exact h.elim
def fWords (fr : Bool) (x : MV) (as : List MV) : M MV := match x, as with
  | .str a, [] => if a.length + 2 ≤ line then mkList fr ((Txt.words a).map .str) else fun _ => .bad
  | _, _ => fun _ => .bad
theorem strs_rvs {ρ : List Addr} {H : Hp} : ∀ ys : List Str, RVs T ρ H (ys.map .str) (ys.map V.str)
  | [] => rfl
  | y :: ys => ⟨_, _, rfl, rfl, strs_rvs ys⟩
theorem ok_words (fr : Bool) : MtR X "str.split" (rMB T (fWords fr)) := by
  intro pins s σ H x vs v us Q I rx rv ⟨W, σ', ρ, st, a, ms, S, ra, rm, h⟩
  unfold fWords at h
  split at h
  · rename_i z
    split at h
    · rename_i hl
      cases ra; cases rm
      exact mt_words pins s σ H _ _ v us Q I rx rv ⟨z, rfl, rfl, Nat.le_trans hl (by decide), mk_out S h (strs_rvs _)⟩
    · exact h.elim
  · exact h.elim
end
end Z

namespace Z
open PySem PySem.Spec PyProof.Rows L2
/-! ### constants of the module -/
def cGint (x : Str) (i : Int) : Fc := fun K => match PySem.W.nsIn K mainGlobals x with
  | some (some (.int j _)) => decide (j = i)
  | _ => false
def cGstr (x : Str) (y : Str) : Fc := fun K => match PySem.W.nsIn K mainGlobals x with
  | some (some (.str z _)) => decide (z = y)
  | _ => false
section
variable {fs : List Fc} {fn : List He.DefD} {K : PySem.W.Frag} {mg : Str → Option Value} {x : Str}
theorem TxtZ.gint (T : TxtZ fs fn K mg) {i : Int} (k : Nat) (h : fs[k]? = some (cGint x i) := by rfl) : ∃ t, mg x = some (.int i t) := by
  have c := T.c.fc k h
  unfold cGint at c
  split at c
  · rename_i j t e
    have := of_decide_eq_true c
    subst this
    exact ⟨t, T.g _ _ e⟩
  · cases c
theorem TxtZ.gstr (T : TxtZ fs fn K mg) {y : Str} (k : Nat) (h : fs[k]? = some (cGstr x y) := by rfl) : ∃ t, mg x = some (.str y t) := by
  have c := T.c.fc k h
  unfold cGstr at c
  split at c
  · rename_i j t e
    have := of_decide_eq_true c
    subst this
    exact ⟨t, T.g _ _ e⟩
  · cases c
end
section
variable {X : Cx} {T : Tx} {W : WX} {x : Str} {pos : Pos}
theorem v_gint {i : Int} (h : ∃ t, X.mg x = some (.int i t)) (hg : Gl X x := by rfl) (hd : (x == ("__debug__" : Str)) = false := by decide) : PE X (.Name x pos) (tE T W (mC (.int i))) := by
  obtain ⟨t, h⟩ := h
  exact v_c (w := .int i) (pe_glob hg h ⟨t, rfl⟩ hd) fun _ _ => rfl
theorem v_gstr {y : Str} (h : ∃ t, X.mg x = some (.str y t)) (hg : Gl X x := by rfl) (hd : (x == ("__debug__" : Str)) = false := by decide) : PE X (.Name x pos) (tE T W (mC (.str y))) := by
  obtain ⟨t, h⟩ := h
  exact v_c (w := .str y) (pe_glob hg h ⟨t, rfl⟩ hd) fun _ _ => rfl
end
/-- a tuple of texts and ints that stands in the module -/
inductive Gc where
  | int (i : Int) | str (x : Str) | non
def Gc.v : Gc → V
  | .int i => .int i
  | .str x => .str x
  | .non => .non
def Gc.m : Gc → MV
  | .int i => .int i
  | .str x => .str x
  | .non => .non
def cGtup (x : Str) (cs : List Gc) : Fc := fun K => match K.lookup (He.ga K x) with
  | some ⟨.type c, _, .seq its _, _⟩ => isV (PySem.W.nsIn K mainGlobals x) (.ref (He.ga K x)) && decide (c = "tuple") && decide (its.size ≤ 1000) && He.relAll (cs.map Gc.v) its.toList
  | _ => false
section
variable {fs : List Fc} {fn : List He.DefD} {K : PySem.W.Frag} {mg : Str → Option Value} {x : Str}
theorem gc_rvs {T : Tx} {ρ : List Addr} {H : Hp} : ∀ cs : List Gc, RVs T ρ H (cs.map Gc.m) (cs.map Gc.v)
  | [] => rfl
  | c :: cs => ⟨_, _, rfl, by cases c <;> rfl, gc_rvs cs⟩
theorem TxtZ.gtup (T : TxtZ fs fn K mg) {cs : List Gc} (k : Nat) (h : fs[k]? = some (cGtup x cs) := by rfl) : mg x = some (.ref (He.ga K x)) ∧ ∀ (T' : Tx) (ρ : List Addr) (H : Hp), T'.K = K → RV T' ρ H (.tup (cs.map Gc.m)) (.ref (He.ga K x)) := by
  have c := T.c.fc k h
  unfold cGtup at c
  split at c
  · rename_i cl dd its n sl e
    obtain ⟨c, h4⟩ := and2 c
    obtain ⟨c, h3⟩ := and2 c
    obtain ⟨h1, h2⟩ := and2 c
    have hc := of_decide_eq_true h2
    subst hc
    refine ⟨T.g _ _ (isV_ok h1), fun T' ρ H hK => ⟨_, _, rfl, .inr ⟨⟨.type "tuple", dd, .seq its n, sl⟩, its, n, ?_, rfl, rfl, Nat.le_trans (of_decide_eq_true h3) (by decide), He.relAll_ok h4⟩, gc_rvs cs⟩⟩
    rw [hK]; exact e
  · cases c
end
section
variable {X : Cx} {T : Tx} {W : WX} {x : Str} {pos : Pos}
theorem v_gtup {cs : List Gc} {a : Addr} (h : X.mg x = some (.ref a) ∧ ∀ (T' : Tx) (ρ : List Addr) (H : Hp), T'.K = X.K → RV T' ρ H (.tup (cs.map Gc.m)) (.ref a)) (hK : T.K = X.K) (hg : Gl X x := by rfl) (hd : (x == ("__debug__" : Str)) = false := by decide) : PE X (.Name x pos) (tE T W (mC (.tup (cs.map Gc.m)))) :=
  v_c (w := .ref a) (pe_glob hg h.1 rfl hd) fun ρ H => h.2 T ρ H hK
end
/-! ### all, any, sum of a list -/
def blsOf : List MV → Option (List Bool)
  | [] => some []
  | .bl b :: xs => (blsOf xs).map (b :: ·)
  | _ :: _ => none
def intsOf : List MV → Option (List Int)
  | [] => some []
  | .int b :: xs => (intsOf xs).map (b :: ·)
  | _ :: _ => none
section
variable {X : Cx} {T : Tx}
theorem bls_rel {ρ : List Addr} {H : Hp} : ∀ {ms : List MV} {ys : List Bool} {vs : List V}, blsOf ms = some ys → RVs T ρ H ms vs → vs = ys.map V.bl
  | [], ys, vs, h, r => by cases h; cases r; rfl
  | m :: ms, ys, vs, h, r => by
    cases m with
    | bl z =>
      unfold blsOf at h
      cases e : blsOf ms with
      | none => rw [e] at h; cases h
      | some zs =>
        rw [e] at h; cases h
        obtain ⟨v, us, rfl, r1, r2⟩ := r
        cases r1
        rw [bls_rel e r2]; rfl
    | _ => cases h
theorem ints_rel {ρ : List Addr} {H : Hp} : ∀ {ms : List MV} {ys : List Int} {vs : List V}, intsOf ms = some ys → RVs T ρ H ms vs → vs = ys.map V.int
  | [], ys, vs, h, r => by cases h; cases r; rfl
  | m :: ms, ys, vs, h, r => by
    cases m with
    | int z =>
      unfold intsOf at h
      cases e : intsOf ms with
      | none => rw [e] at h; cases h
      | some zs =>
        rw [e] at h; cases h
        obtain ⟨v, us, rfl, r1, r2⟩ := r
        cases r1
        rw [ints_rel e r2]; rfl
    | _ => cases h
def fAll (s : Sto) : List MV → Option MV
  | [x] => (listOf s x).bind fun xs => (blsOf xs).map fun bs => .bl (bs.all id)
  | _ => none
def fAny (s : Sto) : List MV → Option MV
  | [x] => (listOf s x).bind fun xs => (blsOf xs).map fun bs => .bl (bs.any id)
  | _ => none
def fSum (s : Sto) : List MV → Option MV
  | [x] => (listOf s x).bind fun xs => (intsOf xs).map fun bs => .int bs.sum
  | _ => none
theorem ok_all (hc : X.calm = true) : CallR X (.builtin "all") (rF T fAll) := by
  intro pins s σ H xs us Q I r ⟨ρ, st, ms, v, S, rm, e, q⟩
  unfold fAll at e
  split at e
  · obtain ⟨w, rfl, r1⟩ := rvs1 rm
    obtain ⟨xs, e1, e⟩ := Option.bind_eq_some_iff.mp e
    obtain ⟨bs, e2, e⟩ := Option.map_eq_some_iff.mp e
    subst e
    obtain ⟨p, zs, rfl, hz, rz⟩ := list_of S r1 e1
    have ez := bls_rel e2 rz
    subst ez
    exact cr_all hc pins s σ H _ us Q I r ⟨p, bs, rfl, SqL.of hz, q H _ (Fut.refl S) rfl⟩
  · cases e
theorem ok_any (hc : X.calm = true) : CallR X (.builtin "any") (rF T fAny) := by
  intro pins s σ H xs us Q I r ⟨ρ, st, ms, v, S, rm, e, q⟩
  unfold fAny at e
  split at e
  · obtain ⟨w, rfl, r1⟩ := rvs1 rm
    obtain ⟨xs, e1, e⟩ := Option.bind_eq_some_iff.mp e
    obtain ⟨bs, e2, e⟩ := Option.map_eq_some_iff.mp e
    subst e
    obtain ⟨p, zs, rfl, hz, rz⟩ := list_of S r1 e1
    have ez := bls_rel e2 rz
    subst ez
    exact cr_any hc pins s σ H _ us Q I r ⟨p, bs, rfl, SqL.of hz, q H _ (Fut.refl S) rfl⟩
  · cases e
theorem ok_sum (hc : X.calm = true) : CallR X (.builtin "sum") (rF T fSum) := by
  intro pins s σ H xs us Q I r ⟨ρ, st, ms, v, S, rm, e, q⟩
  unfold fSum at e
  split at e
  · obtain ⟨w, rfl, r1⟩ := rvs1 rm
    obtain ⟨xs, e1, e⟩ := Option.bind_eq_some_iff.mp e
    obtain ⟨bs, e2, e⟩ := Option.map_eq_some_iff.mp e
    subst e
    obtain ⟨p, zs, rfl, hz, rz⟩ := list_of S r1 e1
    have ez := ints_rel e2 rz
    subst ez
    exact cr_sum hc pins s σ H _ us Q I r ⟨p, bs, rfl, SqL.of hz, q H _ (Fut.refl S) rfl⟩
  · cases e
end
/-! ### a op b op' c op'' d -/
def mChain3 (f g h : Sto → MV → MV → Option Bool) (ma mb mc md : Ev → M MV) : Ev → M Bool := fun env => M.bnd (ma env) fun x => M.bnd (mb env) fun y => M.bnd (fun s => M.opt (f s x y) s) fun k =>
  if k = true then M.bnd (mc env) fun z => M.bnd (fun s => M.opt (g s y z) s) fun k2 => if k2 = true then M.bnd (md env) fun w s => M.opt (h s z w) s else M.ret false
  else M.ret false
section
variable {X : Cx} {T : Tx} {W : WX} {ma mb mc md : Ev → M MV} {a b c d : Expr} {pos : Pos} {f g h : Sto → MV → MV → Option Bool}
/-- what such a chain is asked -/
def tChain3 (r r' r'' : R2) (ta tb tc td : TE) : TE := fun σ H Q => ta σ H fun x H1 => tb σ H1 fun y H2 => r x y H2 fun z H3 => ∃ k, z = .bl k ∧
  (if k = true then tc σ H3 fun w H4 => r' y w H4 fun z2 H5 => ∃ k2, z2 = .bl k2 ∧ (if k2 = true then td σ H5 fun u H6 => r'' w u H6 Q else Q (.bl false) H5) else Q (.bl false) H3)
theorem v_chain3 {op op' op'' : CmpOp} (ho : OpR X (compareOp op) (rP T f)) (ho' : OpR X (compareOp op') (rP T g)) (ho2 : OpR X (compareOp op'') (rP T h)) (ha : PE X a (tE T W ma)) (hb : PE X b (tE T W mb)) (hc : PE X c (tE T W mc)) (hd : PE X d (tE T W md))
    (hm : lastMarks [op, op', op''] [b, c, d] = false := by with_unfolding_all rfl) : PE X (.Compare a [op, op', op''] [b, c, d] pos) (tE T W (mV (mChain3 f g h ma mb mc md))) := by
  refine ⟨fun pins s σ H Q I hh => ?_⟩
  obtain ⟨ρ, st, env, S, E, hh⟩ := hh
  have h0 := (Out.bnd (rel := relB) hh)
  have hA : tE T W ma σ H (fun x H1 => ∃ ρ1 s1 xm, Fut T ρ H ρ1 s1 H1 ∧ RV T ρ1 H1 xm x ∧ Out T W relB ρ1 H1 σ (M.bnd (mb env) (fun y => M.bnd (fun s => M.opt (f s xm y) s) fun k => if k = true then M.bnd (mc env) fun z => M.bnd (fun s => M.opt (g s y z) s) fun k2 => if k2 = true then M.bnd (md env) fun w s => M.opt (h s z w) s else M.ret false else M.ret false) s1) (fun bb H2 => ∃ ρ2 s2 kb, Fut T ρ H ρ2 s2 H2 ∧ relB ρ2 H2 kb bb ∧ Out T W (RV T) ρ2 H2 σ (M.ret (.bl kb) s2) Q)) :=
    ⟨ρ, st, env, S, E, Out.bnd h0⟩
  refine Compare_chain (thn (ha.run pins s σ H _ I hA) fun v s1 ⟨x, H1, I1, r1, ρ1, st1, xm, F1, rx, q1⟩ => chain_link (thn (hb.run pins s1 σ H1 _ I1 ⟨ρ1, st1, env, F1.sim, E.later F1.lat, Out.bnd q1⟩) fun u s2 ⟨y, H2, I2, r2, ρ2, st2, ym, F2, ry, q2⟩ => ?_)) hm
  obtain ⟨k, ek, q3⟩ := opt_out (Out.bnd (rel := relB) q2)
  refine thn (ho pins s2 σ H2 x y v u (fun z H3 => z = .bl k ∧ H3 = H2) I2 r1 r2 ⟨ρ2, st2, xm, ym, k, F2.sim, rx.later F2.lat, ry, ek, rfl, rfl⟩) fun dd s3 ⟨z, H3, I3, r3, e3, e4⟩ => ?_
  subst e3 e4
  cases r3
  refine wpAny_truthy_bool ?_
  obtain ⟨ρ3, st3, k', F3, e5, q4⟩ := q3 ρ2 H3 k (Fut.refl F2.sim) rfl
  subst e5
  have fin : ∀ {kb : Bool} {ρ' : List Addr} {st' : Sto} {H' : Hp}, Sim T ρ' st' H' → Out T W relB ρ' H' σ (.ok kb st') (fun bb H2 => ∃ ρ2 s2 kb, Fut T ρ H ρ2 s2 H2 ∧ relB ρ2 H2 kb bb ∧ Out T W (RV T) ρ2 H2 σ (M.ret (.bl kb) s2) Q) → Q (.bl kb) H' := fun {kb ρ' st' H'} S' o => by
    obtain ⟨ρ9, s9, kb', F9, e9, q9⟩ := o ρ' H' kb (Fut.refl S') rfl
    subst e9
    exact q9 ρ9 H' _ (Fut.refl F9.sim) rfl
  cases k' with
  | false =>
    rw [if_neg (by decide)] at q4
    exact ite_ff ⟨.bl false, H3, I3, rfl, fin F3.sim q4⟩
  | true =>
    rw [if_pos rfl] at q4
    refine ite_tt (chain_link (thn (hc.run pins s3 σ H3 _ I3 ⟨ρ3, st3, env, F3.sim, E.later (F1.trans (F2.trans F3)).lat, Out.bnd q4⟩) fun w s4 ⟨z, H4, I4, r4, ρ4, st4, zm, F4, rz, q5⟩ => ?_))
    obtain ⟨k2, ek2, q6⟩ := opt_out (Out.bnd (rel := relB) q5)
    refine thn (ho' pins s4 σ H4 y z u w (fun z' H5 => z' = .bl k2 ∧ H5 = H4) I4 r2 r4 ⟨ρ4, st4, ym, zm, k2, F4.sim, ry.later (F3.trans F4).lat, rz, ek2, rfl, rfl⟩) fun dd2 s5 ⟨z', H5, I5, r5, e6, e7⟩ => ?_
    subst e6 e7
    cases r5
    refine wpAny_truthy_bool ?_
    obtain ⟨ρ5, st5, k3, F5, e8, q7⟩ := q6 ρ4 H5 k2 (Fut.refl F4.sim) rfl
    subst e8
    cases k3 with
    | false =>
      rw [if_neg (by decide)] at q7
      exact ite_ff ⟨.bl false, H5, I5, rfl, fin F5.sim q7⟩
    | true =>
      rw [if_pos rfl] at q7
      refine ite_tt (chain_last (thn (hd.run pins s5 σ H5 _ I5 ⟨ρ5, st5, env, F5.sim, E.later (F1.trans (F2.trans (F3.trans (F4.trans F5)))).lat, Out.bnd q7⟩) fun w2 s6 ⟨z2, H6, I6, r6, ρ6, st6, wm, F6, rw6, q8⟩ => ?_))
      obtain ⟨k4, ek4, q9⟩ := opt_out q8
      refine ho2 pins s6 σ H6 z z2 w w2 Q I6 r4 r6 ⟨ρ6, st6, zm, wm, k4, F6.sim, rz.later (F5.trans F6).lat, rw6, ek4, ?_⟩
      obtain ⟨ρ7, s7, kb', F7, e10, q10⟩ := q9 ρ6 H6 k4 (Fut.refl F6.sim) rfl
      subst e10
      exact q10 ρ7 H6 _ (Fut.refl F7.sim) rfl
theorem t_chain3 {op op' op'' : CmpOp} (ho : OpR X (compareOp op) (rP T f)) (ho' : OpR X (compareOp op') (rP T g)) (ho2 : OpR X (compareOp op'') (rP T h)) (ha : PE X a (tE T W ma)) (hb : PE X b (tE T W mb)) (hc : PE X c (tE T W mc)) (hd : PE X d (tE T W md))
    (hm : lastMarks [op, op', op''] [b, c, d] = false := by with_unfolding_all rfl) : PT X (.Compare a [op, op', op''] [b, c, d] pos) (tT T W (mChain3 f g h ma mb mc md)) := by
  refine ⟨fun pins s σ H Q I hh => ?_⟩
  obtain ⟨ρ, st, env, S, E, hh⟩ := hh
  have hA : tE T W ma σ H (fun x H1 => ∃ ρ1 s1 xm, Fut T ρ H ρ1 s1 H1 ∧ RV T ρ1 H1 xm x ∧ Out T W relB ρ1 H1 σ (M.bnd (mb env) (fun y => M.bnd (fun s => M.opt (f s xm y) s) fun k => if k = true then M.bnd (mc env) fun z => M.bnd (fun s => M.opt (g s y z) s) fun k2 => if k2 = true then M.bnd (md env) fun w s => M.opt (h s z w) s else M.ret false else M.ret false) s1) Q) :=
    ⟨ρ, st, env, S, E, Out.bnd hh⟩
  refine isTrue_chain (thn (ha.run pins s σ H _ I hA) fun v s1 ⟨x, H1, I1, r1, ρ1, st1, xm, F1, rx, q1⟩ => test_link (thn (hb.run pins s1 σ H1 _ I1 ⟨ρ1, st1, env, F1.sim, E.later F1.lat, Out.bnd q1⟩) fun u s2 ⟨y, H2, I2, r2, ρ2, st2, ym, F2, ry, q2⟩ => ?_)) hm
  obtain ⟨k, ek, q3⟩ := opt_out (Out.bnd (rel := relB) q2)
  refine thn (ho pins s2 σ H2 x y v u (fun z H3 => z = .bl k ∧ H3 = H2) I2 r1 r2 ⟨ρ2, st2, xm, ym, k, F2.sim, rx.later F2.lat, ry, ek, rfl, rfl⟩) fun dd s3 ⟨z, H3, I3, r3, e3, e4⟩ => ?_
  subst e3 e4
  cases r3
  refine wpAny_truthy_bool ?_
  obtain ⟨ρ3, st3, k', F3, e5, q4⟩ := q3 ρ2 H3 k (Fut.refl F2.sim) rfl
  subst e5
  cases k' with
  | false =>
    rw [if_neg (by decide)] at q4
    exact ite_ff ⟨H3, I3, q4 ρ3 H3 false (Fut.refl F3.sim) rfl⟩
  | true =>
    rw [if_pos rfl] at q4
    refine ite_tt (test_link (thn (hc.run pins s3 σ H3 _ I3 ⟨ρ3, st3, env, F3.sim, E.later (F1.trans (F2.trans F3)).lat, Out.bnd q4⟩) fun w s4 ⟨z, H4, I4, r4, ρ4, st4, zm, F4, rz, q5⟩ => ?_))
    obtain ⟨k2, ek2, q6⟩ := opt_out (Out.bnd (rel := relB) q5)
    refine thn (ho' pins s4 σ H4 y z u w (fun z' H5 => z' = .bl k2 ∧ H5 = H4) I4 r2 r4 ⟨ρ4, st4, ym, zm, k2, F4.sim, ry.later (F3.trans F4).lat, rz, ek2, rfl, rfl⟩) fun dd2 s5 ⟨z', H5, I5, r5, e6, e7⟩ => ?_
    subst e6 e7
    cases r5
    refine wpAny_truthy_bool ?_
    obtain ⟨ρ5, st5, k3, F5, e8, q7⟩ := q6 ρ4 H5 k2 (Fut.refl F4.sim) rfl
    subst e8
    cases k3 with
    | false =>
      rw [if_neg (by decide)] at q7
      exact ite_ff ⟨H5, I5, q7 ρ5 H5 false (Fut.refl F5.sim) rfl⟩
    | true =>
      rw [if_pos rfl] at q7
      refine ite_tt (test_last (thn (hd.run pins s5 σ H5 _ I5 ⟨ρ5, st5, env, F5.sim, E.later (F1.trans (F2.trans (F3.trans (F4.trans F5)))).lat, Out.bnd q7⟩) fun w2 s6 ⟨z2, H6, I6, r6, ρ6, st6, wm, F6, rw6, q8⟩ => ?_))
      obtain ⟨k4, ek4, q9⟩ := opt_out q8
      refine thn (ho2 pins s6 σ H6 z z2 w w2 (fun z' H7 => z' = .bl k4 ∧ H7 = H6) I6 r4 r6 ⟨ρ6, st6, zm, wm, k4, F6.sim, rz.later (F5.trans F6).lat, rw6, ek4, rfl, rfl⟩) fun dd3 s7 ⟨z3, H7, I7, r7, e10, e11⟩ => ?_
      subst e10 e11
      cases r7
      exact wpAny_truthy_bool ⟨H7, I7, q9 ρ6 H7 k4 (Fut.refl F6.sim) rfl⟩
end
/-! ### the signs of a text, walked -/
def signs (x : Str) : List MV := x.cps.toList.map fun c => .str ⟨#[c]⟩
def miStr (ma : Ev → M MV) : MI := fun env => M.bnd (ma env) fun x => match x with
  | .str z => M.ret ⟨signs z, fun _ => True⟩
  | _ => fun _ => .bad
section
variable {X : Cx} {T : Tx} {W : WX} {ma : Ev → M MV} {e tg : Expr}
theorem wk_str {z : Str} {ok : Sto → Prop} {ρ0 : List Addr} {H0 : Hp} : WalkM T (Its z) (signs z) ok ρ0 H0 where
  goes := fun i ρ st H hi F ho => by
    unfold signs at hi; rw [List.length_map] at hi
    show i < z.cps.size
    simpa using hi
  stops := fun ρ st H F ho => by
    show z.cps.size ≤ (signs z).length
    unfold signs; simp
  yields := fun i ρ st H m x H' hm F ho y => by
    obtain ⟨rfl, c, e1, rfl⟩ := y
    unfold signs at hm
    rw [List.getElem?_map] at hm
    have e2 : z.cps.toList[i]? = some c := by simpa using e1
    rw [e2] at hm
    cases hm
    exact ⟨Fut.refl F.sim, rfl⟩
theorem i_str (he : PE X e (tE T W ma)) : PI X tg e (tI T W (miStr ma)) := pi_mono (pi_str he) fun σ H R ⟨ρ, st, env, S, E, h⟩ => by
  refine ⟨ρ, st, env, S, E, (OutI.bnd h).imp fun v H1 ⟨ρ1, s1, m, F1, r1, q1⟩ => ?_⟩
  cases m with
  | str z => cases r1; exact ⟨z, rfl, q1 ρ1 H1 _ (Fut.refl F1.sim) wk_str⟩
  | _ => exact False.elim q1
end
end Z

namespace Z
open PySem L2
/-! ### the head, with the __init__ of own exceptions -/
structure IniD where
  cls : Str
  fld : Str
  st : Stmt
abbrev IniW : Type := Option (Str × Str × Arguments × FuncBody × Scope × Addr × List Str × Addr)
def iniW (K : PySem.W.Frag) (x : Str) : IniW := match K.lookup (He.fAd K (x, some "__init__")) with
  | some ⟨_, _, .func fd, _⟩ => some (fd.name, fd.qualname, fd.params, fd.body, fd.scope, fd.globals, fd.closure.map (·.1), fd.builtins)
  | _ => none
def IniD.qual (d : IniD) : Str := d.cls ++ ".__init__"
def IniD.val (d : IniD) : IniW := some ("__init__", d.qual, defArgs d.st, .stmts (defBody d.st), defScope d.st, mainGlobals, ["__class__"], builtinsNs)
def SaysI (ini : List IniD) (K : PySem.W.Frag) : Prop := ini.map (fun d => iniW K d.cls) = ini.map IniD.val
def asI (g : Addr → Option Obj) (n : Nat) : List Addr := He.asD g n ++ [PySem.cStatics]
def obsIK (fs : List Fc) (fn : List He.DefD) (ini : List IniD) (K : PySem.W.Frag) : He.AlD × List IniW := (obsZ fs fn K, ini.map (fun d => iniW K d.cls))
def hookI (n : Nat) (fs : List Fc) (fn : List He.DefD) (ini : List IniD) : PySem.W.Hook where
  α := He.AlD × List IniW
  obs s := obsIK fs fn ini (He.frG s.heap.get? (asI s.heap.get? n))
  val _ := ((true, fn.map He.DefD.val), ini.map IniD.val)
  says _ h := ∃ K : PySem.W.Frag, K.In h ∧ SaysZ fs fn K ∧ SaysI ini K
  of _ s e := ⟨He.frG s.heap.get? (asI s.heap.get? n), He.frG_in, congrArg Prod.fst e, by unfold SaysI; exact congrArg Prod.snd e⟩
  keeps _ _ _ q k := q.elim fun K z => ⟨K, PySem.W.Frag.In.keeps z.1 k, z.2⟩
def obsIG (n : Nat) (fs : List Fc) (fn : List He.DefD) (ini : List IniD) (g : Addr → Option Obj) : He.AlD × List IniW := obsIK fs fn ini (He.frG g (asI g n))
theorem obsIG_eq {n : Nat} {fs : List Fc} {fn : List He.DefD} {ini : List IniD} {g : Addr → Option Obj} {s : Shared} (h : ∀ a, g a = s.heap.get? a) : (obsIG n fs fn ini g : (hookI n fs fn ini).α) = (hookI n fs fn ini).obs s := by
  rw [show g = s.heap.get? from funext h]
  rfl
structure TxtI (fs : List Fc) (fn : List He.DefD) (ini : List IniD) (K : PySem.W.Frag) (mg : Str → Option Value) : Prop extends TxtZ fs fn K mg where
  i : SaysI ini K
theorem txtI_of {fs : List Fc} {fn : List He.DefD} {ini : List IniD} {K : PySem.W.Frag} {mg : Str → Option Value} {h : Heap} (X : K.In h) (G : h.Ns mainGlobals mg) (c : SaysZ fs fn K) (d : SaysI ini K) : TxtI fs fn ini K mg := ⟨txt_of X G c, d⟩
/-- all else that is asked of such a class -/
def cIni (file x fld : Str) : Fc := fun K => (match K.lookup (He.fAd K (x, some "__init__")) with
    | some ⟨_, _, .func fd, _⟩ => (match fd.defaults, fd.kwdefaults, fd.code, fd.closure with
      | .none, .none, .ref cda, [(_, cc)] => PySem.W.codeIn K (.ref cda) (x ++ ".__init__") && (match K.lookup cda with
          | some ⟨_, _, .fields vs, _⟩ => (match (vs[2]? : Option Value) with
            | some (Value.str f _) => decide (f = file)
            | _ => false)
          | _ => false) && (match K.lookup cc with
          | some ⟨_, _, .cell (some (.ref D)), _⟩ => decide (D = He.ga K x)
          | _ => false)
      | _, _, _, _ => false)
    | _ => false) &&
  isA (PySem.W.nsIn K PySem.cStatics "thirdparty.any") && PySem.W.excInitIn K (He.ga K x) [.type "ValueError", .type "Exception", .type "BaseException", .type "object"] "ValueError.__new__" &&
  (match PySem.W.clsIn K (He.ga K x) with
    | some cd => PySem.HandSPX.refsVE cd.mro && cd.hasDict && isV (PySem.W.alongIn K "__init__" ((cd.mro.dropWhile (· != .ref (He.ga K x))).drop 1)) (.builtin "ValueError.__init__")
    | none => false) &&
  decide (PySem.W.mroIn K (He.ga K x) (.ref (He.ga K x)) = some true) && decide (PySem.W.subIn K (.ref (He.ga K x)) (.type "ValueError") = some true) && isV (PySem.W.findIn K (.ref (He.ga K x)) "__setattr__") (.builtin "object.__setattr__") && isA (PySem.W.findIn K (.ref (He.ga K x)) fld) &&
  isV (PySem.W.findIn K (.ref (He.ga K x)) "__init__") (.ref (He.fAd K (x, some "__init__"))) && decide (PySem.W.typeIn K (.ref (He.fAd K (x, some "__init__"))) = some (.type "function")) && PySem.W.keepIn K (.ref (He.ga K x))
/-- a class that can be raised so -/
def IniA (P : Program) (K : PySem.W.Frag) (C f : Addr) (qual fld : Str) : Prop := ∃ es pa pb p0 p1 p2 p3 p4 p5 q1 q2 q3 q4, IniK P K C f qual fld es pa pb p0 p1 p2 p3 p4 p5 q1 q2 q3 q4 ∧ IniE fld es p0 p1 p2 p3 p4 p5 q1 q2 q3 q4
section
variable {fs : List Fc} {fn : List He.DefD} {ini : List IniD} {K : PySem.W.Frag} {mg : Str → Option Value} {P : Program}
theorem TxtI.iniA (T : TxtI fs fn ini K mg) (k j : Nat) {d : IniD} {file : Str} (hk : ini[k]? = some d) (hj : fs[j]? = some (cIni file d.cls d.fld)) (hfile : P.main.file = file) (htop : (P.main.scope.names.lookup ("super" : Str)).isSome = false) {es : List Expr} {pa pb p0 p1 p2 p3 p4 p5 q1 q2 q3 q4 : Pos}
    (hA : defArgs d.st = iniArgs d.fld pa pb) (hB : defBody d.st = [.Expr (.Call (.Attribute (.Call (.Name "super" p0) [] [] p1) "__init__" p2) [.JoinedStr es p5] [] p3) p4, .Assign [.Attribute (.Name "self" q1) d.fld q2] (.Name d.fld q3) q4]) (hS : defScope d.st = iniScope d.fld)
    (hg : ∃ e1 e2 r, es = e1 :: e2 :: r ∧ GPs d.fld es ∧ es.length ≤ 5) (h1 : ¬ d.fld = Str.ofString "self" ∧ ¬ d.fld = Str.ofString "super" ∧ (d.fld == ("__debug__" : Str)) = false ∧ ¬ d.fld = Str.ofString "__class__")
    (hbd : ∀ (body : List Stmt) (doc pm ct cdv : Value) (an : Option Addr) (cc : Addr) (a b : Value), bindArgs (PySem.W.ksFn "__init__" d.qual (iniArgs d.fld pa pb) body (iniScope d.fld) .none .none doc pm an cdv ct cc) ⟨[a, b], []⟩ = pure [(Str.ofString "self", a), (d.fld, b)])
    (hE : IniE d.fld es p0 p1 p2 p3 p4 p5 q1 q2 q3 q4) : IniA P K (He.ga K d.cls) (He.fAd K (d.cls, some "__init__")) d.qual d.fld := by
  have c := T.c.fc j hj
  unfold cIni at c
  obtain ⟨c, k11⟩ := and2 c
  obtain ⟨c, k10⟩ := and2 c
  obtain ⟨c, k9⟩ := and2 c
  obtain ⟨c, k8⟩ := and2 c
  obtain ⟨c, k7⟩ := and2 c
  obtain ⟨c, k6⟩ := and2 c
  obtain ⟨c, k5⟩ := and2 c
  obtain ⟨c, k4⟩ := and2 c
  obtain ⟨c, k3⟩ := and2 c
  obtain ⟨k1, k2⟩ := and2 c
  have e2 : (ini.map (fun d => iniW K d.cls))[k]? = (ini.map IniD.val)[k]? := by rw [show ini.map (fun d => iniW K d.cls) = ini.map IniD.val from T.i]
  rw [List.getElem?_map, List.getElem?_map, hk] at e2
  have e3 : iniW K d.cls = d.val := Option.some.inj e2
  unfold iniW at e3
  refine ⟨es, pa, pb, p0, p1, p2, p3, p4, p5, q1, q2, q3, q4, ⟨?_, hg, htop, isA_ok k2, k3, ?_, of_decide_eq_true k5, of_decide_eq_true k6, isV_ok k7, isA_ok k8, h1, isV_ok k9, of_decide_eq_true k10, k11, hbd⟩, hE⟩
  · cases q : K.lookup (He.fAd K (d.cls, some "__init__")) with
    | none => rw [q] at e3; cases e3
    | some o =>
      obtain ⟨oc, od, dt, osl⟩ := o
      rw [q] at e3 k1
      cases dt with
      | func fd =>
        obtain ⟨n1, n2, n3, n4, n5, n6, n7, n8, n9, n10, n11, n12, n13, n14, n15⟩ := fd
        have e4 : (some (n1, n2, n3, n4, n5, n6, n7.map (·.1), n15) : IniW) = (some (("__init__" : Str), d.qual, defArgs d.st, FuncBody.stmts (defBody d.st), defScope d.st, mainGlobals, [("__class__" : Str)], builtinsNs) : IniW) := e3
        simp only [Option.some.injEq, Prod.mk.injEq] at e4
        obtain ⟨g1, g2, g3, g4, g5, g6, g7, g8⟩ := e4
        simp only at k1
        split at k1
        · rename_i cda nm cc
          obtain ⟨k1, m3⟩ := and2 k1
          obtain ⟨m1, m2⟩ := and2 k1
          split at m2
          · rename_i ccl cdd vs ccs hcd
            split at m2
            · rename_i ff tf hvs
              split at m3
              · rename_i cl cld D csl hcc
                have hD := of_decide_eq_true m3
                subst hD
                have hf := of_decide_eq_true m2
                subst g1 g2 g3 g4 g5 g6 g8
                simp only [List.map_cons, List.map_nil, List.cons.injEq, and_true] at g7
                subst g7
                refine ⟨oc, ccl, cl, n10, n11, n14, od, cdd, cld, n12, osl, ccs, csl, cc, cda, vs, ff, tf, ?_, m1, hcd, hvs, ?_, hcc⟩
                · rw [hA, hB, hS]
                · rw [hfile, hf]; simp
              · cases m3
            · cases m2
          · cases m2
        · cases k1
      | _ => cases e3
  · split at k4
    · rename_i cd e
      obtain ⟨k4, m3⟩ := and2 k4
      obtain ⟨m1, m2⟩ := and2 k4
      exact ⟨cd, e, m1, m2, isV_ok m3⟩
    · cases k4
end
section
variable {X : Cx} {T : Tx} {W : WX} {ma : Ev → M MV} {c f : Nat} {fA : Addr} {qual x : Str} {p pos pos2 : Pos} {a : Expr} {k : Nat}
theorem s_raiseB (hc : X.calm = true) (tk : Takes X W) (hI : IniA X.prog X.K (T.cls c) fA qual (fnm f)) (hr : Room k X.A) (hms : X.mg "super" = none) (gC : X.mg x = some (.ref (T.cls c))) (rC : Raises X (.ref (T.cls c))) (hx : T.hasX c = true) (hf : f < 34)
    (ha : PE X a (tE T W ma)) (hg : Gl X x := by rfl) (hdb : (x == ("__debug__" : Str)) = false := by decide) (he : starEach (a :: []) X.env = (false, eval a X.env) :: starEach [] X.env := by rfl) (hpl : (backTo pos (starEach [] X.env)).any (·.1) = false := by rfl) :
    PS X (.Raise (some (.Call (.Name x p) [a] [] pos)) none pos2) (tS T W (sRaiseA c f ma)) := by
  obtain ⟨es, pa, pb, p0, p1, p2, p3, p4, p5, q1, q2, q3, q4, TI, TE⟩ := hI
  exact s_raiseA hc tk TI TE hr hms gC rC hx hf ha hg hdb he hpl
end
end Z

namespace Z
open PySem L2 PyProof.Rows
/-! ### several except clauses, each with a name -/
def dEnd (D : Ends) (i : Nat) : Ends := { nx := fun σ' H' => D.nx (σ'.set i none) H', rt := D.rt, bk := fun σ' H' => D.bk (σ'.set i none) H', ct := fun σ' H' => D.ct (σ'.set i none) H' }
def wManyA (K : PySem.W.Frag) (Wout : WX) (D : Ends) : List (Value × Nat × (Addr → Value → Option Addr → TS)) → WX
  | [] => Wout
  | (c, i, ts) :: r => fun cls d σ H => ∃ b, PySem.W.exmOne K cls c = some b ∧ (b = true → ∀ a, H a = none → ts a cls d (dEnd D i) (σ.set i (some (.ref a))) H) ∧ (b = false → wManyA K Wout D r cls d σ H)
inductive HdsA (X : Cx) : List ExceptHandler → List (Value × Nat × (Addr → Value → Option Addr → TS)) → Prop
  | nil : HdsA X [] []
  | cons {x n : Str} {c : Value} {i : Nat} {ts : Addr → Value → Option Addr → TS} {b₀ : Stmt} {suite : List Stmt} {np pos' : Pos} {hds : List ExceptHandler} {l : List (Value × Nat × (Addr → Value → Option Addr → TS))} (hc : Names X x c) (hi : X.N[i]? = some n) (hln : X.env.kindOf n = some .local)
      (hsu : ∀ (a : Addr) (oe : Obj) (cls : Value) (d : Option Addr) (pn : List (Addr × Obj)), Zc cls d oe → (∃ vs, oe.data = .fields vs) → PSs (X.suite a ((a, oe) :: pn)) (b₀ :: suite) (ts a cls d)) (r : HdsA X hds l) :
      HdsA X (.ExceptHandler (some (.Name x np)) (some n) (b₀ :: suite) pos' :: hds) ((c, i, ts) :: l)
section
variable {X : Cx} {body : List Stmt} {h₀ : ExceptHandler} {hds : List ExceptHandler} {l : List (Value × Nat × (Addr → Value → Option Addr → TS))} {pos : Pos} {tb : WX → TS} {Wout : WX}
theorem ps_try_manyA (hs : X.stack = X.env :: X.outer) (hf : X.env.frame = some X.env.locals) (hN : X.N.Nodup) (tk : Takes X Wout)
    (hb : ∀ (W : WX) (pn : List (Addr × Obj)) (xe : Value → Shared → Prop), Takes (X.tr pn xe) W → PassesOwn (model X.prog X.w) X.A X.env xe → PSs (X.tr pn xe) body (tb W))
    (hh : HdsA X (h₀ :: hds) l) : PS X (.Try body (h₀ :: hds) [] [] pos) (fun D σ H => tb (wManyA X.K Wout D l) D σ H) := by
  refine ⟨fun pins s σ H D I h => ?_⟩
  have ok := I.ok
  have hfr : X.A.frames = some (X.env :: X.outer) := by rw [ok.frames, hs]
  refine wpAny_Try_except ?_
  refine wpAny_mono ((hb (wManyA X.K Wout D l) (X.pn ++ pins) (fun e s₁ => wpAny (model X.prog X.w) X.A (noteFrame e X.env) (fun _ s₂ => wpAny (model X.prog X.w) X.A (setFlight e none) (fun _ s₃ =>
    wpAny (model X.prog X.w) X.A (handleBy e X.env (h₀ :: hds)) (SP X pins D) X.xe s₃) X.xe s₂) X.xe s₁) (fun u s' xx => ?_) PassesOwn.looking).run [] s σ H D (I.toTry _) h) (fun f s1 hsp => ?_) (fun e s1 he => he)
  · obtain ⟨a, B, sI, pins', σ', H', cls, d, rfl, J', nb, up, sky, na, os, ag, w⟩ := xx
    have J : Inv X pins σ' H' sI := J'.ofTry ok
    have sky' : Sky B (X.env :: X.outer) a (Zc cls d) X.env.locals s'.heap := by rw [← hs]; exact sky
    show wpAny (model X.prog X.w) X.A (noteFrame (.ref a) X.env) _ _ _
    refine Sky.land Zc.steady hfr hf sky' fun h3 fl3 up3 => ?_
    have J3 : Inv X pins σ' H' { s' with heap := h3 } := J.landed nb fl3.1 (up.trans up3) os ag
    obtain ⟨oe3, vs3, he3, hz3, hd3⟩ := fl3.there
    have notFr : ∀ {h : Heap} {o : Obj} {vs : Array Value}, h.FunFrames B (X.env :: X.outer) → h.get? a = some o → o.data = .fields vs → a ∉ frs (X.env :: X.outer) := fun {h o vs} ff e dd hm => by
      obtain ⟨_, o', e', hnf⟩ := ff.mem hm
      rw [e] at e'; cases e'
      exact hnf _ dd
    have nfr := notFr fl3.2.2.1 he3 hd3
    have nL : a ≠ X.env.locals := fun z => nfr (List.mem_filterMap.mpr ⟨X.env, List.mem_cons_self, by rw [hf, z]⟩)
    have nF : a ∉ X.fs := fun hm => by
      obtain ⟨e, he, q⟩ := List.mem_filterMap.mp hm
      exact nfr (List.mem_filterMap.mpr ⟨e, List.mem_cons_of_mem _ he, q⟩)
    have S3 := J3.suite he3 hd3 na nL nF
    have go : ∀ {hds' : List ExceptHandler} {l' : List (Value × Nat × (Addr → Value → Option Addr → TS))}, HdsA X hds' l' → wManyA X.K Wout D l' cls d σ' H' →
        wpAny (model X.prog X.w) X.A (handleBy (.ref a) X.env hds') (SP X pins D) X.xe { s' with heap := h3 } := by
      intro hds' l' hk
      induction hk with
      | nil =>
        intro w
        refine wpAny_handleBy_nil ?_
        obtain ⟨k1, k2, k3, oe, vs, T, oT, ts', he, hz, hd, h1, hr⟩ := id fl3
        unfold PySem.passOn
        refine wpAny_bind (wpAny_field he hd h1 ?_)
        rw [if_neg (show ¬ ((Value.ref T == Value.none) = true) from by simp)]
        have fin : wpAny (model X.prog X.w) X.A (setFlight (.ref a) X.env.frame) (fun _ s4 => wpAny (model X.prog X.w) X.A (throw (.ref a) : Sem Flow) (SP X pins D) X.xe s4) X.xe { s' with heap := h3 } := by
          rw [hf]
          refine HandSPX.setFlight_upZ fl3 fun h4 hh4 up4 => wpAny_throw (tk _ _ ?_)
          exact ⟨a, B, sI, pins, σ', H', cls, d, rfl, J, nb, (up.trans up3).trans up4, .inr (.inr (by rw [hs]; exact hh4)), na, os, ag, w⟩
        first
          | exact wpAny_bind (wpAny_pure (wpAny_bind fin))
          | exact wpAny_bind fin
      | @cons x n c i ts b₀ suite np pos' hds2 l2 hc hi hln hsu r ih =>
        intro w
        obtain ⟨b, hb1, hyes, hno⟩ := w
        refine wpAny_handleBy_cons (codeAny_handlers_test ?_) (by intro q; cases q)
        have LT : PySem.W.Looks (model X.prog X.w) h3 (typeOf (.ref a)) cls := fun A Q E s k q => wpAny_typeOf_ref (k _ _ he3) (by rw [hz3.1]; exact q)
        have LM := PySem.W.exm_one (M := model X.prog X.w) (J3.kIn) LT hb1
        have test : ∀ {Q : Value → Shared → Prop} {E : Value → Shared → Prop}, Q c { s' with heap := h3 } → wpAny (model X.prog X.w) (X.A.mark (some (.ref a))) (eval (.Name x np) X.env) Q E { s' with heap := h3 } := fun {Q E} q => by
          obtain ⟨hg, hdbg, hm | ⟨hm, hv, hnn⟩⟩ := hc
          · exact ld_glob (X := X.suite a ((a, oe3) :: (X.pn ++ pins))) S3 hg hm q hdbg
          · exact ld_blt (X := X.suite a ((a, oe3) :: (X.pn ++ pins))) S3 hg hm hv q hnn hdbg
        refine test (LM.here ?_)
        cases b with
        | true =>
          refine codeAny_handlers_suite_as ?_
          refine HandSPX.lands_againZ fl3 fun h4 fl4 up4 => ?_
          have J4 : Inv X pins σ' H' { s' with heap := h4 } := J.landed nb fl4.1 ((up.trans up3).trans up4) os ag
          obtain ⟨oe4, vs4, he4, hz4, hd4⟩ := fl4.there
          have S4 := J4.suite he4 hd4 na nL nF
          refine store_ok (X := X.suite a ((a, oe4) :: (X.pn ++ pins))) (v := .ref a) S4 hN hi (.inl hln) rfl (fun s5 S5 => ?_) (.inr hln)
          refine wpAny_mono ((hsu a oe4 cls d (X.pn ++ pins) hz4 ⟨_, hd4⟩).run [] s5 _ H' _ S5 (hyes rfl a na)) (fun f s6 hsp => ?_) (fun _ _ z => False.elim z)
          have end_ : ∀ {σ6 : L2.St} {H6 : Hp} {Q : Shared → Prop}, Inv (X.suite a ((a, oe4) :: (X.pn ++ pins))) [] σ6 H6 s6 → (∀ s7, Inv X pins (σ6.set i none) H6 s7 → Q s7) →
              wpAny (model X.prog X.w) X.A (do bindName X.env n .none; unbindBehindTheSuite X.env n pos') (fun _ s7 => Q s7) X.xe s6 := fun {σ6 H6 Q} S6 hq => gone_ok (S6.unsuite ok) hN hi hln hq
          cases f with
          | next =>
            obtain ⟨σ6, H6, S6, q6⟩ := hsp
            exact end_ S6 fun s7 J7 => ⟨_, _, J7, q6⟩
          | brk =>
            obtain ⟨σ6, H6, S6, q6⟩ := hsp
            exact end_ S6 fun s7 J7 => ⟨_, _, J7, q6⟩
          | cont =>
            obtain ⟨σ6, H6, S6, q6⟩ := hsp
            exact end_ S6 fun s7 J7 => ⟨_, _, J7, q6⟩
          | ret u =>
            obtain ⟨v6, σ6, H6, S6, r6, q6⟩ := hsp
            exact end_ S6 fun s7 J7 => ⟨_, _, _, J7, r6, q6⟩
        | false =>
          show wpAny _ X.A (handleBy (.ref a) X.env hds2) _ _ _
          exact ih (hno rfl)
    exact go hh w
  · cases f with
    | next =>
      obtain ⟨σ', H', J', q⟩ := hsp
      exact wpAny_execs_nil ⟨σ', H', J'.ofTry ok, q⟩
    | brk =>
      obtain ⟨σ', H', J', q⟩ := hsp
      exact ⟨σ', H', J'.ofTry ok, q⟩
    | cont =>
      obtain ⟨σ', H', J', q⟩ := hsp
      exact ⟨σ', H', J'.ofTry ok, q⟩
    | ret u =>
      obtain ⟨v, σ', H', J', r, q⟩ := hsp
      exact ⟨v, σ', H', J'.ofTry ok, r, q⟩
end
abbrev Hnd : Type := Nat × Nat × (Nat → List (Nat × MV) → MS)
def handN : List Hnd → Ev → Nat → List (Nat × MV) → Sto → Fl
  | [], e, c, fs, s => .ex e c fs s
  | (i, k, ms) :: r, e, c, fs, s => if subX c k = true then unsetN i (ms c fs (e.set i (some .exc)) s) else handN r e c fs s
def sTryN (mb : MS) (hs : List Hnd) : MS := fun env st => match mb env st with
  | .ex e c fs s => handN hs e c fs s
  | r => r
/-- the clauses, read -/
inductive HdsZ (X : Cx) (T : Tx) : List ExceptHandler → List Hnd → Prop
  | nil : HdsZ X T [] []
  | cons {x n : Str} {k i : Nat} {ms : Nat → List (Nat × MV) → MS} {b₀ : Stmt} {suite : List Stmt} {np pos' : Pos} {hds : List ExceptHandler} {l : List Hnd} (hc : Names X x (.ref (T.cls k)))
      (hex : ∀ c, T.hasX c = true → PySem.W.exmOne X.K (.ref (T.cls c)) (.ref (T.cls k)) = some (subX c k))
      (hsu : ∀ (a : Addr) (oe : Obj) (cl : Value) (d : Option Addr) (pn : List (Addr × Obj)) (c : Nat) (fs : List (Nat × MV)), Zc cl d oe → (∃ vs, oe.data = .fields vs) → PSs (X.suite a ((a, oe) :: pn)) (b₀ :: suite) (tS (T.on c fs cl d a) WF (ms c fs)))
      (r : HdsZ X T hds l) (hi : X.N[i]? = some n := by rfl) (hln : X.env.kindOf n = some .local := by rfl) : HdsZ X T (.ExceptHandler (some (.Name x np)) (some n) (b₀ :: suite) pos' :: hds) ((i, k, ms) :: l)
section
variable {X : Cx} {T : Tx} {W : WX} {body : List Stmt} {h₀ : ExceptHandler} {hds : List ExceptHandler} {l : List Hnd} {pos : Pos} {mb : MS}
def hdT (T : Tx) : List Hnd → List (Value × Nat × (Addr → Value → Option Addr → TS)) := List.map fun h => (.ref (T.cls h.2.1), h.1, fun a cl d D σ H => ∃ c fs, tS (T.on c fs cl d a) WF (h.2.2 c fs) D σ H)
theorem HdsZ.a : ∀ {hds : List ExceptHandler} {l : List Hnd}, HdsZ X T hds l → HdsA X hds (hdT T l)
  | _, _, .nil => .nil
  | _, _, .cons hc hex hsu r hi hln => .cons hc hi hln (fun a oe cl d pn hz hv => ⟨fun pins s σ H D I ⟨c, fs, h⟩ => (hsu a oe cl d pn c fs hz hv).run pins s σ H D I h⟩) r.a
theorem hand_red (hT : T.exc = none) {D : Ends} {ρ : List Addr} {st : Sto} {H : Hp} {σ : L2.St} {e : Ev} {c : Nat} {fs : List (Nat × MV)} {cl : Value} {d : Option Addr} (S : Sim T ρ st H) (E : REnv T ρ H e σ) (r : RX T ρ H c fs cl d) : ∀ {hds : List ExceptHandler} {l : List Hnd}, HdsZ X T hds l → OutS T W ρ H D (handN l e c fs st) → wManyA X.K W D (hdT T l) cl d σ H
  | _, _, .nil, h => h ρ H σ cl d (Fut.refl S) E r
  | _, _, .cons (k := k) (i := i) (ms := ms) hc hex hsu rr hi hln, h => by
    obtain ⟨e1, e2, _, _⟩ := id r
    refine ⟨subX c k, by rw [e1]; exact hex c e2, fun hs a ha => ?_, fun hs => ?_⟩
    · unfold handN at h
      rw [if_pos hs] at h
      refine ⟨c, fs, ρ, st, e.set i (some .exc), S.on r, (E.on hT).mark i, ?_⟩
      show OutS (T.on c fs cl d a) WF ρ H (dEnd D i) (ms c fs (e.set i (some .exc)) st)
      cases q : ms c fs (e.set i (some .exc)) st with
      | nx e3 s3 =>
        simp only [q, unsetN] at h
        intro ρ' H' σ' F' E'
        cases q2 : leaveE i e3 with
        | none => rw [q2] at h; exact h.elim
        | some e4 => rw [q2] at h; exact h ρ' H' (σ'.set i none) (F'.off S) (leave_off q2 E')
      | rt v s3 => simp only [q, unsetN] at h; exact fun ρ' H' u F' r' => h ρ' H' u (F'.off S) r'
      | bk e3 s3 =>
        simp only [q, unsetN] at h
        intro ρ' H' σ' F' E'
        cases q2 : leaveE i e3 with
        | none => rw [q2] at h; exact h.elim
        | some e4 => rw [q2] at h; exact h ρ' H' (σ'.set i none) (F'.off S) (leave_off q2 E')
      | ct e3 s3 =>
        simp only [q, unsetN] at h
        intro ρ' H' σ' F' E'
        cases q2 : leaveE i e3 with
        | none => rw [q2] at h; exact h.elim
        | some e4 => rw [q2] at h; exact h ρ' H' (σ'.set i none) (F'.off S) (leave_off q2 E')
      | ex e3 c3 fs3 s3 => simp only [q, unsetN] at h; exact h.elim
      | bad => simp only [q, unsetN] at h; exact h.elim
    · unfold handN at h
      rw [if_neg (by rw [hs]; decide)] at h
      exact hand_red hT S E r rr h
theorem s_tryN (hT : T.exc = none) (hs : X.stack = X.env :: X.outer) (hf : X.env.frame = some X.env.locals) (hN : X.N.Nodup) (tk : Takes X W)
    (hb : ∀ (W : WX) (pn : List (Addr × Obj)) (xe : Value → Shared → Prop), Takes (X.tr pn xe) W → PassesOwn (model X.prog X.w) X.A X.env xe → PSs (X.tr pn xe) body (tS T W mb))
    (hh : HdsZ X T (h₀ :: hds) l) : PS X (.Try body (h₀ :: hds) [] [] pos) (tS T W (sTryN mb l)) :=
  ps_mono (ps_try_manyA (tb := fun W => tS T W mb) (Wout := W) hs hf hN tk hb hh.a) fun D σ H h => by
    obtain ⟨ρ, st, env, S, E, h⟩ := h
    refine ⟨ρ, st, env, S, E, ?_⟩
    unfold sTryN at h
    cases em : mb env st with
    | nx e s => simp only [em] at h; exact h
    | rt v s => simp only [em] at h; exact h
    | bk e s => simp only [em] at h; exact h
    | ct e s => simp only [em] at h; exact h
    | bad => simp only [em] at h; exact h
    | ex e c fs s =>
      simp only [em] at h
      intro ρ1 H1 σ1 cl d F1 E1 r1
      exact hand_red hT F1.sim E1 r1 hh (OutS.fut F1 h)
end
end Z

namespace Z
open PySem L2 PyProof.Rows L2H
/-! ### a def that is called in an except suite with the handled exception alone -/
abbrev noE : XK := fun _ _ _ => False
structure FnX (P : Program) (w : World) (K : PySem.W.Frag) (mg : Str → Option Value) (base : Heap) (T : Tx) (k : Nat) (f : Addr) (fd : FuncData) (ps : List Str) (mf : Nat → List (Nat × MV) → M MV) : Prop where
  one : ps.length = 1
  run : ∀ (A : Around) (outer : List Env) (s : Shared) (H : Hp) (args : Args) (Q : VK) (a : Addr) (oe : Obj) (cl : Value) (d : Option Addr) (c : Nat) (fs : List (Nat × MV)) (ρ : List Addr) (st : Sto), RoomH k A → A.handled = some (.ref a) → PinOk outer H s (a, oe) → Zc cl d oe → (∃ vs, oe.data = .fields vs) →
    Env0 P w K mg base A outer s H → BindsTo s fd args (ps.zip [.ref a]) → Sim (T.on c fs cl d a) ρ st H → OutF (T.on c fs cl d a) ρ H (mf c fs st) Q noE → codeAny (model P w) A (.call (.ref f) args) (CR (L2.CX P w) outer P w H s Q noE) s
section
variable {P : Program} {w : World} {K : PySem.W.Frag} {mg : Str → Option Value} {base : Heap} {T : Tx}
def mFunX (n : Nat) (mb : Nat → List (Nat × MV) → MS) (c : Nat) (fs : List (Nat × MV)) : M MV := fun st => flowR (mb c fs (some .exc :: List.replicate (n - 1) none) st)
theorem fn_okX {qual : Str} {st : Stmt} {f : Addr} {fd : FuncData} {N ps : List Str} {k : Nat} {mb : Nat → List (Nat × MV) → MS} (F : Df K qual st f fd) (S : FnScope N ps (defScope st)) (h1 : ps.length = 1)
    (hb : ∀ (cdv : Value) (A : Around) (outer : List Env) (s : Shared) (H : Hp) (a : Addr) (oe : Obj) (cl : Value) (d : Option Addr) (c : Nat) (fs : List (Nat × MV)), Zc cl d oe → (∃ vs, oe.data = .fields vs) → RoomH k (A.deeper (PyProof.Rows.envOfC qual (defScope st) s.heap.objs.size f cdv)) →
      PSs ((cxOf (L2.CX P w) P w K mg base N qual (defScope st) f cdv A outer s H noE).suite a ((a, oe) :: [])) (defBody st) (tS (T.on c fs cl d a) WF (mb c fs))) : FnX P w K mg base T (k + 1) f fd ps (mFunX N.length mb) := by
  obtain ⟨x, oc, od, dV, kV, doc, pm, an, cdv, ct, osl, rfl, lk, hcd⟩ := F.ex
  refine ⟨h1, fun A outer s H args Q a oe cl d c fs ρ sto hr hot hpin hz hf e0 hb1 hS hq => ?_⟩
  have KX : K.In s.heap := e0.mod.kin.keeps fun b o e => (e0.bs b o e).1
  have lim : s.heap.NoLimit := e0.mod.nolimit.keeps fun b o e => (e0.bs b o e).1
  have hkind : ∀ y ∈ ps.zip [Value.ref a], (defScope st).names.lookup y.1 = some .local ∨ ((defScope st).names.lookup y.1 = some .cell ∧ ((cellsFrom (s.heap.objs.size + 1) (defScope st).names []).lookup y.1).isSome = true) := fun ⟨n, v⟩ hy => by
    rcases S.par n (List.of_mem_zip hy).1 with q | q
    · exact .inl q
    · exact .inr ⟨q, PySem.W.cellsFrom_some _ _ _ (.inl q)⟩
  refine codeAny_call_function hr.depth (KX _ _ lk) rfl S.co S.gen rfl (PySem.W.codeRec_of KX hcd) (hb1 _ _ _ _ ?_)
  refine wpAny_newFunctionEnv_cells S.kind hkind fun env he s1 x => ?_
  subst he
  refine ⟨lim.keeps x.toInCall.keep, codeAny_func ?_⟩
  have ht := hb cdv A outer s H a oe cl d c fs hz hf (hr.deeper _)
  have I0 : Inv (cxH (L2.CX P w) P w K mg base N qual (defScope st) f cdv A outer s H noE (a, oe)) [] (L2.start N [V.ref a]) H s1 := inv_startH S hpin e0 (by rw [h1]; rfl) (.cons rfl .nil) x
  have I : Inv ((cxOf (L2.CX P w) P w K mg base N qual (defScope st) f cdv A outer s H noE).suite a ((a, oe) :: [])) [] (L2.start N [V.ref a]) H s1 :=
    ⟨⟨I0.ok.mod, I0.ok.kind, I0.ok.glob, I0.ok.blt, I0.ok.above, I0.ok.inj, I0.ok.has, I0.ok.cab, (fun z => Bool.noConfusion (show false = true from z)), I0.ok.frames, I0.ok.stk, I0.ok.exf, I0.ok.bs, I0.ok.bsz, I0.ok.noex, I0.ok.exfs, I0.ok.funs, I0.ok.frf⟩, I0.os, I0.bare, I0.base, I0.loc, I0.cell, I0.free, I0.freeC, I0.pin, I0.hok, I0.len⟩
  have hm : ∀ e : Env, (A.deeper e).mark (some (.ref a)) = A.deeper e := fun e => by
    obtain ⟨hd, dp, fr, gu, un⟩ := A
    cases hot
    rfl
  have hN : N.length = 1 + (N.length - 1) := by
    have := congrArg List.length S.pre
    rw [List.length_take] at this
    omega
  have red : tS (T.on c fs cl d a) WF (mb c fs) { nx := fun _ H' => Q .non H', rt := Q } (L2.start N [V.ref a]) H := by
    refine ⟨ρ, sto, some .exc :: List.replicate (N.length - 1) none, hS, ?_, ?_⟩
    · unfold L2.start
      refine ⟨.ref a, List.replicate (N.length - 1) none, rfl, .inr ⟨rfl, c, fs, cl, d, a, rfl, rfl⟩, ?_⟩
      exact REnv.start (ms := []) (vs := []) rfl _
    · unfold mFunX at hq
      revert hq
      generalize mb c fs (some .exc :: List.replicate (N.length - 1) none) sto = r
      intro h'
      cases r with
      | nx e s => exact fun ρ' H' σ' F _ => h' ρ' H' .non F rfl
      | rt v s => exact h'
      | bk e s => exact False.elim h'
      | ct e s => exact False.elim h'
      | ex e c fs s => exact fun ρ' H' σ' cl d F _ r => h' ρ' H' cl d F r
      | bad => exact False.elim h'
  have W : wpAny (model P w) ((A.deeper (envOfC qual (defScope st) s.heap.objs.size f cdv)).mark (some (.ref a))) (execs (defBody st) (envOfC qual (defScope st) s.heap.objs.size f cdv)) (SP ((cxOf (L2.CX P w) P w K mg base N qual (defScope st) f cdv A outer s H noE).suite a ((a, oe) :: [])) [] { nx := fun _ H' => Q .non H', rt := Q }) (fun _ _ => False) s1 := ht.run [] s1 (L2.start N [V.ref a]) H _ I red
  rw [hm] at W
  refine wpAny_mono W (fun fl s' hs => ?_) fun e s' hs => False.elim hs
  have fin : ∀ {σ' : L2.St} {H' : Hp} {v : V} {u : Value}, Inv ((cxOf (L2.CX P w) P w K mg base N qual (defScope st) f cdv A outer s H noE).suite a ((a, oe) :: [])) [] σ' H' s' → RelV v u → Q v H' → CE outer P w H s Q u s' :=
    fun {σ' H' v u} J rv q => ⟨v, H', J.os, J.bare, J.base, J.hok, rv, q⟩
  cases fl with
  | ret u =>
    obtain ⟨v, σ', H', J, rv, q⟩ := hs
    exact fin J rv q
  | next =>
    obtain ⟨σ', H', J, q⟩ := hs
    exact fin (v := V.non) (u := Value.none) J rfl q
  | brk =>
    obtain ⟨_, _, _, q⟩ := hs
    exact False.elim q
  | cont =>
    obtain ⟨_, _, _, q⟩ := hs
    exact False.elim q
end
/-- the call -/
def mCallX (i : Nat) (r : M MV) : Ev → M MV := fun env s => match env.getD i none with
  | some .exc => r s
  | _ => .bad
section
variable {X : Cx} {T : Tx} {a : Addr} {oe : Obj} {pn : List (Addr × Obj)} {cl : Value} {d : Option Addr} {c : Nat} {fs : List (Nat × MV)} {x y : Str} {px q pos : Pos} {k : Nat} {f : Addr} {fd : FuncData} {ps : List Str} {mf : Nat → List (Nat × MV) → M MV}
theorem outF_noE {W : WX} {ρ : List Addr} {H : Hp} {σ : L2.St} {r : R MV} {Q : VK} (h : Out T WF (RV T) ρ H σ r Q) : OutF T ρ H r Q noE := by
  cases r with
  | ok v s => exact h
  | ex c fs s => exact fun ρ' H' cl d F r => h ρ' H' cl d F r
  | bad => exact h
theorem v_callX (i : Nat) (F : FnX X.prog X.w X.K X.mg X.base T k f fd ps mf) (hr : RoomH k X.A) (hm : X.mg x = some (.ref f)) (hk : PySem.W.keepIn X.K (.ref f) = true) (hb : Binds X.K fd ps []) (hz : Zc cl d oe) (hf : ∃ vs, oe.data = .fields vs)
    (hx : PE (X.suite a ((a, oe) :: pn)) (.Name y px) (fun σ H Q => ∃ v, σ[i]? = some (some v) ∧ Q v H)) (hg : Gl X x := by rfl) (hdb : (x == ("__debug__" : Str)) = false := by decide)
    (he : starEach (.Name y px :: []) X.env = (false, eval (.Name y px) X.env) :: starEach [] X.env := by rfl) (hpl : (backTo pos (starEach [] X.env)).any (·.1) = false := by rfl) :
    PE (X.suite a ((a, oe) :: pn)) (.Call (.Name x q) [.Name y px] [] pos) (tE (T.on c fs cl d a) WF (mCallX i (mf c fs))) := by
  refine ⟨fun pins s σ H Q I ⟨ρ, st, env, S, E, h⟩ => ?_⟩
  unfold mCallX at h
  cases e : env.getD i none with
  | none => rw [e] at h; exact h.elim
  | some m =>
    rw [e] at h
    cases m with
    | exc =>
      obtain ⟨R, hs⟩ := exc_rx S E (getD_some e)
      have ha : PA (X.suite a ((a, oe) :: pn)) [.Name y px] _ := pa_cons hx pa_nil he
      refine wpAny_Call_Name_kw (ld_glob (X := X.suite a ((a, oe) :: pn)) I hg hm ?_ hdb)
      refine PySem.W.callWith_K (h₀ := X.base) I.ok.mod.kin hk (thn (ha.run pos pins s σ H (fun vs H1 => vs = [V.ref a] ∧ H1 = H) I ⟨_, hs, rfl, rfl⟩) fun us s1 ⟨vs, H1, I1, r, e1, e2⟩ => ⟨I1.kIn, ?_⟩) he hpl
      subst e1 e2
      obtain ⟨u, rfl, ru⟩ : ∃ u, us = [u] ∧ RelV (V.ref a) u := by
        cases r with
        | cons r1 r2 => cases r2; exact ⟨_, rfl, r1⟩
      cases (show u = Value.ref a from ru)
      have b := hb s1 [.ref a] I1.kIn (by rw [List.append_nil, F.one]; rfl)
      rw [List.append_nil] at b
      have P1 := I1.pin (a, oe) (List.mem_append_left _ List.mem_cons_self)
      have hpin : PinOk X.stack H1 s1 (a, oe) := ⟨P1.1, P1.2.1, fun hm => (List.mem_cons.mp (I1.stkSub a hm)).elim P1.2.2.1 P1.2.2.2.1, P1.2.2.2.2⟩
      refine wpAny_call (codeAny_mono (F.run (X.A.mark (some (.ref a))) X.stack s1 H1 ⟨[.ref a], []⟩ Q a oe cl d c fs ρ st ⟨hr.dp, hr.un⟩ rfl hpin hz hf I1.env0 b S (outF_noE (W := WF) h)) fun r s' hq => ?_)
      cases r with
      | error e =>
        obtain ⟨_, _, _, _, _, _, _, _, _, _, _, _, z⟩ := hq
        exact z.elim
      | ok fl =>
        cases fl with
        | ret u => exact I1.after hq
        | next => exact False.elim hq
        | brk => exact False.elim hq
        | cont => exact False.elim hq
    | _ => exact h.elim
end
end Z

namespace Z
open PySem L2
def cRai (x : Str) : Fc := fun K => decide (PySem.W.subIn K (.ref (He.ga K x)) (.type "BaseException") = some true) && decide (PySem.W.typeIn K (.ref (He.ga K x)) = some (.type "type"))
theorem TxtZ.rai {fs : List Fc} {fn : List He.DefD} {mg : Str → Option Value} {x : Str} {X : Cx} (T : TxtZ fs fn X.K mg) (i : Nat) (h : fs[i]? = some (cRai x) := by rfl) : Raises X (.ref (He.ga X.K x)) := by
  obtain ⟨h1, h2⟩ := and2 (T.c.fc i h)
  exact raises_own (of_decide_eq_true h1) (of_decide_eq_true h2)
theorem all_nil {α β : Type} {P : α → β → Prop} : ∀ q ∈ ([] : List (α × β)), P q.1 q.2 := fun q hq => nomatch hq
theorem all_cons {α β : Type} {P : α → β → Prop} {c : α} {m : β} {l : List (α × β)} (h : P c m) (r : ∀ q ∈ l, P q.1 q.2) : ∀ q ∈ (c, m) :: l, P q.1 q.2 := fun q hq => by
  rcases List.mem_cons.mp hq with e | e
  · rw [e]; exact h
  · exact r q e
theorem _root_.L2.ExcC.xf {K : PySem.W.Frag} {D : Addr} (h : ExcC K D) : XfC K D := ⟨h.hg, h.hk, h.hs, h.hd⟩
end Z

namespace Z
open PySem L2 PyProof.Rows
/-- the end, with the script's bits -/
theorem walk_ofB {l : PySem.W.OpenLaw} {n k : Nat} {q : Program} {loose : List Str} {XP : (Str → Option Value) → Heap → Prop} {YP : World → Heap → Prop} {d : PySem.DefRec} {CX : World → CXT} {x : Str} (hn : l.most = some n) (hn2 : n ≤ sizeLine) (hdf : d.params.defaults = []) (hr : Room k PySem.callerA)
    (F : ∀ (w : World) (mg : Str → Option Value) (fa : Addr) (h : Heap), YP w h → h.Ns mainGlobals mg → mg d.name = some (.ref fa) → ∃ (K : PySem.W.Frag) (fd : FuncData) (sp : Sp), K.In h ∧ (∀ (s : Shared) (u : Value), BindsTo s fd ⟨[u], []⟩ [(x, u)]) ∧
      (∀ (H : Hp) (a : Addr) (ns : List Int), ns.length ≤ n → (∀ k ∈ ns, nb k ≤ 1048576) → Only H → SqL K H a (ns.map V.int) → sp [.ref a] H (fun v _ => v = .bl true) fun _ _ _ => False) ∧ ∀ base : Heap, K.In base → base.Ns mainGlobals mg → FnOk l.prog w K mg base (CX w) k fa fd [x] sp)
    (hCX : ∀ (w : World) (H : Hp) (s : Shared) (e : Value) (s' : Shared), CX w [] H s (fun _ _ _ => False) e s' → False) : PySem.W.WalkO q loose XP YP l.row.toRowW d [] (fun f vs => PySem.call f vs) := by
  refine Att.attach_callB hn hdf fun w s0 s1 mg mb fa o pm cd doc a vs ns G Y ho hd hcd hmg hobj hints hlen hbits hg => ?_
  have ⟨K, fd, sp, KX, hb, hsp, hF⟩ := F w mg fa _ Y G.T.g hmg
  refine law_call (CX := CX w) KX G.T.g G.T.b G.T.builtins G.T.nolimit hg hobj hints (Nat.le_trans hlen hn2) hr hF hb ?_ ?_
  · exact fun H hO hS => hsp H a ns hlen hbits hO hS
  · exact fun H e s' => hCX w H s1 e s'
end Z

namespace Z
open PySem L2
section
variable {env : Ev} {s : Sto}
@[simp ↓] theorem mMB_run (ok : Sto → MV → Bool) (f : MV → List MV → M MV) (mo : Ev → M MV) (as : Ev → M (List MV)) : mMB ok f mo as env s = (match mo env s with | .ok x t => (if ok t x = true then (match as env t with | .ok xs u => f x xs u | .ex c fs t => .ex c fs t | .bad => .bad) else .bad) | .ex c fs t => .ex c fs t | .bad => .bad) := by
  unfold mMB M.bnd
  cases mo env s with
  | ex c fs z => rfl
  | bad => rfl
  | ok x0 t0 =>
    simp only []
    by_cases h : ok t0 x0 = true
    · rw [if_pos h, if_pos h]
      cases as env t0 <;> rfl
    · rw [if_neg h, if_neg h]
theorem fAppend_r {n : Nat} {xs : List MV} (y : MV) (h : s[n]? = some (.lst xs)) (hl : xs.length < line) : fAppend (.ref n) [y] s = .ok .non (s.set n (.lst (xs ++ [y]))) := by
  simp only [fAppend, onLs, h, if_pos hl]
theorem isLs_r {n : Nat} {xs : List MV} (h : s[n]? = some (.lst xs)) : isLs s (.ref n) = true := by
  simp [isLs, listOf, h]
@[simp ↓] theorem sRaiseA_run (c f : Nat) (ma : Ev → M MV) : sRaiseA c f ma env s = (match ma env s with | .ok v t => (if smM v = true then .ex env c [(f, v)] t else .bad) | .ex c fs t => .ex env c fs t | .bad => .bad) := by
  unfold sRaiseA bndS
  cases ma env s <;> rfl
@[simp] theorem fMax_i (i j : Int) : fMax s [.int i, .int j] = some (.int (if j > i then j else i)) := rfl
@[simp] theorem fMin_i (i j : Int) : fMin s [.int i, .int j] = some (.int (if j < i then j else i)) := rfl
@[simp ↓] theorem mChain3_run (f g h : Sto → MV → MV → Option Bool) (ma mb mc md : Ev → M MV) : mChain3 f g h ma mb mc md env s = (match ma env s with
    | .ok x t => (match mb env t with
      | .ok y u => (match f u x y with
        | some k => (if k = true then (match mc env u with
          | .ok z v => (match g v y z with
            | some k2 => (if k2 = true then (match md env v with
              | .ok w o => M.opt (h o z w) o
              | .ex c fs t => .ex c fs t
              | .bad => .bad) else .ok false v)
            | none => .bad)
          | .ex c fs t => .ex c fs t
          | .bad => .bad) else .ok false u)
        | none => .bad)
      | .ex c fs t => .ex c fs t
      | .bad => .bad)
    | .ex c fs t => .ex c fs t
    | .bad => .bad) := by
  unfold mChain3 M.bnd
  cases ma env s with
  | ex c fs z => rfl
  | bad => rfl
  | ok x t =>
    simp only []
    cases mb env t with
    | ex c fs z => rfl
    | bad => rfl
    | ok y u =>
      simp only []
      cases f u x y with
      | none => rfl
      | some k =>
        cases k with
        | false => rfl
        | true =>
          simp only [opt_some, if_true]
          cases mc env u with
          | ex c fs z => rfl
          | bad => rfl
          | ok z v =>
            simp only []
            cases g v y z with
            | none => rfl
            | some k2 =>
              cases k2 with
              | false => rfl
              | true =>
                simp only [opt_some, if_true]
                cases md env v <;> rfl
@[simp ↓] theorem mExcI_run (i : Nat) (b : Bool) : mExcI i b env s = (match env.getD i none with | some .exc => .ok (.bl b) s | _ => .bad) := rfl
@[simp ↓] theorem mCallX_run (i : Nat) (r : M MV) : mCallX i r env s = (match env.getD i none with | some .exc => r s | _ => .bad) := rfl
@[simp ↓] theorem mExcF_run (i f : Nat) (fs : List (Nat × MV)) : mExcF i f fs env s = (match env.getD i none, lookN f fs with | some .exc, some v => .ok v s | _, _ => .bad) := rfl
@[simp ↓] theorem sTryN_run (mb : MS) (hs : List Hnd) : sTryN mb hs env s = (match mb env s with | .ex e c fs t => handN hs e c fs t | .nx e t => .nx e t | .rt v t => .rt v t | .bk e t => .bk e t | .ct e t => .ct e t | .bad => .bad) := by
  unfold sTryN
  cases mb env s <;> rfl
end
end Z

namespace Z
open PySem L2
/-! ### comprehensions that leave the store as it is -/
/-- a value without cells, of no great depth -/
def Flat : MV → Prop := fun v => ∀ (t : Sto) (n : Nat), frzM t n 40 v = some v
theorem mapM_flat {t : Sto} {n : Nat} : ∀ {xs : List MV}, (∀ x ∈ xs, Flat x) → xs.mapM (frzM t n 40) = some xs
  | [], _ => rfl
  | x :: xs, h => by
    rw [List.mapM_cons, h x List.mem_cons_self t n, mapM_flat fun y hy => h y (List.mem_cons_of_mem _ hy)]
    rfl
theorem lcL_pure {g : MG} {mt : Ev → M Bool} {me : Ev → M MV} {ok : Sto → Prop} {env : Ev} {s : Sto} {b : MV → Bool} {v : MV → MV} : ∀ (xs acc : List MV),
    (∀ x ∈ xs, ∀ a, ∃ e, g x env (s ++ [.lst a]) = .ok e (s ++ [.lst a]) ∧ mt e (s ++ [.lst a]) = .ok (b x) (s ++ [.lst a]) ∧ (b x = true → me e (s ++ [.lst a]) = .ok (v x) (s ++ [.lst a]))) → (∀ a, ok (s ++ [.lst a])) → acc.length + xs.length ≤ line →
    lcL g mt me ok s.length env xs (s ++ [.lst acc]) = some (s ++ [.lst (acc ++ (xs.filter b).map v)])
  | [], acc, _, ho, _ => by simp [lcL, ho acc]
  | x :: xs, acc, h, ho, hl => by
    obtain ⟨e, h1, h2, h3⟩ := h x List.mem_cons_self acc
    simp only [List.length_cons] at hl
    have ih := fun acc' => lcL_pure (g := g) (mt := mt) (me := me) (ok := ok) (env := env) (s := s) (b := b) (v := v) xs acc' (fun y hy => h y (List.mem_cons_of_mem _ hy)) ho
    unfold lcL
    rw [if_pos (ho acc), h1]
    simp only [h2]
    cases hb : b x with
    | false =>
      simp only []
      rw [ih acc (by omega), List.filter_cons_of_neg (by rw [hb]; decide)]
    | true =>
      simp only [h3 hb]
      have hg : (s ++ [Cell.lst acc])[s.length]? = some (.lst acc) := by simp
      have hs : (s ++ [Cell.lst acc]).set s.length (.lst (acc ++ [v x])) = s ++ [.lst (acc ++ [v x])] := by simp
      rw [hg]
      simp only []
      rw [if_pos (by omega), hs, ih _ (by simp; omega), List.filter_cons_of_pos hb]
      simp
theorem mLc_pure {mi : MI} {it : _} {g : MG} {mt : Ev → M Bool} {me : Ev → M MV} {vs : List Nat} {env : Ev} {s : Sto} (b : MV → Bool) (v : MV → MV) (hi : mi env s = .ok it s)
    (h : ∀ x ∈ it.xs, ∀ a, ∃ e, g x (wipeM env vs) (s ++ [.lst a]) = .ok e (s ++ [.lst a]) ∧ mt e (s ++ [.lst a]) = .ok (b x) (s ++ [.lst a]) ∧ (b x = true → me e (s ++ [.lst a]) = .ok (v x) (s ++ [.lst a]))) (ho : ∀ a, it.ok (s ++ [.lst a])) (hl : it.xs.length ≤ line) (hf : ∀ x ∈ it.xs, Flat (v x)) :
    mLc true mi g mt me vs env s = .ok (.lst ((it.xs.filter b).map v)) s := by
  unfold mLc M.bnd
  rw [hi]
  simp only []
  rw [lcL_pure (b := b) (v := v) it.xs [] h ho (by simpa using hl)]
  have hm : ((it.xs.filter b).map v).mapM (frzM (s ++ [Cell.lst ([] ++ (it.xs.filter b).map v)]) s.length 40) = some ((it.xs.filter b).map v) := mapM_flat fun x hx => by
    obtain ⟨y, hy, rfl⟩ := List.mem_map.mp hx
    exact hf y (List.mem_filter.mp hy).1
  have h1 : (s ++ [Cell.lst ([] ++ (it.xs.filter b).map v)])[s.length]? = some (.lst ([] ++ (it.xs.filter b).map v)) := by simp
  have h2 : (s ++ [Cell.lst ([] ++ (it.xs.filter b).map v)]).take s.length = s := by simp
  simp only [if_true, h1, h2]
  rw [if_pos ⟨by simp, fun i c h hi => .inl (by rw [List.getElem?_append_left hi] at h; exact h)⟩]
  rw [List.nil_append] at hm ⊢
  rw [hm]
end Z

namespace Z
open PySem L2
/-! ### == of plain data, by an encoding -/
structure Enc {α : Type} (f : α → MV) (g : α → PyData) (ok : α → Prop) (n : Nat) : Prop where
  py : ∀ (s : Sto) (k : Nat) (a : α), n ≤ k → toPy s k (f a) = some (g a)
  lay : ∀ a, ok a → (g a).canLay0 = true
  dep : ∀ a, (g a).depth ≤ n
  eq : ∀ a b, PyData.eqv (g a) (g b) = true ↔ a = b
theorem enc_int : Enc (fun i : Int => .int i) (fun i => .int i) (fun _ => True) 1 where
  py s k a h := by cases k with | zero => omega | succ k => rfl
  lay a _ := rfl
  dep a := by simp [PyData.depth]
  eq a b := by simp [PyData.eqv]
theorem enc_str : Enc (fun i : Str => .str i) (fun i => .str i) (fun x => PyData.canLay0 (.str x) = true) 1 where
  py s k a h := by cases k with | zero => omega | succ k => rfl
  lay a h := h
  dep a := by simp [PyData.depth]
  eq a b := by simp [PyData.eqv]
section
variable {α : Type} {f : α → MV} {g : α → PyData} {ok : α → Prop} {n : Nat}
theorem Enc.mapM (E : Enc f g ok n) (s : Sto) (k : Nat) (h : n ≤ k) : ∀ xs : List α, (xs.map f).mapM (toPy s k) = some (xs.map g)
  | [] => rfl
  | x :: xs => by
    rw [List.map_cons, List.mapM_cons, E.py s k x h, E.mapM s k h xs]
    rfl
theorem Enc.layAll (E : Enc f g ok n) : ∀ xs : List α, (∀ x ∈ xs, ok x) → PyData.canLayAll0 (xs.map g) = true
  | [], _ => rfl
  | x :: xs, h => by
    show (PyData.canLay0 (g x) && PyData.canLayAll0 (xs.map g)) = true
    rw [E.lay x (h x List.mem_cons_self), E.layAll xs fun y hy => h y (List.mem_cons_of_mem _ hy)]
    rfl
theorem Enc.eqAll (E : Enc f g ok n) : ∀ xs ys : List α, PyData.eqvAll (xs.map g) (ys.map g) = true ↔ xs = ys
  | [], [] => by simp [PyData.eqvAll]
  | [], y :: ys => by simp [PyData.eqvAll]
  | x :: xs, [] => by simp [PyData.eqvAll]
  | x :: xs, y :: ys => by
    show (PyData.eqv (g x) (g y) && PyData.eqvAll (xs.map g) (ys.map g)) = true ↔ _
    rw [Bool.and_eq_true, E.eq x y, E.eqAll xs ys]
    simp
theorem Enc.depAll (E : Enc f g ok n) : ∀ xs : List α, PyData.depthAll (xs.map g) ≤ n
  | [] => Nat.zero_le _
  | x :: xs => by
    show max (PyData.depth (g x)) (PyData.depthAll (xs.map g)) ≤ n
    exact Nat.max_le.mpr ⟨E.dep x, E.depAll xs⟩
theorem Enc.lst (E : Enc f g ok n) : Enc (fun xs : List α => .lst (xs.map f)) (fun xs => .list (xs.map g)) (fun xs => ∀ x ∈ xs, ok x) (n + 1) where
  py s k a h := by
    obtain ⟨k, rfl⟩ : ∃ j, k = j + 1 := ⟨k - 1, by omega⟩
    show ((a.map f).mapM (toPy s k)).map PyData.list = _
    rw [E.mapM s k (by omega) a]; rfl
  lay a h := by simpa [PyData.canLay0] using E.layAll a h
  dep a := by
    have := E.depAll a
    simp only [PyData.depth]; omega
  eq a b := by simpa [PyData.eqv] using E.eqAll a b
theorem Enc.tup (E : Enc f g ok n) : Enc (fun xs : List α => .tup (xs.map f)) (fun xs => .tuple (xs.map g)) (fun xs => ∀ x ∈ xs, ok x) (n + 1) where
  py s k a h := by
    obtain ⟨k, rfl⟩ : ∃ j, k = j + 1 := ⟨k - 1, by omega⟩
    show ((a.map f).mapM (toPy s k)).map PyData.tuple = _
    rw [E.mapM s k (by omega) a]; rfl
  lay a h := by simpa [PyData.canLay0] using E.layAll a h
  dep a := by
    have := E.depAll a
    simp only [PyData.depth]; omega
  eq a b := by simpa [PyData.eqv] using E.eqAll a b
open Classical in
theorem Enc.deep (E : Enc f g ok n) (hn : n ≤ 30) {s : Sto} {x y : MV} {a b : α} (hx : toPy s 30 x = some (g a)) (hy : toPy s 30 y = some (g b)) (ha : ok a) (hb : ok b) : deepEq s x y = some (decide (a = b)) := by
  unfold deepEq
  rw [hx, hy]
  have sh : ∀ c, ok c → SeqAt.shaped (g c) = true := fun c hc => by
    have := E.dep c
    unfold SeqAt.shaped
    rw [E.lay c hc, Bool.true_and]
    exact decide_eq_true (by omega)
  simp only []
  rw [if_pos ⟨sh a ha, sh b hb⟩]
  by_cases h : a = b
  · rw [decide_eq_true h, (E.eq a b).mpr h]
  · rw [decide_eq_false h]
    cases e : PyData.eqv (g a) (g b) with
    | false => rfl
    | true => exact absurd ((E.eq a b).mp e) h
/-- a cell that holds such a list -/
theorem Enc.ref (E : Enc f g ok n) {s : Sto} {q k : Nat} {xs : List α} (h : s[q]? = some (.lst (xs.map f))) (hk : n + 1 ≤ k) : toPy s k (.ref q) = some (.list (xs.map g)) := by
  obtain ⟨k, rfl⟩ : ∃ j, k = j + 1 := ⟨k - 1, by omega⟩
  simp only [toPy, h]
  rw [E.mapM s k (by omega) xs]; rfl
end
end Z

namespace Z
open PySem L2
/-! ### what is wanted of an answer -/
abbrev RQ (α : Type) (_ : α → Sto → Prop) (_ : Nat → List (Nat × MV) → Sto → Prop) : Type := R α
def Wp {α : Type} (Q : α → Sto → Prop) (X : Nat → List (Nat × MV) → Sto → Prop) (r : RQ α Q X) : Prop := match r with
  | .ok a s => Q a s
  | .ex c fs s => X c fs s
  | .bad => False
structure Po where
  n : Ev → Sto → Prop
  r : MV → Sto → Prop
  b : Ev → Sto → Prop
  c : Ev → Sto → Prop
  x : Ev → Nat → List (Nat × MV) → Sto → Prop
/-- what is wanted behind the first of two -/
def Po.thn (P : Po) (k : Ev → Sto → Prop) : Po := ⟨k, P.r, P.b, P.c, P.x⟩
def Po.hnd (P : Po) (k : Ev → Nat → List (Nat × MV) → Sto → Prop) : Po := ⟨P.n, P.r, P.b, P.c, k⟩
/-- .. behind a turn -/
def Po.turn (P : Po) (k : Ev → Sto → Prop) : Po := ⟨k, P.r, P.n, k, P.x⟩
/-- .. behind a body -/
def Po.fn (Q : MV → Sto → Prop) (X : Nat → List (Nat × MV) → Sto → Prop) : Po := ⟨fun _ t => Q .non t, Q, fun _ _ => False, fun _ _ => False, fun _ c fs t => X c fs t⟩
section
variable {P : Po} {k : Ev → Sto → Prop} {kx : Ev → Nat → List (Nat × MV) → Sto → Prop} {Q : MV → Sto → Prop} {X : Nat → List (Nat × MV) → Sto → Prop} {e : Ev} {s : Sto} {v : MV} {c : Nat} {fs : List (Nat × MV)}
@[simp ↓] theorem thn_n : (P.thn k).n e s = k e s := rfl
@[simp ↓] theorem thn_r : (P.thn k).r v s = P.r v s := rfl
@[simp ↓] theorem thn_b : (P.thn k).b e s = P.b e s := rfl
@[simp ↓] theorem thn_c : (P.thn k).c e s = P.c e s := rfl
@[simp ↓] theorem thn_x : (P.thn k).x e c fs s = P.x e c fs s := rfl
@[simp ↓] theorem turn_n : (P.turn k).n e s = k e s := rfl
@[simp ↓] theorem turn_r : (P.turn k).r v s = P.r v s := rfl
@[simp ↓] theorem turn_b : (P.turn k).b e s = P.n e s := rfl
@[simp ↓] theorem turn_c : (P.turn k).c e s = k e s := rfl
@[simp ↓] theorem turn_x : (P.turn k).x e c fs s = P.x e c fs s := rfl
@[simp ↓] theorem hnd_n : (P.hnd kx).n e s = P.n e s := rfl
@[simp ↓] theorem hnd_r : (P.hnd kx).r v s = P.r v s := rfl
@[simp ↓] theorem hnd_b : (P.hnd kx).b e s = P.b e s := rfl
@[simp ↓] theorem hnd_c : (P.hnd kx).c e s = P.c e s := rfl
@[simp ↓] theorem hnd_x : (P.hnd kx).x e c fs s = kx e c fs s := rfl
@[simp ↓] theorem fn_n : (Po.fn Q X).n e s = Q .non s := rfl
@[simp ↓] theorem fn_r : (Po.fn Q X).r v s = Q v s := rfl
@[simp ↓] theorem fn_b : (Po.fn Q X).b e s = False := rfl
@[simp ↓] theorem fn_c : (Po.fn Q X).c e s = False := rfl
@[simp ↓] theorem fn_x : (Po.fn Q X).x e c fs s = X c fs s := rfl
end
abbrev FlP (_ : Po) : Type := Fl
def WpS (P : Po) (f : FlP P) : Prop := match f with
  | .nx e s => P.n e s
  | .rt v s => P.r v s
  | .bk e s => P.b e s
  | .ct e s => P.c e s
  | .ex e c fs s => P.x e c fs s
  | .bad => False
abbrev OQ (α : Type) (_ : α → Prop) : Type := Option α
def WpO {α : Type} (Q : α → Prop) (o : OQ α Q) : Prop := match o with
  | some a => Q a
  | none => False
abbrev EvK (_ : Ev → Prop) : Type := Ev
abbrev UnD (_ : Prop) : Type := Unit
/-- what is not to be looked into -/
def Seal (p : Prop) (_ : UnD p) : Prop := p
theorem sl {p : Prop} {u : Unit} (h : p) : Seal p u := h
def twoOf : List MV → Option (MV × MV)
  | [v, w] => some (v, w)
  | _ => none
@[simp] theorem twoOf_2 (v w : MV) : twoOf [v, w] = some (v, w) := rfl
/-- a name's value -/
def evG : Ev → Nat → Option MV
  | [], _ => none
  | x :: _, 0 => x
  | _ :: e, n + 1 => evG e n
@[simp] theorem evG_0 (x : Option MV) (e : Ev) : evG (x :: e) 0 = x := rfl
@[simp] theorem evG_s (x : Option MV) (e : Ev) (n : Nat) : evG (x :: e) (n + 1) = evG e n := rfl
theorem evG_eq : ∀ (e : Ev) (n : Nat), e.getD n none = evG e n
  | [], _ => rfl
  | x :: _, 0 => rfl
  | _ :: e, n + 1 => evG_eq e n
/-- the names are reckoned first -/
def Nf (k : Ev → Prop) (e : EvK k) : Prop := k e
@[simp] theorem Nf_eq (k : Ev → Prop) (e : Ev) : Nf k e = k e := rfl
abbrev noX : Nat → List (Nat × MV) → Sto → Prop := fun _ _ _ => False
section
variable {α β : Type} {env : Ev} {s : Sto} {Q : α → Sto → Prop} {X : Nat → List (Nat × MV) → Sto → Prop} {P : Po}
@[simp] theorem wp_ok (a : α) : Wp Q X (.ok a s) = Q a s := rfl
@[simp] theorem wp_bad : Wp Q X (.bad : R α) = False := rfl
@[simp] theorem wp_ex (c : Nat) (fs : List (Nat × MV)) : Wp Q X (.ex c fs s : R α) = X c fs s := rfl
@[simp] theorem wpO_some {Q : α → Prop} (a : α) : WpO Q (some a) = Q a := rfl
@[simp] theorem wpO_none {Q : α → Prop} : WpO Q (none : Option α) = False := rfl
@[simp] theorem wps_nx (e : Ev) : WpS P (.nx e s) = P.n e s := rfl
@[simp] theorem wps_rt (v : MV) : WpS P (.rt v s) = P.r v s := rfl
@[simp] theorem wps_bk (e : Ev) : WpS P (.bk e s) = P.b e s := rfl
@[simp] theorem wps_ct (e : Ev) : WpS P (.ct e s) = P.c e s := rfl
@[simp] theorem wps_bad : WpS P .bad = False := rfl
@[simp] theorem wps_ex (e : Ev) (c : Nat) (fs : List (Nat × MV)) : WpS P (.ex e c fs s) = P.x e c fs s := rfl
theorem wp_bnd {m : M β} {f : β → M α} : Wp Q X (M.bnd m f s) = Wp (fun a t => Wp Q X (f a t)) X (m s) := by
  unfold M.bnd
  cases m s <;> rfl
theorem wp_opt {o : Option α} : Wp Q X (M.opt o s) = WpO (fun a => Q a s) o := by
  cases o <;> rfl
@[simp ↓] theorem wp_mopt {o : Option α} : Wp Q X (M.opt o s) = WpO (fun a => Q a s) o := wp_opt
@[simp ↓] theorem wp_ret {a : α} : Wp Q X (M.ret a s) = Q a s := rfl
theorem wpS_bnd {m : M α} {f : α → Sto → Fl} : WpS P (bndS m env f s) = Wp (fun a t => WpS P (f a t)) (fun c fs t => P.x env c fs t) (m s) := by
  unfold bndS
  cases m s <;> rfl
theorem wp_if {c : Prop} [Decidable c] {a b : R α} : Wp Q X (if c then a else b) = ((c → Wp Q X a) ∧ (¬c → Wp Q X b)) := by
  by_cases h : c <;> simp [h]
theorem wpS_if {c : Prop} [Decidable c] {a b : Fl} : WpS P (if c then a else b) = ((c → WpS P a) ∧ (¬c → WpS P b)) := by
  by_cases h : c <;> simp [h]
theorem wp_iff {k : Bool} {a b : R α} : Wp Q X (if k = true then a else b) = ((k = true → Wp Q X a) ∧ (k = false → Wp Q X b)) := by
  cases k <;> simp
theorem wpS_iff {k : Bool} {a b : Fl} : WpS P (if k = true then a else b) = ((k = true → WpS P a) ∧ (k = false → WpS P b)) := by
  cases k <;> simp
end
section
variable {env : Ev} {s : Sto} {Q : MV → Sto → Prop} {QB : Bool → Sto → Prop} {QL : List MV → Sto → Prop} {QO : Option Int → Sto → Prop} {QI : IT → Sto → Prop} {QE : Ev → Sto → Prop} {X : Nat → List (Nat × MV) → Sto → Prop} {P : Po}
@[simp ↓] theorem wp_mVar (i : Nat) : Wp Q X (mVar i env s) = WpO (fun v => v ≠ .exc ∧ Q v s) (evG env i) := by
  rw [← evG_eq]
  unfold mVar
  cases env.getD i none with
  | none => rfl
  | some v => cases v <;> simp [Wp]
@[simp ↓] theorem wp_mC (v : MV) : Wp Q X (mC v env s) = Q v s := rfl
@[simp ↓] theorem wp_mBin (f : Sto → MV → MV → Option MV) (ma mb : Ev → M MV) : Wp Q X (mBin f ma mb env s) = Wp (fun x t => Wp (fun y u => WpO (fun v => Q v u) (f u x y)) X (mb env t)) X (ma env s) := by
  unfold mBin; rw [wp_bnd]; congr 1; funext x t; rw [wp_bnd]; congr 1; funext y u; exact wp_opt
@[simp ↓] theorem wp_mUn (f : Sto → MV → Option MV) (ma : Ev → M MV) : Wp Q X (mUn f ma env s) = Wp (fun x t => WpO (fun v => Q v t) (f t x)) X (ma env s) := by
  unfold mUn; rw [wp_bnd]; congr 1; funext x t; exact wp_opt
@[simp ↓] theorem wp_mCmp (f : Sto → MV → MV → Option Bool) (ma mb : Ev → M MV) : Wp QB X (mCmp f ma mb env s) = Wp (fun x t => Wp (fun y u => WpO (fun v => QB v u) (f u x y)) X (mb env t)) X (ma env s) := by
  unfold mCmp; rw [wp_bnd]; congr 1; funext x t; rw [wp_bnd]; congr 1; funext y u; exact wp_opt
@[simp ↓] theorem wp_mV (m : Ev → M Bool) : Wp Q X (mV m env s) = Wp (fun b t => Q (.bl b) t) X (m env s) := by
  unfold mV; rw [wp_bnd]; rfl
@[simp ↓] theorem wp_mAnd (m m' : Ev → M Bool) : Wp QB X (mAnd m m' env s) = Wp (fun k t => (k = true → Wp QB X (m' env t)) ∧ (k = false → QB false t)) X (m env s) := by
  show Wp QB X (M.bnd _ _ _) = _
  rw [wp_bnd]
  congr 1; funext k t
  cases k <;> simp
@[simp ↓] theorem wp_mOr (m m' : Ev → M Bool) : Wp QB X (mOr m m' env s) = Wp (fun k t => (k = true → QB true t) ∧ (k = false → Wp QB X (m' env t))) X (m env s) := by
  show Wp QB X (M.bnd _ _ _) = _
  rw [wp_bnd]
  congr 1; funext k t
  cases k <;> simp
@[simp ↓] theorem wp_mNot (m : Ev → M Bool) : Wp QB X (mNot m env s) = Wp (fun k t => QB (!k) t) X (m env s) := by
  unfold mNot; rw [wp_bnd]; rfl
@[simp ↓] theorem wp_mTru (ma : Ev → M MV) : Wp QB X (mTru ma env s) = Wp (fun x t => WpO (fun k => QB k t) (truOf t x)) X (ma env s) := by
  unfold mTru; rw [wp_bnd]; congr 1; funext x t; exact wp_opt
@[simp ↓] theorem wp_mAndV (ma mb : Ev → M MV) : Wp Q X (mAndV ma mb env s) = Wp (fun x t => ∃ k, x = .bl k ∧ (k = true → Wp Q X (mb env t)) ∧ (k = false → Q (.bl false) t)) X (ma env s) := by
  show Wp Q X (M.bnd _ _ _) = _
  rw [wp_bnd]
  congr 1; funext x t
  cases x with
  | bl b => cases b <;> simp
  | _ => simp
@[simp ↓] theorem wp_mOrV (ma mb : Ev → M MV) : Wp Q X (mOrV ma mb env s) = Wp (fun x t => ∃ k, x = .bl k ∧ (k = true → Q (.bl true) t) ∧ (k = false → Wp Q X (mb env t))) X (ma env s) := by
  show Wp Q X (M.bnd _ _ _) = _
  rw [wp_bnd]
  congr 1; funext x t
  cases x with
  | bl b => cases b <;> simp
  | _ => simp
@[simp ↓] theorem wp_mNotV (ma : Ev → M MV) : Wp Q X (mNotV ma env s) = Wp (fun x t => ∃ k, x = .bl k ∧ Q (.bl !k) t) X (ma env s) := by
  show Wp Q X (M.bnd _ _ _) = _
  rw [wp_bnd]
  congr 1; funext x t
  cases x with
  | bl b => cases b <;> simp
  | _ => simp
@[simp ↓] theorem wp_mIte (m : Ev → M Bool) (ma mb : Ev → M MV) : Wp Q X (mIte m ma mb env s) = Wp (fun k t => (k = true → Wp Q X (ma env t)) ∧ (k = false → Wp Q X (mb env t))) X (m env s) := by
  show Wp Q X (M.bnd _ _ _) = _
  rw [wp_bnd]
  congr 1; funext k t
  cases k <;> simp
@[simp ↓] theorem wp_mNil : Wp QL X (mNil env s) = QL [] s := rfl
@[simp ↓] theorem wp_mCons (m : Ev → M MV) (r : Ev → M (List MV)) : Wp QL X (mCons m r env s) = Wp (fun x t => Wp (fun xs u => QL (x :: xs) u) X (r env t)) X (m env s) := by
  unfold mCons; rw [wp_bnd]; congr 1; funext x t; rw [wp_bnd]; rfl
@[simp ↓] theorem wp_mTup (as : Ev → M (List MV)) : Wp Q X (mTup as env s) = Wp (fun xs t => xs.length ≤ line ∧ Q (.tup xs) t) X (as env s) := by
  show Wp Q X (M.bnd _ _ _) = _
  rw [wp_bnd]
  congr 1; funext xs t
  by_cases h : xs.length ≤ line <;> simp [h]
@[simp ↓] theorem wp_mkList_t (xs : List MV) : Wp Q X (mkList true xs s) = Q (.lst xs) s := rfl
@[simp ↓] theorem wp_mkList_f (xs : List MV) : Wp Q X (mkList false xs s) = Q (.ref s.length) (s ++ [.lst xs]) := rfl
@[simp ↓] theorem wp_mLst (fr : Bool) (as : Ev → M (List MV)) : Wp Q X (mLst fr as env s) = Wp (fun xs t => xs.length ≤ line ∧ Wp Q X (mkList fr xs t)) X (as env s) := by
  show Wp Q X (M.bnd _ _ _) = _
  rw [wp_bnd]
  congr 1; funext xs t
  by_cases h : xs.length ≤ line <;> simp [h]
@[simp ↓] theorem wp_mIx (ma mb : Ev → M MV) : Wp Q X (mIx ma mb env s) = Wp Q X (mBin ixF ma mb env s) := rfl
@[simp ↓] theorem wp_mCallF (f : Sto → List MV → Option MV) (as : Ev → M (List MV)) : Wp Q X (mCallF f as env s) = Wp (fun xs t => WpO (fun v => Q v t) (f t xs)) X (as env s) := by
  unfold mCallF; rw [wp_bnd]; congr 1; funext x t; exact wp_opt
@[simp ↓] theorem wp_mCallL (fr : Bool) (f : Sto → List MV → Option (List MV)) (as : Ev → M (List MV)) : Wp Q X (mCallL fr f as env s) = Wp (fun xs t => WpO (fun ys => Wp Q X (mkList fr ys t)) (f t xs)) X (as env s) := by
  unfold mCallL; rw [wp_bnd]
  congr 1; funext xs t
  cases f t xs <;> rfl
@[simp ↓] theorem wp_mCall (mf : MF) (as : Ev → M (List MV)) : Wp Q X (mCall mf as env s) = Wp (fun xs t => Wp Q X (mf xs t)) X (as env s) := by
  unfold mCall; rw [wp_bnd]
@[simp ↓] theorem wp_mFld (f : Nat) (ma : Ev → M MV) : Wp Q X (mFld f ma env s) = Wp (fun x t => WpO (fun v => Q v t) (fldOf t f x)) X (ma env s) := by
  unfold mFld; rw [wp_mUn]
@[simp ↓] theorem wp_mMeth (cs : List (Nat × MF)) (ma : Ev → M MV) (as : Ev → M (List MV)) : Wp Q X (mMeth cs ma as env s) = Wp (fun x t => WpO (fun c => WpO (fun mf => Wp (fun xs u => Wp Q X (mf (x :: xs) u)) X (as env t)) (cs.lookup c)) (clsOf t x)) X (ma env s) := by
  rw [mMeth_run]
  cases ma env s with
  | ex c fs z => rfl
  | bad => rfl
  | ok x t =>
    simp only [wp_ok]
    cases clsOf t x with
    | none => rfl
    | some c =>
      simp only [wpO_some]
      cases cs.lookup c with
      | none => rfl
      | some mf =>
        simp only [wpO_some]
        cases as env t <;> rfl
@[simp ↓] theorem wp_mBinM (g : MV → MV → M MV) (ma mb : Ev → M MV) : Wp Q X (mBinM g ma mb env s) = Wp (fun x t => Wp (fun y u => Wp Q X (g x y u)) X (mb env t)) X (ma env s) := by
  unfold mBinM; rw [wp_bnd]; congr 1; funext x t; rw [wp_bnd]
@[simp ↓] theorem wp_mCmpM (g : MV → MV → M MV) (ma mb : Ev → M MV) : Wp QB X (mCmpM g ma mb env s) = Wp (fun x t => Wp (fun y u => Wp (fun v z => ∃ k, v = .bl k ∧ QB k z) X (g x y u)) X (mb env t)) X (ma env s) := by
  unfold mCmpM; rw [wp_bnd, wp_mBinM]
  congr 1; funext x t; congr 1; funext y u; congr 1; funext v z
  cases v <;> simp
@[simp ↓] theorem wp_mIsi (f : TyM → Option Bool) (ma : Ev → M MV) : Wp Q X (mIsi f ma env s) = Wp (fun x t => WpO (fun k => WpO (fun b => Q (.bl b) t) (f k)) (tyM t x)) X (ma env s) := by
  rw [mIsi_run]
  cases ma env s with
  | ok x t =>
    simp only [wp_ok]
    cases tyM t x with
    | none => rfl
    | some k =>
      simp only [wpO_some]
      cases f k <;> rfl
  | _ => rfl
@[simp ↓] theorem wp_mBits (ma : Ev → M MV) : Wp Q X (mBits ma env s) = Wp (fun x t => ∃ i, x = .int i ∧ Q (.int (Builtin.Int.intBits i : Nat)) t) X (ma env s) := by
  rw [mBits_run]
  cases ma env s with
  | ok x t => cases x <;> simp
  | _ => rfl
@[simp ↓] theorem wp_mFmt (ma : Ev → M MV) : Wp Q X (mFmt ma env s) = Wp (fun x t => (∃ y, x = .str y ∧ y.length ≤ line ∧ Q (.str y) t) ∨ ∃ i, x = .int i ∧ i.natAbs.log2 < 1920 ∧ Q (.str (toString i)) t) X (ma env s) := by
  rw [mFmt_run]
  cases ma env s with
  | ok x t => cases x with
    | str y => by_cases h : y.length ≤ line <;> simp [h]
    | int y => by_cases h : y.natAbs.log2 < 1920 <;> simp [h]
    | _ => simp
  | _ => rfl
@[simp ↓] theorem wp_mJs_nil (acc : Str) : Wp Q X (mJs [] acc env s) = Q (.str acc) s := rfl
@[simp ↓] theorem wp_mJs_cons (m : Ev → M MV) (ms : List (Ev → M MV)) (acc : Str) : Wp Q X (mJs (m :: ms) acc env s) = Wp (fun x t => ∃ y, x = .str y ∧ (acc ++ y).length ≤ line ∧ Wp Q X (mJs ms (acc ++ y) env t)) X (m env s) := by
  rw [mJs_cons]
  cases m env s with
  | ok x t => cases x with
    | str y => by_cases h : (acc ++ y).length ≤ line <;> simp only [h, if_true, if_false, wp_ok, wp_bad] <;> simp [h]
    | _ => simp
  | _ => rfl
theorem wp_noEx {r : R MV} : Wp Q X (noEx r) = Wp Q noX r := by cases r <;> rfl
@[simp ↓] theorem wp_mKw (g : List MV → List MV → List MV) (mf : MF) (as bs : Ev → M (List MV)) : Wp Q X (mKw g mf as bs env s) = Wp (fun xs t => Wp (fun ys u => Wp Q noX (mf (g xs ys) u)) X (bs env t)) X (as env s) := by
  rw [mKw_run]
  cases as env s with
  | ok xs t =>
    simp only [wp_ok]
    cases bs env t with
    | ok ys u => simp only [wp_ok, wp_noEx]
    | _ => rfl
  | _ => rfl
@[simp ↓] theorem wp_mMB (ok : Sto → MV → Bool) (f : MV → List MV → M MV) (mo : Ev → M MV) (as : Ev → M (List MV)) : Wp Q X (mMB ok f mo as env s) = Wp (fun x t => ok t x = true ∧ Wp (fun xs u => Wp Q X (f x xs u)) X (as env t)) X (mo env s) := by
  rw [mMB_run]
  cases mo env s with
  | ok x t =>
    simp only [wp_ok]
    by_cases h : ok t x = true
    · simp only [h, if_true, true_and]
      cases as env t <;> rfl
    · simp [h]
  | _ => rfl
@[simp ↓] theorem wp_mChain (f g : Sto → MV → MV → Option Bool) (ma mb mc : Ev → M MV) : Wp QB X (mChain f g ma mb mc env s) = Wp (fun x t => Wp (fun y u => WpO (fun k => (k = true → Wp (fun z v => WpO (fun k2 => QB k2 v) (g v y z)) X (mc env u)) ∧ (k = false → QB false u)) (f u x y)) X (mb env t)) X (ma env s) := by
  unfold mChain
  rw [wp_bnd]; congr 1; funext x t
  rw [wp_bnd]; congr 1; funext y u
  rw [wp_bnd]
  cases f u x y with
  | none => rfl
  | some k => cases k with
    | true =>
      simp only [opt_some, wp_ok, wpO_some, if_true, true_implies, reduceCtorEq, false_implies, and_true]
      rw [wp_bnd]; congr 1; funext z v; exact wp_opt
    | false => simp
@[simp ↓] theorem wp_mChain3 (f g h : Sto → MV → MV → Option Bool) (ma mb mc md : Ev → M MV) : Wp QB X (mChain3 f g h ma mb mc md env s) = Wp (fun x t => Wp (fun y u => WpO (fun k => (k = true → Wp (fun z v => WpO (fun k2 => (k2 = true → Wp (fun w o => WpO (fun k3 => QB k3 o) (h o z w)) X (md env v)) ∧ (k2 = false → QB false v)) (g v y z)) X (mc env u)) ∧ (k = false → QB false u)) (f u x y)) X (mb env t)) X (ma env s) := by
  rw [mChain3_run]
  cases ma env s with
  | ok x t =>
    simp only [wp_ok]
    cases mb env t with
    | ok y u =>
      simp only [wp_ok]
      cases f u x y with
      | none => rfl
      | some k => cases k with
        | false => simp
        | true =>
          simp only [if_true, wpO_some, true_implies]
          cases mc env u with
          | ok z v =>
            simp only [wp_ok]
            cases g v y z with
            | none => simp
            | some k2 => cases k2 with
              | false => simp
              | true =>
                simp only [if_true, wpO_some, true_implies]
                cases md env v with
                | ok w o => simp
                | _ => simp
          | _ => simp
    | _ => rfl
  | _ => rfl
@[simp ↓] theorem wp_mExcI (i : Nat) (b : Bool) : Wp Q X (mExcI i b env s) = WpO (fun v => v = .exc ∧ Q (.bl b) s) (evG env i) := by
  rw [← evG_eq]
  rw [mExcI_run]
  cases env.getD i none with
  | none => rfl
  | some v => cases v <;> simp
@[simp ↓] theorem wp_mCallX (i : Nat) (r : M MV) : Wp Q X (mCallX i r env s) = WpO (fun v => v = .exc ∧ Wp Q X (r s)) (evG env i) := by
  rw [← evG_eq]
  rw [mCallX_run]
  cases env.getD i none with
  | none => rfl
  | some v => cases v <;> simp
@[simp ↓] theorem wp_mExcF (i f : Nat) (fs : List (Nat × MV)) : Wp Q X (mExcF i f fs env s) = WpO (fun v => v = .exc ∧ WpO (fun w => Q w s) (lookN f fs)) (evG env i) := by
  rw [← evG_eq]
  rw [mExcF_run]
  cases env.getD i none with
  | none => rfl
  | some v => cases v <;> cases lookN f fs <;> simp
@[simp ↓] theorem wp_mNoPart : Wp QO X (mNoPart env s) = QO none s := rfl
@[simp ↓] theorem wp_mPart (m : Ev → M MV) : Wp QO X (mPart m env s) = Wp (fun x t => ∃ i, x = .int i ∧ QO (some i) t) X (m env s) := by
  unfold mPart; rw [wp_bnd]
  congr 1; funext x t
  cases x <;> simp
@[simp ↓] theorem wp_mSl (fr : Bool) (ma : Ev → M MV) (ml mh : Ev → M (Option Int)) : Wp Q X (mSl fr ma ml mh env s) = Wp (fun x t => Wp (fun lo u => Wp (fun hi v => Wp Q X (slF fr x lo hi v)) X (mh env u)) X (ml env t)) X (ma env s) := by
  unfold mSl; rw [wp_bnd]; congr 1; funext x t; rw [wp_bnd]; congr 1; funext lo u; rw [wp_bnd]
@[simp ↓] theorem wp_mYes : Wp QB X (mYes env s) = QB true s := rfl
@[simp ↓] theorem wp_optM (f : Sto → MV → MV → Option MV) (x y : MV) : Wp Q X (optM f x y s) = WpO (fun v => Q v s) (f s x y) := by
  unfold optM; rw [wp_opt]
@[simp ↓] theorem wp_cmpB (f : Sto → MV → MV → Option Bool) (x y : MV) : Wp Q X (cmpB f x y s) = WpO (fun b => Q (.bl b) s) (f s x y) := by
  unfold cmpB
  cases f s x y <;> rfl
/-! statements -/
@[simp ↓] theorem wps_seq (a b : MS) : WpS P (sSeq a b env s) = WpS (P.thn fun e t => WpS P (b e t)) (a env s) := by
  unfold sSeq
  cases a env s <;> rfl
@[simp ↓] theorem wps_nil : WpS P (sNil env s) = P.n env s := rfl
@[simp ↓] theorem wps_break : WpS P (sBreak env s) = P.b env s := rfl
@[simp ↓] theorem wps_cont : WpS P (sCont env s) = P.c env s := rfl
@[simp ↓] theorem wps_asg (i : Nat) (m : Ev → M MV) : WpS P (sAsg i m env s) = Wp (fun v t => Nf (fun e => P.n e t) (env.set i (some v))) (fun c fs t => P.x env c fs t) (m env s) := by
  unfold sAsg; rw [wpS_bnd]; rfl
@[simp ↓] theorem wps_expr (m : Ev → M MV) : WpS P (sExpr m env s) = Wp (fun v t => P.n env t) (fun c fs t => P.x env c fs t) (m env s) := by
  unfold sExpr; rw [wpS_bnd]; rfl
@[simp ↓] theorem wps_ret (m : Ev → M MV) : WpS P (sRet m env s) = Wp (fun v t => P.r v t) (fun c fs t => P.x env c fs t) (m env s) := by
  unfold sRet; rw [wpS_bnd]; rfl
@[simp ↓] theorem wps_retN : WpS P (sRetN env s) = P.r .non s := rfl
theorem wps_sif (m : Ev → M Bool) (a b : MS) : WpS P (sIf m a b env s) = Wp (fun k t => (k = true → WpS P (a env t)) ∧ (k = false → WpS P (b env t))) (fun c fs t => P.x env c fs t) (m env s) := by
  unfold sIf; rw [wpS_bnd]
  congr 1; funext k t
  cases k <;> simp
@[simp ↓] theorem wps_par (i j : Nat) (as : Ev → M (List MV)) : WpS P (sPar i j as env s) = Wp (fun xs t => WpO (fun p => Nf (fun e => P.n e t) ((env.set i (some p.1)).set j (some p.2))) (twoOf xs)) (fun c fs t => P.x env c fs t) (as env s) := by
  rw [sPar_run]
  cases as env s with
  | ok xs t => match xs with
    | [] => rfl
    | [_] => rfl
    | [v, w] => rfl
    | _ :: _ :: _ :: _ => rfl
  | _ => rfl
@[simp ↓] theorem wps_sub (mo mi mv : Ev → M MV) : WpS P (sSub mo mi mv env s) = Wp (fun v t => Wp (fun o u => Wp (fun i w => WpO (fun z => P.n env z) (setL o i v w)) (fun c fs t => P.x env c fs t) (mi env u)) (fun c fs t => P.x env c fs t) (mo env t)) (fun c fs t => P.x env c fs t) (mv env s) := by
  rw [sSub_run]
  cases mv env s with
  | ok v t =>
    simp only [wp_ok]
    cases mo env t with
    | ok o u =>
      simp only [wp_ok]
      cases mi env u with
      | ok i w =>
        simp only [wp_ok]
        cases setL o i v w <;> rfl
      | _ => rfl
    | _ => rfl
  | _ => rfl
@[simp ↓] theorem wps_fld (f : Nat) (mo mv : Ev → M MV) : WpS P (sFldM f mo mv env s) = Wp (fun v t => Wp (fun o u => WpO (fun z => P.n env z) (setFld f o v u)) (fun c fs t => P.x env c fs t) (mo env t)) (fun c fs t => P.x env c fs t) (mv env s) := by
  rw [sFldM_run]
  cases mv env s with
  | ok v t =>
    simp only [wp_ok]
    cases mo env t with
    | ok o u =>
      simp only [wp_ok]
      cases setFld f o v u <;> rfl
    | _ => rfl
  | _ => rfl
@[simp ↓] theorem wps_tg (g : MG) (m : Ev → M MV) : WpS P (sTg g m env s) = Wp (fun v t => Wp (fun e u => P.n e u) noX (g v env t)) (fun c fs t => P.x env c fs t) (m env s) := by
  rw [sTg_run]
  cases m env s with
  | ok v t =>
    simp only [wp_ok]
    cases g v env t <;> rfl
  | _ => rfl
@[simp ↓] theorem wps_raise (c : Nat) : WpS P (sRaise c env s) = P.x env c [] s := rfl
@[simp ↓] theorem wps_raiseA (c f : Nat) (ma : Ev → M MV) : WpS P (sRaiseA c f ma env s) = Wp (fun v t => smM v = true ∧ P.x env c [(f, v)] t) (fun c fs t => P.x env c fs t) (ma env s) := by
  rw [sRaiseA_run]
  cases ma env s with
  | ok v t => by_cases h : smM v = true <;> simp [h]
  | _ => rfl
@[simp ↓] theorem wps_for (mi : MI) (g : MG) (b : MS) : WpS P (sFor mi g b env s) = Wp (fun it t => WpS P (forL g b it.ok it.xs env t)) (fun c fs t => P.x env c fs t) (mi env s) := by
  rw [sFor_run]
  cases mi env s <;> rfl
/-- behind a handler -/
def Po.leave (P : Po) (i : Nat) : Po where
  n e s := WpO (fun e' => P.n e' s) (leaveE i e)
  r := P.r
  b e s := WpO (fun e' => P.b e' s) (leaveE i e)
  c e s := WpO (fun e' => P.c e' s) (leaveE i e)
  x _ _ _ _ := False
@[simp ↓] theorem leave_n {i : Nat} : (P.leave i).n env s = WpO (fun e' => P.n e' s) (leaveE i env) := rfl
@[simp ↓] theorem leave_r {i : Nat} {v : MV} : (P.leave i).r v s = P.r v s := rfl
@[simp ↓] theorem leave_b {i : Nat} : (P.leave i).b env s = WpO (fun e' => P.b e' s) (leaveE i env) := rfl
@[simp ↓] theorem leave_c {i : Nat} : (P.leave i).c env s = WpO (fun e' => P.c e' s) (leaveE i env) := rfl
@[simp ↓] theorem leave_x {i c : Nat} {fs : List (Nat × MV)} : (P.leave i).x env c fs s = False := rfl
theorem wps_unset (i : Nat) (f : Fl) : WpS P (unsetN i f) = WpS (P.leave i) f := by
  cases f with
  | nx e s => simp only [unsetN, wps_nx, Po.leave]; cases leaveE i e <;> rfl
  | bk e s => simp only [unsetN, wps_bk, Po.leave]; cases leaveE i e <;> rfl
  | ct e s => simp only [unsetN, wps_ct, Po.leave]; cases leaveE i e <;> rfl
  | _ => rfl
@[simp ↓] theorem wps_try (i k : Nat) (mb : MS) (ms : Nat → List (Nat × MV) → MS) : WpS P (sTry i k mb ms env s) = WpS (P.hnd fun e c fs t => (subX c k = true → Nf (fun e => WpS (P.leave i) (ms c fs e t)) (e.set i (some .exc))) ∧ (subX c k = false → P.x e c fs t)) (mb env s) := by
  unfold sTry
  cases mb env s with
  | ex e c fs t =>
    cases h : subX c k <;> simp [h, wps_unset]
  | _ => rfl
def WpH (P : Po) : List Hnd → Ev → Nat → List (Nat × MV) → Sto → Prop
  | [], e, c, fs, t => P.x e c fs t
  | (i, k, ms) :: r, e, c, fs, t => (subX c k = true → Nf (fun e => WpS (P.leave i) (ms c fs e t)) (e.set i (some .exc))) ∧ (subX c k = false → WpH P r e c fs t)
theorem wps_hand : ∀ (hs : List Hnd) (e : Ev) (c : Nat) (fs : List (Nat × MV)) (t : Sto), WpS P (handN hs e c fs t) = WpH P hs e c fs t
  | [], e, c, fs, t => rfl
  | (i, k, ms) :: r, e, c, fs, t => by
    unfold handN WpH
    rw [← wps_hand r]
    cases h : subX c k <;> simp [wps_unset]
@[simp ↓] theorem wps_tryN (mb : MS) (hs : List Hnd) : WpS P (sTryN mb hs env s) = WpS (P.hnd (WpH P hs)) (mb env s) := by
  rw [sTryN_run]
  cases mb env s with
  | ex e c fs t => simp only [wps_hand]; rfl
  | _ => rfl
/-! iterators, targets -/
@[simp ↓] theorem wp_miSeq (ma : Ev → M MV) : Wp QI X (miSeq ma env s) = Wp (fun x t => WpO (fun it => QI it t) (itOf t x)) X (ma env s) := by
  unfold miSeq; rw [wp_bnd]; congr 1; funext x t; exact wp_opt
@[simp ↓] theorem wp_miRange (ma : Ev → M MV) : Wp QI X (miRange ma env s) = Wp (fun x t => ∃ j, x = .int j ∧ small j = true ∧ QI ⟨intsM 0 j.toNat, fun _ => True⟩ t) X (ma env s) := by
  rw [miRange_run]
  cases ma env s with
  | ok x t => cases x with
    | int j => by_cases h : small j = true <;> simp [h]
    | _ => simp
  | _ => rfl
@[simp ↓] theorem wp_tgName (i : Nat) (v : MV) : Wp QE X (tgName i v env s) = Nf (fun e => QE e s) (env.set i (some v)) := rfl
@[simp ↓] theorem wp_mFun (n : Nat) (mb : MS) (args : List MV) : Wp Q X (mFun n mb args s) = Nf (fun e => WpS (.fn Q X) (mb e s)) (args.map some ++ List.replicate (n - args.length) none) := by
  unfold mFun
  rw [Nf_eq]
  cases mb (args.map some ++ List.replicate (n - args.length) none) s <;> rfl
end
end Z

namespace Z
open PySem L2
section
variable {env : Ev} {s : Sto} {Q : MV → Sto → Prop} {QI : IT → Sto → Prop} {QE : Ev → Sto → Prop} {X : Nat → List (Nat × MV) → Sto → Prop} {P : Po}
theorem Wp.mono {α : Type} {r : R α} {Q Q' : α → Sto → Prop} {X X' : Nat → List (Nat × MV) → Sto → Prop} (h : Wp Q X r) (hq : ∀ a t, Q a t → Q' a t) (hx : ∀ c fs t, X c fs t → X' c fs t) : Wp Q' X' r := by
  cases r with
  | ok a t => exact hq a t h
  | ex c fs t => exact hx c fs t h
  | bad => exact h
theorem Wp.imp {α : Type} {r : R α} {Q Q' : α → Sto → Prop} {X : Nat → List (Nat × MV) → Sto → Prop} (h : Wp Q noX r) (hq : ∀ a t, Q a t → Q' a t) : Wp Q' X r := h.mono hq fun _ _ _ z => z.elim
theorem Wp.out {α : Type} {r : R α} {Q : α → Sto → Prop} (h : Wp Q noX r) : ∃ a t, r = .ok a t ∧ Q a t := by
  cases r with
  | ok a t => exact ⟨a, t, rfl, h⟩
  | ex c fs t => exact h.elim
  | bad => exact h.elim
theorem Wp.of {α : Type} {r : R α} {Q : α → Sto → Prop} {X : Nat → List (Nat × MV) → Sto → Prop} {a : α} {t : Sto} (e : r = .ok a t) (h : Q a t) : Wp Q X r := by rw [e]; exact h
theorem WpS.mono {f : Fl} {P P' : Po} (h : WpS P f) (hn : ∀ e t, P.n e t → P'.n e t) (hr : ∀ v t, P.r v t → P'.r v t) (hb : ∀ e t, P.b e t → P'.b e t) (hc : ∀ e t, P.c e t → P'.c e t) (hx : ∀ e c fs t, P.x e c fs t → P'.x e c fs t) : WpS P' f := by
  cases f with
  | nx e t => exact hn e t h
  | rt v t => exact hr v t h
  | bk e t => exact hb e t h
  | ct e t => exact hc e t h
  | ex e c fs t => exact hx e c fs t h
  | bad => exact h
/-! ### for -/
theorem wp_forL {g : MG} {b : MS} {ok : Sto → Prop} {ls : List MV} (I : List MV → Ev → Sto → Prop) (ho : ∀ d e t, I d e t → ok t)
    (hs : ∀ d x r e t, ls = d ++ x :: r → I d e t → Wp (fun e t => WpS (P.turn (I (d ++ [x]))) (b e t)) noX (g x e t))
    (h1 : ∀ e t, I ls e t → P.n e t) : ∀ (r d : List MV) (e : Ev) (t : Sto), ls = d ++ r → I d e t → WpS P (forL g b ok r e t)
  | [], d, e, t, hl, h => by
    rw [List.append_nil] at hl
    rw [for_nil (ho d e t h)]
    exact h1 e t (hl ▸ h)
  | x :: r, d, e, t, hl, h => by
    unfold forL
    rw [if_pos (ho d e t h)]
    have q := hs d x r e t hl h
    have hl2 : ls = (d ++ [x]) ++ r := by rw [hl]; simp
    cases eg : g x e t with
    | ex c fs u => rw [eg] at q; exact q.elim
    | bad => rw [eg] at q; exact q.elim
    | ok e2 t2 =>
      rw [eg] at q
      have q : WpS _ (b e2 t2) := q
      show WpS P (match b e2 t2 with | .nx e s => forL g b ok r e s | .ct e s => forL g b ok r e s | .bk e s => .nx e s | .rt v s => .rt v s | .ex e c fs s => .ex e c fs s | .bad => .bad)
      cases eb : b e2 t2 with
      | nx e3 t3 => rw [eb] at q; exact wp_forL I ho hs h1 r (d ++ [x]) e3 t3 hl2 q
      | ct e3 t3 => rw [eb] at q; exact wp_forL I ho hs h1 r (d ++ [x]) e3 t3 hl2 q
      | bk e3 t3 => rw [eb] at q; exact q
      | rt v t3 => rw [eb] at q; exact q
      | ex e3 c fs t3 => rw [eb] at q; exact q
      | bad => rw [eb] at q; exact q
/-- over the items, as they come -/
theorem wp_for {g : MG} {b : MS} {ok : Sto → Prop} {ls : List MV} {e : Ev} {t : Sto} (I : List MV → Ev → Sto → Prop) (h0 : I [] e t) (ho : ∀ d e t, I d e t → ok t)
    (hs : ∀ d x r e t, ls = d ++ x :: r → I d e t → Wp (fun e t => WpS (P.turn (I (d ++ [x]))) (b e t)) noX (g x e t))
    (h1 : ∀ e t, I ls e t → P.n e t) : WpS P (forL g b ok ls e t) := wp_forL I ho hs h1 ls [] e t rfl h0
/-- .. of one kind -/
theorem wp_forM {α : Type} {f : α → MV} {ys : List α} {g : MG} {b : MS} {ok : Sto → Prop} {e : Ev} {t : Sto} (I : List α → Ev → Sto → Prop) (h0 : I [] e t) (ho : ∀ d e t, I d e t → ok t)
    (hs : ∀ d x r e t, ys = d ++ x :: r → I d e t → Wp (fun e t => WpS (P.turn (I (d ++ [x]))) (b e t)) noX (g (f x) e t))
    (h1 : ∀ e t, I ys e t → P.n e t) : WpS P (forL g b ok (ys.map f) e t) := by
  refine wp_for (fun d e t => ∃ d', d = d'.map f ∧ I d' e t ∧ ∃ r', ys = d' ++ r') ⟨[], rfl, h0, ys, rfl⟩ (fun d e t ⟨d', _, h, _⟩ => ho d' e t h) ?_ ?_
  · rintro d x r e t hl ⟨d', rfl, h, r', rfl⟩
    rw [List.map_append, List.append_cancel_left_eq] at hl
    cases r' with
    | nil => simp at hl
    | cons y r' =>
      rw [List.map_cons, List.cons.injEq] at hl
      obtain ⟨rfl, rfl⟩ := hl
      refine (hs d' y r' e t rfl h).imp fun e2 t2 q => q.mono ?_ (fun _ _ z => z) (fun _ _ z => z) ?_ (fun _ _ _ _ z => z)
      · exact fun e3 t3 q => ⟨d' ++ [y], by simp, q, r', by simp⟩
      · exact fun e3 t3 q => ⟨d' ++ [y], by simp, q, r', by simp⟩
  · rintro e t ⟨d', hd, h, r', rfl⟩
    have : r' = [] := by
      have := congrArg List.length hd
      simp at this
      exact this
    subst this
    rw [List.append_nil] at h1
    exact h1 e t h
/-- range -/
theorem wp_forR {lo : Int} {n : Nat} {g : MG} {b : MS} {e : Ev} {t : Sto} {ok : Sto → Prop} (I : Nat → Ev → Sto → Prop) (h0 : I 0 e t) (ho : ∀ d e t, I d e t → ok t)
    (hs : ∀ i e t, i < n → I i e t → Wp (fun e t => WpS (P.turn (I (i + 1))) (b e t)) noX (g (.int (lo + (i : Int))) e t))
    (h1 : ∀ e t, I n e t → P.n e t) : WpS P (forL g b ok (intsM lo n) e t) := by
  unfold intsM
  refine wp_forM (fun d e t => d.length ≤ n ∧ I d.length e t) ⟨Nat.zero_le _, h0⟩ (fun d e t h => ho _ e t h.2) ?_ ?_
  · rintro d x r e t hl ⟨_, h⟩
    have hx : x = d.length := by
      have h1 : (List.range n)[d.length]? = some x := by rw [hl]; simp
      obtain ⟨hn, e1⟩ := List.getElem?_eq_some_iff.mp h1
      rw [List.getElem_range] at e1
      exact e1.symm
    have hn : d.length < n := by
      have := congrArg List.length hl
      simp at this; omega
    subst hx
    refine (hs d.length e t hn h).imp fun e2 t2 q => q.mono ?_ (fun _ _ z => z) (fun _ _ z => z) ?_ (fun _ _ _ _ z => z)
    · exact fun e3 t3 q => ⟨by simp; omega, by simpa using q⟩
    · exact fun e3 t3 q => ⟨by simp; omega, by simpa using q⟩
  · rintro e t ⟨_, h⟩
    rw [List.length_range] at h
    exact h1 e t h
/-! ### while -/
theorem wp_whileN {mt : Ev → M Bool} {b : MS} (I : Nat → Ev → Sto → Prop)
    (hs : ∀ m e t, I m e t → Wp (fun k t => (k = true → WpS (P.turn fun e t => ∃ m', m' < m ∧ I m' e t) (b e t)) ∧ (k = false → P.n e t)) (fun c fs t => P.x e c fs t) (mt e t)) :
    ∀ (m : Nat) (e : Ev) (t : Sto), I m e t → ∃ f, (∃ n, whileN mt b n e t = f) ∧ WpS P f := by
  intro m
  induction m using Nat.strongRecOn with
  | ind m ih =>
    intro e t h
    have q := hs m e t h
    cases em : mt e t with
    | bad => rw [em] at q; exact q.elim
    | ex c fs u => rw [em] at q; exact ⟨.ex e c fs u, ⟨1, by simp only [whileN, bndS, em]⟩, q⟩
    | ok k u =>
      rw [em] at q
      have q : (k = true → _) ∧ (k = false → _) := q
      cases k with
      | false => exact ⟨.nx e u, ⟨1, by simp [whileN, bndS, em]⟩, q.2 rfl⟩
      | true =>
        have q := q.1 rfl
        cases eb : b e u with
        | nx e3 t3 =>
          rw [eb] at q
          obtain ⟨m', hm, hi⟩ := q
          obtain ⟨f, ⟨n, hn⟩, hf⟩ := ih m' hm e3 t3 hi
          exact ⟨f, ⟨n + 1, by simp only [whileN, bndS, em, if_true, eb, hn]⟩, hf⟩
        | ct e3 t3 =>
          rw [eb] at q
          obtain ⟨m', hm, hi⟩ := q
          obtain ⟨f, ⟨n, hn⟩, hf⟩ := ih m' hm e3 t3 hi
          exact ⟨f, ⟨n + 1, by simp only [whileN, bndS, em, if_true, eb, hn]⟩, hf⟩
        | bk e3 t3 => rw [eb] at q; exact ⟨.nx e3 t3, ⟨1, by simp only [whileN, bndS, em, if_true, eb]⟩, q⟩
        | rt v t3 => rw [eb] at q; exact ⟨.rt v t3, ⟨1, by simp only [whileN, bndS, em, if_true, eb]⟩, q⟩
        | ex e3 c fs t3 => rw [eb] at q; exact ⟨.ex e3 c fs t3, ⟨1, by simp only [whileN, bndS, em, if_true, eb]⟩, q⟩
        | bad => rw [eb] at q; exact q.elim
theorem wp_while {mt : Ev → M Bool} {b : MS} {e : Ev} {t : Sto} (I : Nat → Ev → Sto → Prop) (m : Nat) (h0 : I m e t)
    (hs : ∀ m e t, I m e t → Wp (fun k t => (k = true → WpS (P.turn fun e t => ∃ m', m' < m ∧ I m' e t) (b e t)) ∧ (k = false → P.n e t)) (fun c fs t => P.x e c fs t) (mt e t)) :
    WpS P (sWhile mt b e t) := by
  obtain ⟨f, ⟨n, hn⟩, hf⟩ := wp_whileN I hs m e t h0
  rw [while_eq hn (fun z => by rw [z] at hf; exact hf.elim)]
  exact hf
/-! ### iterators -/
@[simp ↓] theorem wp_miRange2 (ma mb : Ev → M MV) : Wp QI X (miRange2 ma mb env s) = Wp (fun x t => Wp (fun y u => ∃ i j, x = .int i ∧ y = .int j ∧ (small i && small j) = true ∧ QI ⟨intsM i (j - i).toNat, fun _ => True⟩ u) X (mb env t)) X (ma env s) := by
  unfold miRange2
  rw [wp_bnd]; congr 1; funext x t
  rw [wp_bnd]; congr 1; funext y u
  cases x with
  | int i => cases y with
    | int j =>
      show Wp QI X ((if (small i && small j) = true then M.ret ⟨intsM i (j - i).toNat, fun _ => True⟩ else fun _ => R.bad) u) = _
      cases h : (small i && small j) with
      | true =>
        rw [if_pos rfl]
        refine propext ⟨fun q => ⟨i, j, rfl, rfl, h, q⟩, ?_⟩
        rintro ⟨i', j', e1, e2, _, q⟩
        cases e1; cases e2; exact q
      | false =>
        rw [if_neg (by decide)]
        refine propext ⟨fun q => q.elim, ?_⟩
        rintro ⟨i', j', e1, e2, h2, q⟩
        cases e1; cases e2; rw [h] at h2; cases h2
    | _ => simp
  | _ => simp
@[simp ↓] theorem wp_miEnum (ma : Ev → M MV) : Wp QI X (miEnum ma env s) = Wp (fun x t => WpO (fun it => QI ⟨pairs (intsM 0 it.xs.length) it.xs, it.ok⟩ t) (lsOf t x)) X (ma env s) := by
  unfold miEnum; rw [wp_bnd]
  congr 1; funext x t
  cases lsOf t x <;> rfl
@[simp ↓] theorem wp_miZip (ma mb : Ev → M MV) : Wp QI X (miZip ma mb env s) = Wp (fun x t => Wp (fun y u => WpO (fun it => QI it u) (zipOf u x y)) X (mb env t)) X (ma env s) := by
  unfold miZip; rw [wp_bnd]; congr 1; funext x t; rw [wp_bnd]; congr 1; funext y u; exact wp_opt
@[simp ↓] theorem wp_miStr (ma : Ev → M MV) : Wp QI X (miStr ma env s) = Wp (fun x t => ∃ y, x = .str y ∧ QI ⟨signs y, fun _ => True⟩ t) X (ma env s) := by
  unfold miStr; rw [wp_bnd]
  congr 1; funext x t
  cases x with
  | str y => exact propext ⟨fun q => ⟨y, rfl, q⟩, fun ⟨y', e, q⟩ => by cases e; exact q⟩
  | _ => simp
@[simp ↓] theorem wp_tgNil (vs : List MV) : Wp QE X (tgNil vs env s) = (vs = [] ∧ QE env s) := by
  cases vs with
  | nil => simp [tgNil]
  | cons => simp [tgNil]
@[simp ↓] theorem wp_tgCons (g : MG) (r : MGs) (v : MV) (us : List MV) : Wp QE noX (tgCons g r (v :: us) env s) = Wp (fun e t => Wp QE noX (r us e t)) noX (g v env s) := by
  have : tgCons g r (v :: us) env s = match g v env s with | .ok e t => r us e t | _ => .bad := rfl
  rw [this]
  cases g v env s with
  | ok e t => rfl
  | ex c fs t => rfl
  | bad => rfl
@[simp ↓] theorem wp_tgTup (n : Nat) (g : MGs) (v : MV) : Wp QE X (tgTup n g v env s) = (∃ xs, v = .tup xs ∧ xs.length = n ∧ Wp QE X (g xs env s)) := by
  cases v with
  | tup xs =>
    by_cases h : xs.length = n
    · simp [tgTup, h]
    · simp [tgTup, h]
  | _ => simp [tgTup]
/-! ### calls that keep the store -/
theorem wp_pure {mf : MF} {args : List MV} (h : Wp (fun v t => t.take s.length = s ∧ WpO (fun v' => Q v' s) (frzM t s.length 40 v)) (fun c fs t => t.take s.length = s ∧ WpO (fun vs => X c ((fs.map (·.1)).zip vs) s) ((fs.map (·.2)).mapM (frzM t s.length 40))) (mf args s)) : Wp Q X (mPure mf args s) := by
  unfold mPure
  cases e : mf args s with
  | ok v t =>
    rw [e] at h
    obtain ⟨h1, h2⟩ := h
    simp only [if_pos h1]
    cases ef : frzM t s.length 40 v with
    | none => rw [ef] at h2; exact h2.elim
    | some v' => rw [ef] at h2; exact h2
  | ex c fs t =>
    rw [e] at h
    obtain ⟨h1, h2⟩ := h
    simp only [if_pos h1]
    cases ef : (fs.map (·.2)).mapM (frzM t s.length 40) with
    | none => rw [ef] at h2; exact h2.elim
    | some v' => rw [ef] at h2; exact h2
  | bad => rw [e] at h; exact h.elim
theorem wp_new {c : Nat} {init : MF} {args : List MV} (h : Wp (fun v t => v = .non ∧ Q (.ref s.length) t) X (init (.ref s.length :: args) (s ++ [.ins c []]))) : Wp Q X (newC c init args s) := by
  unfold newC
  cases e : init (.ref s.length :: args) (s ++ [.ins c []]) with
  | ok v t =>
    rw [e] at h
    obtain ⟨rfl, h⟩ := h
    exact h
  | ex c fs t => rw [e] at h; exact h
  | bad => rw [e] at h; exact h
/-! ### comprehensions -/
theorem wp_lcL {g : MG} {mt : Ev → M Bool} {me : Ev → M MV} {ok : Sto → Prop} {n : Nat} {ls : List MV} (I : List MV → List MV → Sto → Prop) (ho : ∀ d acc u, u.length = n → I d acc u → ok (u ++ [.lst acc])) (hm : ls.length ≤ line)
    (hs : ∀ d x r acc u, ls = d ++ x :: r → u.length = n → I d acc u → Wp (fun e t => Wp (fun k t => (k = true → Wp (fun y t => ∃ u', t = u' ++ [.lst acc] ∧ u'.length = n ∧ I (d ++ [x]) (acc ++ [y]) u') noX (me e t)) ∧ (k = false → ∃ u', t = u' ++ [.lst acc] ∧ u'.length = n ∧ I (d ++ [x]) acc u')) noX (mt e t)) noX (g x env (u ++ [.lst acc]))) :
    ∀ (r d acc : List MV) (u : Sto), ls = d ++ r → u.length = n → acc.length ≤ d.length → I d acc u → ∃ acc' u', lcL g mt me ok n env r (u ++ [.lst acc]) = some (u' ++ [.lst acc']) ∧ u'.length = n ∧ I ls acc' u'
  | [], d, acc, u, hl, hu, ha, h => by
    rw [List.append_nil] at hl
    refine ⟨acc, u, ?_, hu, hl ▸ h⟩
    unfold lcL
    rw [if_pos (ho d acc u hu h)]
  | x :: r, d, acc, u, hl, hu, ha, h => by
    unfold lcL
    rw [if_pos (ho d acc u hu h)]
    have q := hs d x r acc u hl hu h
    have hl2 : ls = (d ++ [x]) ++ r := by rw [hl]; simp
    obtain ⟨e1, t1, eg, q⟩ := q.out
    obtain ⟨k, t2, et, q⟩ := q.out
    simp only [eg, et]
    cases k with
    | false =>
      obtain ⟨u', rfl, hu', h'⟩ := q.2 rfl
      exact wp_lcL I ho hm hs r (d ++ [x]) acc u' hl2 hu' (by simp; omega) h'
    | true =>
      obtain ⟨y, t3, ey, q⟩ := (q.1 rfl).out
      obtain ⟨u', rfl, hu', h'⟩ := q
      simp only [ey]
      have hg : (u' ++ [Cell.lst acc])[n]? = some (.lst acc) := by rw [← hu']; simp
      have hst : (u' ++ [Cell.lst acc]).set n (.lst (acc ++ [y])) = u' ++ [.lst (acc ++ [y])] := by rw [← hu']; simp
      have hln := congrArg List.length hl
      simp at hln
      simp only [hg]
      rw [if_pos (by omega), hst]
      exact wp_lcL I ho hm hs r (d ++ [x]) (acc ++ [y]) u' hl2 hu' (by simp; omega) h'
theorem wp_lc {mi : MI} {g : MG} {mt : Ev → M Bool} {me : Ev → M MV} {vs : List Nat} (it : IT) (I : List MV → List MV → Sto → Prop) (hi : mi env s = .ok it s) (h0 : I [] [] s) (ho : ∀ d acc u, u.length = s.length → I d acc u → it.ok (u ++ [.lst acc])) (hm : it.xs.length ≤ line)
    (hs : ∀ d x r acc u, it.xs = d ++ x :: r → u.length = s.length → I d acc u → Wp (fun e t => Wp (fun k t => (k = true → Wp (fun y t => ∃ u', t = u' ++ [.lst acc] ∧ u'.length = s.length ∧ I (d ++ [x]) (acc ++ [y]) u') noX (me e t)) ∧ (k = false → ∃ u', t = u' ++ [.lst acc] ∧ u'.length = s.length ∧ I (d ++ [x]) acc u')) noX (mt e t)) noX (g x (wipeM env vs) (u ++ [.lst acc])))
    (h1 : ∀ acc u, u.length = s.length → I it.xs acc u → (∀ (i : Nat) (c : Cell), u[i]? = some c → s[i]? = some c ∨ cellB s.length c = true) ∧ WpO (fun acc' => Q (.lst acc') u) (acc.mapM (frzM (u ++ [.lst acc]) s.length 40))) : Wp Q X (mLc true mi g mt me vs env s) := by
  obtain ⟨acc, u, e, hu, h⟩ := wp_lcL (env := wipeM env vs) I ho hm hs it.xs [] [] s rfl rfl (Nat.le_refl _) h0
  obtain ⟨q1, q2⟩ := h1 acc u hu h
  unfold mLc
  rw [wp_bnd, hi]
  show Wp Q X (match lcL g mt me it.ok s.length (wipeM env vs) it.xs (s ++ [.lst []]) with | some t => _ | none => _)
  rw [e]
  have hg : (u ++ [Cell.lst acc])[s.length]? = some (.lst acc) := by rw [← hu]; simp
  have ht : (u ++ [Cell.lst acc]).take s.length = u := by rw [← hu]; simp
  simp only [if_true, hg]
  rw [if_pos ⟨by simp [hu], fun i c h hi => q1 i c (by rw [List.getElem?_append_left (by omega)] at h; exact h)⟩, ht]
  cases ef : acc.mapM (frzM (u ++ [.lst acc]) s.length 40) with
  | none => rw [ef] at q2; exact q2.elim
  | some acc' => rw [ef] at q2; exact q2
/-- .. that becomes a cell -/
theorem wp_lcC {mi : MI} {g : MG} {mt : Ev → M Bool} {me : Ev → M MV} {vs : List Nat} (it : IT) (I : List MV → List MV → Sto → Prop) (hi : mi env s = .ok it s) (h0 : I [] [] s) (ho : ∀ d acc u, u.length = s.length → I d acc u → it.ok (u ++ [.lst acc])) (hm : it.xs.length ≤ line)
    (hs : ∀ d x r acc u, it.xs = d ++ x :: r → u.length = s.length → I d acc u → Wp (fun e t => Wp (fun k t => (k = true → Wp (fun y t => ∃ u', t = u' ++ [.lst acc] ∧ u'.length = s.length ∧ I (d ++ [x]) (acc ++ [y]) u') noX (me e t)) ∧ (k = false → ∃ u', t = u' ++ [.lst acc] ∧ u'.length = s.length ∧ I (d ++ [x]) acc u')) noX (mt e t)) noX (g x (wipeM env vs) (u ++ [.lst acc])))
    (h1 : ∀ acc u, u.length = s.length → I it.xs acc u → Q (.ref s.length) (u ++ [.lst acc])) : Wp Q X (mLc false mi g mt me vs env s) := by
  obtain ⟨acc, u, e, hu, h⟩ := wp_lcL (env := wipeM env vs) I ho hm hs it.xs [] [] s rfl rfl (Nat.le_refl _) h0
  unfold mLc
  rw [wp_bnd, hi]
  show Wp Q X (match lcL g mt me it.ok s.length (wipeM env vs) it.xs (s ++ [.lst []]) with | some t => _ | none => _)
  rw [e]
  exact h1 acc u hu h
theorem mapM_id {α : Type} {f : α → Option α} : ∀ {xs : List α}, (∀ x ∈ xs, f x = some x) → xs.mapM f = some xs
  | [], _ => rfl
  | x :: xs, h => by
    rw [List.mapM_cons, h x List.mem_cons_self, mapM_id fun y hy => h y (List.mem_cons_of_mem _ hy)]
    rfl
/-- a typed one that keeps the store -/
theorem lc_map {α : Type} {f : α → MV} {ys : List α} {ok : Sto → Prop} {mi : MI} {g : MG} {mt : Ev → M Bool} {me : Ev → M MV} {vs : List Nat} (b : α → Bool) (v : α → MV) (hi : mi env s = .ok ⟨ys.map f, ok⟩ s)
    (h : ∀ y ∈ ys, ∀ a, ∃ e, g (f y) (wipeM env vs) (s ++ [.lst a]) = .ok e (s ++ [.lst a]) ∧ mt e (s ++ [.lst a]) = .ok (b y) (s ++ [.lst a]) ∧ (b y = true → me e (s ++ [.lst a]) = .ok (v y) (s ++ [.lst a]))) (ho : ∀ a, ok (s ++ [.lst a])) (hl : ys.length ≤ line) (hf : ∀ y ∈ ys, b y = true → ∀ a, frzM (s ++ [.lst a]) s.length 40 (v y) = some (v y)) :
    mLc true mi g mt me vs env s = .ok (.lst ((ys.filter b).map v)) s := by
  have q : Wp (fun r t => r = .lst ((ys.filter b).map v) ∧ t = s) noX (mLc true mi g mt me vs env s) := by
    refine wp_lc ⟨ys.map f, ok⟩ (fun d acc u => u = s ∧ ∃ d' r', ys = d' ++ r' ∧ d = d'.map f ∧ acc = (d'.filter b).map v) hi ⟨rfl, [], ys, rfl, rfl, rfl⟩ (fun d acc u _ ⟨e, _⟩ => by rw [e]; exact ho acc) (by simpa using hl) ?_ ?_
    · rintro d x r acc u hx hu ⟨rfl, d', r', hy, rfl, rfl⟩
      subst hy
      simp only [List.map_append, List.append_cancel_left_eq] at hx
      cases r' with
      | nil => simp at hx
      | cons y r' =>
        rw [List.map_cons, List.cons.injEq] at hx
        obtain ⟨rfl, rfl⟩ := hx
        obtain ⟨e, h1, h2, h3⟩ := h y (by simp) ((d'.filter b).map v)
        rw [h1]
        simp only [wp_ok, h2]
        refine ⟨fun hb => ?_, fun hb => ?_⟩
        · rw [h3 hb]
          exact ⟨u, rfl, rfl, rfl, d' ++ [y], r', by simp, by simp, by simp [hb]⟩
        · exact ⟨u, rfl, rfl, rfl, d' ++ [y], r', by simp, by simp, by simp [hb]⟩
    · rintro acc u hu ⟨rfl, d', r', hy, hd, rfl⟩
      have : r' = [] := by
        have := congrArg List.length hd
        rw [hy] at this
        simp at this
        exact this
      subst this
      rw [List.append_nil] at hy
      subst hy
      refine ⟨fun _ _ h => .inl h, ?_⟩
      rw [mapM_id fun x hx => by
        obtain ⟨y, hy, rfl⟩ := List.mem_map.mp hx
        exact hf y (List.mem_filter.mp hy).1 (List.mem_filter.mp hy).2 _]
      exact ⟨rfl, rfl⟩
  obtain ⟨a, t, e, rfl, rfl⟩ := q.out
  exact e
end
/-! ### cells -/
abbrev Heapy := List (Nat × (Cell → Prop))
structure Has (st : Sto) (L : Heapy) : Prop where
  nd : (L.map (·.1)).Nodup
  all : ∀ p ∈ L, ∃ c, st[p.1]? = some c ∧ p.2 c
abbrev Ls (xs : List MV) : Cell → Prop := fun c => c = .lst xs
section
variable {st : Sto} {L L1 L2 : Heapy} {i : Nat} {C C' : Cell → Prop} {c : Cell} {p : Nat × (Cell → Prop)}
theorem Has.nil : Has st [] := ⟨List.nodup_nil, fun _ h => by cases h⟩
theorem Has.get (h : Has st L) (m : (i, C) ∈ L) : ∃ c, st[i]? = some c ∧ C c := h.all _ m
theorem Has.ls {xs : List MV} (h : Has st L) (m : (i, Ls xs) ∈ L) : st[i]? = some (.lst xs) := by
  obtain ⟨c, e, rfl⟩ := h.get m
  exact e
theorem Has.lt (h : Has st L) (m : (i, C) ∈ L) : i < st.length := by
  obtain ⟨c, e, _⟩ := h.get m
  exact (List.getElem?_eq_some_iff.mp e).1
theorem Has.more (h : Has st L) (e : Sto) : Has (st ++ e) L := ⟨h.nd, fun p m => by
  obtain ⟨c, q, r⟩ := h.all p m
  exact ⟨c, by rw [List.getElem?_append_left (List.getElem?_eq_some_iff.mp q).1]; exact q, r⟩⟩
theorem Has.push (h : Has st L) (hc : C c) : Has (st ++ [c]) ((st.length, C) :: L) := ⟨by
  rw [List.map_cons, List.nodup_cons]
  refine ⟨fun z => ?_, h.nd⟩
  obtain ⟨p, m, e⟩ := List.mem_map.mp z
  obtain ⟨c', q, _⟩ := h.all p m
  have := (List.getElem?_eq_some_iff.mp q).1
  simp only [e] at this
  omega, fun p m => by
  rcases List.mem_cons.mp m with rfl | m
  · exact ⟨c, by simp, hc⟩
  · exact (h.more [c]).all p m⟩
theorem Has.tail (h : Has st (p :: L)) : Has st L := ⟨(List.nodup_cons.mp h.nd).2, fun q m => h.all q (List.mem_cons_of_mem _ m)⟩
theorem Has.ne0 {j : Nat} {D : Cell → Prop} (h : Has st ((i, C) :: L)) (m : (j, D) ∈ L) : j ≠ i := fun e => (List.nodup_cons.mp h.nd).1 (List.mem_map.mpr ⟨_, m, e⟩)
theorem Has.swap {p q : Nat × (Cell → Prop)} (h : Has st (p :: q :: L)) : Has st (q :: p :: L) := ⟨(List.Perm.nodup_iff (List.Perm.map _ (List.Perm.swap p q L))).mpr h.nd |> fun z => z, fun r m => h.all r (by
  rcases List.mem_cons.mp m with rfl | m
  · exact .tail _ (.head _)
  · rcases List.mem_cons.mp m with rfl | m
    · exact .head _
    · exact .tail _ (.tail _ m))⟩
theorem Has.upd0 (h : Has st ((i, C) :: L)) (hc : C' c) : Has (st.set i c) ((i, C') :: L) := ⟨h.nd, fun p m => by
  rcases List.mem_cons.mp m with rfl | m
  · refine ⟨c, ?_, hc⟩
    rw [List.getElem?_set_self (h.lt (C := C) (.head _))]
  · obtain ⟨d, q, r⟩ := h.all p (.tail _ m)
    refine ⟨d, ?_, r⟩
    rw [List.getElem?_set_ne (fun e => h.ne0 (j := p.1) (D := p.2) m e.symm)]
    exact q⟩
theorem Has.upd1 (h : Has st (p :: (i, C) :: L)) (hc : C' c) : Has (st.set i c) (p :: (i, C') :: L) := (h.swap.upd0 hc).swap
theorem Has.set (h : Has st L) (m : (i, C) ∈ L) (hc : C c) (hu : ∀ D, (i, D) ∈ L → D = C) : Has (st.set i c) L := ⟨h.nd, fun p q => by
  by_cases e : p.1 = i
  · refine ⟨c, by rw [e, List.getElem?_set_self (h.lt m)], ?_⟩
    have := hu p.2 (by rw [← e]; exact q)
    rw [this]; exact hc
  · obtain ⟨d, z, r⟩ := h.all p q
    exact ⟨d, by rw [List.getElem?_set_ne (fun w => e w.symm)]; exact z, r⟩⟩
theorem nodup_snd {α β : Type} : ∀ {l : List (α × β)} {i : α} {a b : β}, (l.map (·.1)).Nodup → (i, a) ∈ l → (i, b) ∈ l → a = b
  | [], _, _, _, _, h, _ => by cases h
  | (j, x) :: l, i, a, b, n, h1, h2 => by
    rw [List.map_cons, List.nodup_cons] at n
    rcases List.mem_cons.mp h1 with e1 | h1 <;> rcases List.mem_cons.mp h2 with e2 | h2
    · cases e1; cases e2; rfl
    · cases e1; exact absurd (List.mem_map.mpr ⟨_, h2, rfl⟩) n.1
    · cases e2; exact absurd (List.mem_map.mpr ⟨_, h1, rfl⟩) n.1
    · exact nodup_snd n.2 h1 h2
/-- a cell changed that stays of its kind -/
theorem Has.keep (h : Has st L) (m : (i, C) ∈ L) (hc : C c) : Has (st.set i c) L := h.set m hc fun D q => nodup_snd h.nd q m
end
end Z

namespace Z
open PySem L2
section
variable {α : Type} {env : Ev} {s : Sto} {Q Q' : MV → Prop} {P : Po} {X : Nat → List (Nat × MV) → Sto → Prop}
theorem WpO.imp {α : Type} {o : Option α} {Q Q' : α → Prop} (h : WpO Q o) (k : ∀ a, Q a → Q' a) : WpO Q' o := by
  cases o with
  | none => exact h
  | some a => exact k a h
theorem WpO.of {α : Type} {o : Option α} {Q : α → Prop} {a : α} (e : o = some a) (h : Q a) : WpO Q o := by rw [e]; exact h
/-- a halting place: what holds between two statements -/
theorem WpS.cut {f : Fl} {P : Po} (R : Ev → Sto → Prop) (h : WpS (P.thn R) f) (k : ∀ e t, R e t → P.n e t) : WpS P f := by
  cases f with
  | nx e t => exact k e t h
  | _ => exact h
/-! ### sizes -/
def SzM (i j : Int) : Prop := mulOk i j = true
theorem SzM.nb {i j : Int} {m n : Nat} (hi : nb i ≤ m) (hj : nb j ≤ n) (h : m + n < 100000000) : SzM i j := by
  have := nb_log hi
  have := nb_log hj
  exact decide_eq_true (by omega)
theorem SzM.of {i j : Int} (hi : i.natAbs < 2 ^ 5000) (hj : j.natAbs < 2 ^ 5000) : SzM i j := SzM.nb (nb_lt hi) (nb_lt hj) (by decide)
/-- small ones, by omega -/
theorem SzM.sm {i j : Int} (hi : -1000000000000000000000000000000000000000000000000000000000000 ≤ i ∧ i ≤ 1000000000000000000000000000000000000000000000000000000000000) (hj : -1000000000000000000000000000000000000000000000000000000000000 ≤ j ∧ j ≤ 1000000000000000000000000000000000000000000000000000000000000) : SzM i j :=
  SzM.nb (nb_lt (m := 200) (by omega)) (nb_lt (m := 200) (by omega)) (by decide)
@[simp ↓] theorem wpo_mul (i j : Int) : WpO Q (bMul s (.int i) (.int j)) = (SzM i j ∧ Q (.int (i * j))) := by
  show WpO Q (if mulOk i j = true then some (MV.int (i * j)) else none) = _
  unfold SzM
  by_cases h : mulOk i j = true <;> simp [h]
@[simp] theorem mod_i {i j : Int} (h : 0 < j) : bMod s (.int i) (.int j) = some (.int (i % j)) := bMod_i h
@[simp] theorem div_i {i j : Int} (h : 0 < j) (h2 : j ≤ 1000000000000000000000000000000000000000000000000000000000000) : bDiv s (.int i) (.int j) = some (.int (i / j)) := divS (m := 200) h (nb_lt (by omega)) (by decide)
@[simp] theorem pow_i {i j : Int} (h : 0 ≤ j) (h2 : j ≤ 100000) (h3 : -1000000 ≤ i) (h4 : i ≤ 1000000) : bPow s (.int i) (.int j) = some (.int (i ^ j.toNat)) := by
  have : 0 ≤ j ∧ j ≤ 100000 ∧ i.natAbs < 2 ^ 64 := by refine ⟨h, h2, ?_⟩; omega
  simp only [bPow, this, and_self, if_true]
@[simp] theorem neg_i {i : Int} : uNeg s (.int i) = some (.int (-i)) := rfl
@[simp] theorem small_i (i : Int) : (small i = true) = (-1000000000 ≤ i ∧ i ≤ 1000000000) := by unfold small; simp
@[simp] theorem cNe_s (i j : Str) : cNe s (.str i) (.str j) = some (!decide (i = j)) := rfl
@[simp ↓] theorem wp_ownM {QM : MV → Sto → Prop} (cs : List (Nat × MF)) (g : MV → MV → M MV) (c : Nat) (xs ys : List MV) : Wp QM X (ownM cs g (.ins c xs) (.ins c ys) s) = WpO (fun mf => Wp QM X (mf [.ins c xs, .ins c ys] s)) (cs.lookup c) := by
  simp only [ownM, clsOf, if_true]
  cases cs.lookup c <;> rfl
@[simp] theorem ty_non  : tyM s (.non) = some .non := rfl
@[simp] theorem ty_bl (b : Bool) : tyM s (.bl b) = some .bl := rfl
@[simp] theorem ty_int (i : Int) : tyM s (.int i) = some .int := rfl
@[simp] theorem ty_str (x : Str) : tyM s (.str x) = some .str := rfl
@[simp] theorem ty_tup (xs : List MV) : tyM s (.tup xs) = some .tup := rfl
@[simp] theorem ty_lst (xs : List MV) : tyM s (.lst xs) = some .lst := rfl
@[simp] theorem isTup_non : isTup .non = some false := rfl
@[simp] theorem isTup_bl : isTup .bl = some false := rfl
@[simp] theorem isTup_int : isTup .int = some false := rfl
@[simp] theorem isTup_str : isTup .str = some false := rfl
@[simp] theorem isTup_tup : isTup .tup = some true := rfl
@[simp] theorem isTup_lst : isTup .lst = some false := rfl
@[simp] theorem isLst_non : isLst .non = some false := rfl
@[simp] theorem isLst_bl : isLst .bl = some false := rfl
@[simp] theorem isLst_int : isLst .int = some false := rfl
@[simp] theorem isLst_str : isLst .str = some false := rfl
@[simp] theorem isLst_tup : isLst .tup = some false := rfl
@[simp] theorem isLst_lst : isLst .lst = some true := rfl
@[simp] theorem isBl_non : isBl .non = some false := rfl
@[simp] theorem isBl_bl : isBl .bl = some true := rfl
@[simp] theorem isBl_int : isBl .int = some false := rfl
@[simp] theorem isBl_str : isBl .str = some false := rfl
@[simp] theorem isBl_tup : isBl .tup = some false := rfl
@[simp] theorem isBl_lst : isBl .lst = some false := rfl
@[simp] theorem isInt_non : isInt .non = some false := rfl
@[simp] theorem isInt_bl : isInt .bl = some true := rfl
@[simp] theorem isInt_int : isInt .int = some true := rfl
@[simp] theorem isInt_str : isInt .str = some false := rfl
@[simp] theorem isInt_tup : isInt .tup = some false := rfl
@[simp] theorem isInt_lst : isInt .lst = some false := rfl
@[simp] theorem isStr_non : isStr .non = some false := rfl
@[simp] theorem isStr_bl : isStr .bl = some false := rfl
@[simp] theorem isStr_int : isStr .int = some false := rfl
@[simp] theorem isStr_str : isStr .str = some true := rfl
@[simp] theorem isStr_tup : isStr .tup = some false := rfl
@[simp] theorem isStr_lst : isStr .lst = some false := rfl
@[simp] theorem look_mf (c d : Nat) (x : MF) (l : List (Nat × MF)) : List.lookup c ((d, x) :: l) = if (c == d) = true then some x else l.lookup c := by
  rw [List.lookup_cons]
  cases c == d <;> rfl
@[simp] theorem ty_ins (c : Nat) (xs : List MV) : tyM s (.ins c xs) = some (.own c) := rfl
@[simp] theorem isOwn_own (c d : Nat) : isOwn d (.own c) = some (c == d) := rfl
@[simp] theorem fld_ins (c f : Nat) (xs : List MV) : fldOf s f (.ins c xs) = zipLook (fieldsOf c) xs f := rfl
@[simp] theorem cNot_n (x : MV) : cNot s x .non = some (!isN x) := rfl
@[simp] theorem isN_n : isN .non = true := rfl
@[simp] theorem isN_i (i : Int) : isN (.int i) = false := rfl
@[simp] theorem isN_s (i : Str) : isN (.str i) = false := rfl
@[simp] theorem isN_t (i : List MV) : isN (.tup i) = false := rfl
@[simp] theorem isN_l (i : List MV) : isN (.lst i) = false := rfl
@[simp] theorem isN_r (i : Nat) : isN (.ref i) = false := rfl
@[simp] theorem isN_o (c : Nat) (i : List MV) : isN (.ins c i) = false := rfl
@[simp] theorem line_i : line = 100000 := rfl
/-! ### one of a written list -/
theorem atI_in {α : Type} {xs : List α} {i : Int} (h0 : 0 ≤ i) (h1 : i < xs.length) : ∃ x, atI xs i = some x ∧ x ∈ xs := by
  obtain ⟨n, rfl⟩ := Int.eq_ofNat_of_zero_le h0
  have hn : n < xs.length := by omega
  refine ⟨xs[n], ?_, List.getElem_mem hn⟩
  have := atI_n xs n
  rw [List.getElem?_eq_getElem hn] at this
  exact this
theorem wpo_any {xs : List MV} {i : Int} (h0 : 0 ≤ i) (h1 : i < xs.length) (R : MV → Prop) (h : ∀ x ∈ xs, R x) (k : ∀ v, R v → Q v) : WpO Q (ixF s (.lst xs) (.int i)) := by
  obtain ⟨x, e, m⟩ := atI_in h0 h1
  exact WpO.of (a := x) e (k x (h x m))
theorem wpo_anyT {xs : List MV} {i : Int} (h0 : 0 ≤ i) (h1 : i < xs.length) (R : MV → Prop) (h : ∀ x ∈ xs, R x) (k : ∀ v, R v → Q v) : WpO Q (ixF s (.tup xs) (.int i)) := by
  obtain ⟨x, e, m⟩ := atI_in h0 h1
  exact WpO.of (a := x) e (k x (h x m))
theorem ix_lst (xs : List MV) (i : Int) : ixF s (.lst xs) (.int i) = atI xs i := rfl
theorem ix_tup (xs : List MV) (i : Int) : ixF s (.tup xs) (.int i) = atI xs i := rfl
@[simp] theorem ix_ln (xs : List MV) (n : Nat) : ixF s (.lst xs) (.int (n : Int)) = xs[n]? := atI_n xs n
@[simp] theorem ix_tn (xs : List MV) (n : Nat) : ixF s (.tup xs) (.int (n : Int)) = xs[n]? := atI_n xs n
@[simp] theorem ixt3 (x0 x1 x2 x3 : MV) (xs : List MV) : ixF s (.tup (x0 :: x1 :: x2 :: x3 :: xs)) (.int 3) = some x3 := atI_n (x0 :: x1 :: x2 :: x3 :: xs) 3
@[simp] theorem ixt4 (x0 x1 x2 x3 x4 : MV) (xs : List MV) : ixF s (.tup (x0 :: x1 :: x2 :: x3 :: x4 :: xs)) (.int 4) = some x4 := atI_n (x0 :: x1 :: x2 :: x3 :: x4 :: xs) 4
@[simp] theorem ixt5 (x0 x1 x2 x3 x4 x5 : MV) (xs : List MV) : ixF s (.tup (x0 :: x1 :: x2 :: x3 :: x4 :: x5 :: xs)) (.int 5) = some x5 := atI_n (x0 :: x1 :: x2 :: x3 :: x4 :: x5 :: xs) 5
@[simp] theorem ixt6 (x0 x1 x2 x3 x4 x5 x6 : MV) (xs : List MV) : ixF s (.tup (x0 :: x1 :: x2 :: x3 :: x4 :: x5 :: x6 :: xs)) (.int 6) = some x6 := atI_n (x0 :: x1 :: x2 :: x3 :: x4 :: x5 :: x6 :: xs) 6
@[simp] theorem ixt7 (x0 x1 x2 x3 x4 x5 x6 x7 : MV) (xs : List MV) : ixF s (.tup (x0 :: x1 :: x2 :: x3 :: x4 :: x5 :: x6 :: x7 :: xs)) (.int 7) = some x7 := atI_n (x0 :: x1 :: x2 :: x3 :: x4 :: x5 :: x6 :: x7 :: xs) 7
@[simp] theorem ixt8 (x0 x1 x2 x3 x4 x5 x6 x7 x8 : MV) (xs : List MV) : ixF s (.tup (x0 :: x1 :: x2 :: x3 :: x4 :: x5 :: x6 :: x7 :: x8 :: xs)) (.int 8) = some x8 := atI_n (x0 :: x1 :: x2 :: x3 :: x4 :: x5 :: x6 :: x7 :: x8 :: xs) 8
@[simp] theorem ixt9 (x0 x1 x2 x3 x4 x5 x6 x7 x8 x9 : MV) (xs : List MV) : ixF s (.tup (x0 :: x1 :: x2 :: x3 :: x4 :: x5 :: x6 :: x7 :: x8 :: x9 :: xs)) (.int 9) = some x9 := atI_n (x0 :: x1 :: x2 :: x3 :: x4 :: x5 :: x6 :: x7 :: x8 :: x9 :: xs) 9
@[simp] theorem ixt10 (x0 x1 x2 x3 x4 x5 x6 x7 x8 x9 x10 : MV) (xs : List MV) : ixF s (.tup (x0 :: x1 :: x2 :: x3 :: x4 :: x5 :: x6 :: x7 :: x8 :: x9 :: x10 :: xs)) (.int 10) = some x10 := atI_n (x0 :: x1 :: x2 :: x3 :: x4 :: x5 :: x6 :: x7 :: x8 :: x9 :: x10 :: xs) 10
@[simp] theorem ixt11 (x0 x1 x2 x3 x4 x5 x6 x7 x8 x9 x10 x11 : MV) (xs : List MV) : ixF s (.tup (x0 :: x1 :: x2 :: x3 :: x4 :: x5 :: x6 :: x7 :: x8 :: x9 :: x10 :: x11 :: xs)) (.int 11) = some x11 := atI_n (x0 :: x1 :: x2 :: x3 :: x4 :: x5 :: x6 :: x7 :: x8 :: x9 :: x10 :: x11 :: xs) 11
@[simp] theorem ixl2 (x0 x1 x2 : MV) (xs : List MV) : ixF s (.lst (x0 :: x1 :: x2 :: xs)) (.int 2) = some x2 := atI_n (x0 :: x1 :: x2 :: xs) 2
@[simp] theorem ixl3 (x0 x1 x2 x3 : MV) (xs : List MV) : ixF s (.lst (x0 :: x1 :: x2 :: x3 :: xs)) (.int 3) = some x3 := atI_n (x0 :: x1 :: x2 :: x3 :: xs) 3
@[simp] theorem ixl4 (x0 x1 x2 x3 x4 : MV) (xs : List MV) : ixF s (.lst (x0 :: x1 :: x2 :: x3 :: x4 :: xs)) (.int 4) = some x4 := atI_n (x0 :: x1 :: x2 :: x3 :: x4 :: xs) 4
@[simp] theorem ixl5 (x0 x1 x2 x3 x4 x5 : MV) (xs : List MV) : ixF s (.lst (x0 :: x1 :: x2 :: x3 :: x4 :: x5 :: xs)) (.int 5) = some x5 := atI_n (x0 :: x1 :: x2 :: x3 :: x4 :: x5 :: xs) 5
@[simp] theorem ixl6 (x0 x1 x2 x3 x4 x5 x6 : MV) (xs : List MV) : ixF s (.lst (x0 :: x1 :: x2 :: x3 :: x4 :: x5 :: x6 :: xs)) (.int 6) = some x6 := atI_n (x0 :: x1 :: x2 :: x3 :: x4 :: x5 :: x6 :: xs) 6
@[simp] theorem ixl7 (x0 x1 x2 x3 x4 x5 x6 x7 : MV) (xs : List MV) : ixF s (.lst (x0 :: x1 :: x2 :: x3 :: x4 :: x5 :: x6 :: x7 :: xs)) (.int 7) = some x7 := atI_n (x0 :: x1 :: x2 :: x3 :: x4 :: x5 :: x6 :: x7 :: xs) 7
@[simp] theorem ixl8 (x0 x1 x2 x3 x4 x5 x6 x7 x8 : MV) (xs : List MV) : ixF s (.lst (x0 :: x1 :: x2 :: x3 :: x4 :: x5 :: x6 :: x7 :: x8 :: xs)) (.int 8) = some x8 := atI_n (x0 :: x1 :: x2 :: x3 :: x4 :: x5 :: x6 :: x7 :: x8 :: xs) 8
@[simp] theorem ixl9 (x0 x1 x2 x3 x4 x5 x6 x7 x8 x9 : MV) (xs : List MV) : ixF s (.lst (x0 :: x1 :: x2 :: x3 :: x4 :: x5 :: x6 :: x7 :: x8 :: x9 :: xs)) (.int 9) = some x9 := atI_n (x0 :: x1 :: x2 :: x3 :: x4 :: x5 :: x6 :: x7 :: x8 :: x9 :: xs) 9
@[simp] theorem ixl10 (x0 x1 x2 x3 x4 x5 x6 x7 x8 x9 x10 : MV) (xs : List MV) : ixF s (.lst (x0 :: x1 :: x2 :: x3 :: x4 :: x5 :: x6 :: x7 :: x8 :: x9 :: x10 :: xs)) (.int 10) = some x10 := atI_n (x0 :: x1 :: x2 :: x3 :: x4 :: x5 :: x6 :: x7 :: x8 :: x9 :: x10 :: xs) 10
@[simp] theorem ixl11 (x0 x1 x2 x3 x4 x5 x6 x7 x8 x9 x10 x11 : MV) (xs : List MV) : ixF s (.lst (x0 :: x1 :: x2 :: x3 :: x4 :: x5 :: x6 :: x7 :: x8 :: x9 :: x10 :: x11 :: xs)) (.int 11) = some x11 := atI_n (x0 :: x1 :: x2 :: x3 :: x4 :: x5 :: x6 :: x7 :: x8 :: x9 :: x10 :: x11 :: xs) 11
theorem ix_m1 {α : Type} (xs : List α) (i : Int) (h : 0 ≤ i) : atI xs i = xs[i.toNat]? := by
  obtain ⟨n, rfl⟩ := Int.eq_ofNat_of_zero_le h
  exact atI_n xs n
theorem cut_lo (xs : List MV) (k : Nat) : cutM xs (some (k : Int)) none = xs.drop k := by
  unfold cutM
  rw [HT.sIx_nat, HT.sIx_none]
  by_cases h : k ≤ xs.length
  · rw [Nat.min_eq_left h, List.take_of_length_le (by rw [List.length_drop]; omega)]
  · rw [Nat.min_eq_right (by omega), List.drop_of_length_le (Nat.le_refl _), List.drop_of_length_le (by omega)]; simp
theorem cut_hi (xs : List MV) (k : Nat) : cutM xs none (some (k : Int)) = xs.take k := by
  unfold cutM
  rw [HT.sIx_nat, HT.sIx_none, List.drop_zero, Nat.sub_zero]
  by_cases h : k ≤ xs.length
  · rw [Nat.min_eq_left h]
  · rw [Nat.min_eq_right (by omega), List.take_of_length_le (Nat.le_refl _), List.take_of_length_le (by omega)]
theorem cut_two (xs : List MV) (i j : Nat) : cutM xs (some (i : Int)) (some (j : Int)) = (xs.drop i).take (j - i) := by
  unfold cutM
  rw [HT.sIx_nat, HT.sIx_nat]
  by_cases h : i ≤ xs.length
  · rw [Nat.min_eq_left h]
    by_cases h2 : j ≤ xs.length
    · rw [Nat.min_eq_left h2]
    · rw [Nat.min_eq_right (by omega), List.take_of_length_le (by rw [List.length_drop]; omega), List.take_of_length_le (by rw [List.length_drop]; omega)]
  · rw [Nat.min_eq_right (by omega : xs.length ≤ i), List.drop_of_length_le (Nat.le_refl _), List.drop_of_length_le (by omega)]; simp
theorem cut_loI (xs : List MV) (i : Int) (h : 0 ≤ i) : cutM xs (some i) none = xs.drop i.toNat := by
  obtain ⟨n, rfl⟩ := Int.eq_ofNat_of_zero_le h
  exact cut_lo xs n
theorem cut_hiI (xs : List MV) (i : Int) (h : 0 ≤ i) : cutM xs none (some i) = xs.take i.toNat := by
  obtain ⟨n, rfl⟩ := Int.eq_ofNat_of_zero_le h
  exact cut_hi xs n
theorem cut_twoI (xs : List MV) (i j : Int) (h : 0 ≤ i) (h2 : 0 ≤ j) : cutM xs (some i) (some j) = (xs.drop i.toNat).take (j.toNat - i.toNat) := by
  obtain ⟨n, rfl⟩ := Int.eq_ofNat_of_zero_le h
  obtain ⟨m, rfl⟩ := Int.eq_ofNat_of_zero_le h2
  exact cut_two xs n m
@[simp] theorem sl_t (fr : Bool) (xs : List MV) (lo hi : Option Int) : slF fr (.tup xs) lo hi s = .ok (.tup (cutM xs lo hi)) s := rfl
@[simp] theorem sl_l (xs : List MV) (lo hi : Option Int) : slF true (.lst xs) lo hi s = .ok (.lst (cutM xs lo hi)) s := rfl
theorem mVar_ok {i : Nat} {v : MV} (h : env.getD i none = some v) (hv : v ≠ .exc) : mVar i env s = .ok v s := by
  rw [mVar_run, h]
  cases v <;> first | rfl | exact absurd rfl hv
theorem atI_last {α : Type} (xs : List α) (x : α) : atI (xs ++ [x]) (-1) = some x := by
  unfold atI ixN
  rw [if_neg (by omega), if_pos (by simp; omega)]
  simp
  have : ((-1 : Int) + ((xs.length : Int) + 1)).toNat = xs.length := by omega
  rw [this]; simp
theorem setL_last {n : Nat} {xs : List MV} {x v : MV} (h : s[n]? = some (.lst (xs ++ [x]))) : setL (.ref n) (.int (-1)) v s = some (s.set n (.lst (xs ++ [v]))) := by
  have e : ixN (xs ++ [x]).length (-1) = some xs.length := by
    unfold ixN
    rw [if_neg (by omega), if_pos (by simp; omega)]
    simp
    omega
  simp only [setL, h, e]
  simp
theorem last_of {α : Type} {xs : List α} (h : xs ≠ []) : ∃ ys y, xs = ys ++ [y] := ⟨xs.dropLast, xs.getLast h, (List.dropLast_concat_getLast h).symm⟩
/-! ### cells -/
theorem ix_ref {n : Nat} {xs : List MV} (h : s[n]? = some (.lst xs)) (i : Int) : ixF s (.ref n) (.int i) = atI xs i := by
  show (match seqOf s (.ref n) with | some xs => atI xs i | none => none) = _
  simp only [seqOf, h]
theorem cat_l {xs ys : List MV} (h : xs.length + ys.length ≤ 100000) : bAdd s (.lst xs) (.lst ys) = some (.lst (xs ++ ys)) := by
  show catOf s (.lst xs) (.lst ys) = _
  have h' : xs.length + ys.length ≤ line := h
  simp only [catOf, Z.listOf, if_pos h']
theorem cat_lr {n : Nat} {xs ys : List MV} (e : s[n]? = some (.lst ys)) (h : xs.length + ys.length ≤ 100000) : bAdd s (.lst xs) (.ref n) = some (.lst (xs ++ ys)) := by
  show catOf s (.lst xs) (.ref n) = _
  have h' : xs.length + ys.length ≤ line := h
  simp only [catOf, Z.listOf, e, if_pos h']
theorem cat_rl {n : Nat} {xs ys : List MV} (e : s[n]? = some (.lst xs)) (h : xs.length + ys.length ≤ 100000) : bAdd s (.ref n) (.lst ys) = some (.lst (xs ++ ys)) := by
  show catOf s (.ref n) (.lst ys) = _
  have h' : xs.length + ys.length ≤ line := h
  simp only [catOf, Z.listOf, e, if_pos h']
theorem cat_t {xs ys : List MV} (h0 : xs ≠ []) (h : xs.length + ys.length ≤ 100000) : bAdd s (.tup xs) (.tup ys) = some (.tup (xs ++ ys)) := by
  have h' : ¬ line < xs.length + ys.length := Nat.not_lt.mpr h
  simp only [bAdd, h0, h', or_self, if_false]
theorem cat_s {x y : Str} (h : x.length + y.length ≤ 100000) : bAdd s (.str x) (.str y) = some (.str (x ++ y)) := by
  have h' : x.length + y.length ≤ line := h
  simp only [bAdd, if_pos h']
theorem pop_ref {n : Nat} {xs : List MV} {y : MV} (e : s[n]? = some (.lst xs)) (h : xs.getLast? = some y) : fPop (.ref n) [] s = .ok y (s.set n (.lst xs.dropLast)) := by
  rw [List.getLast?_eq_getElem?] at h
  simp only [fPop, onLs, e, h]
theorem len_ref {n : Nat} {xs : List MV} (h : s[n]? = some (.lst xs)) : fLen s [.ref n] = some (.int xs.length) := by
  simp [fLen, seqOf, h]
@[simp] theorem len_lst {xs : List MV} : fLen s [.lst xs] = some (.int xs.length) := rfl
@[simp] theorem len_tup {xs : List MV} : fLen s [.tup xs] = some (.int xs.length) := rfl
theorem len_str {x : Str} (h : x.length ≤ 100000) : fLen s [.str x] = some (.int x.length) := by simp [fLen, h]
theorem list_ref {n : Nat} {xs : List MV} (h : s[n]? = some (.lst xs)) : fList s [.ref n] = some xs := by
  simp [fList, seqOf, h]
@[simp] theorem list_lst {xs : List MV} : fList s [.lst xs] = some xs := rfl
@[simp] theorem list_tup {xs : List MV} : fList s [.tup xs] = some xs := rfl
theorem tuple_ref {n : Nat} {xs : List MV} (h : s[n]? = some (.lst xs)) : fTuple s [.ref n] = some (.tup xs) := by
  simp [fTuple, seqOf, h]
@[simp] theorem tuple_lst {xs : List MV} : fTuple s [.lst xs] = some (.tup xs) := rfl
@[simp] theorem tuple_tup {xs : List MV} : fTuple s [.tup xs] = some (.tup xs) := rfl
theorem it_ref {n : Nat} {xs : List MV} (h : s[n]? = some (.lst xs)) : itOf s (.ref n) = some ⟨xs, fun t => t[n]? = some (.lst xs)⟩ := by
  simp [itOf, lsOf, seqOf, h, okOf]
@[simp] theorem it_lst {xs : List MV} : itOf s (.lst xs) = some ⟨xs, fun _ => True⟩ := rfl
@[simp] theorem it_tup {xs : List MV} : itOf s (.tup xs) = some ⟨xs, fun _ => True⟩ := rfl
theorem isLs_ref {n : Nat} {xs : List MV} (h : s[n]? = some (.lst xs)) : isLs s (.ref n) = true := isLs_r h
theorem append_ref {n : Nat} {xs : List MV} {y : MV} (h : s[n]? = some (.lst xs)) (hl : xs.length < 100000) : fAppend (.ref n) [y] s = .ok .non (s.set n (.lst (xs ++ [y]))) := fAppend_r y h (by simpa using hl)
theorem setL_ref {n : Nat} {xs : List MV} {v : MV} {i : Int} (h : s[n]? = some (.lst xs)) (h0 : 0 ≤ i) (h1 : i < xs.length) : setL (.ref n) (.int i) v s = some (s.set n (.lst (xs.set i.toNat v))) := by
  simp only [setL, h, ixN, if_pos h0, if_pos h1]
end
end Z

namespace Z
open PySem L2
/-! ### plain data: ==, in -/
def sok (x : Str) : Bool := PyData.canLay0 (.str x)
def plB : Nat → MV → Bool
  | 0, _ => false
  | _ + 1, .non => true
  | _ + 1, .int _ => true
  | _ + 1, .str x => sok x
  | k + 1, .tup xs => xs.all (plB k)
  | k + 1, .lst xs => xs.all (plB k)
  | _ + 1, _ => false
def pyM : Nat → MV → PyData
  | k + 1, .tup xs => .tuple (xs.map (pyM k))
  | k + 1, .lst xs => .list (xs.map (pyM k))
  | _, .int i => .int i
  | _, .str x => .str x
  | _, _ => .none
abbrev Pl (x : MV) : Prop := plB 12 x = true
theorem pl_all {k : Nat} {xs : List MV} {s : Sto} (ih : ∀ x, plB k x = true → ∀ j, k ≤ j → toPy s j x = some (pyM k x)) {j : Nat} (hj : k ≤ j) : ∀ {xs : List MV}, xs.all (plB k) = true → xs.mapM (toPy s j) = some (xs.map (pyM k))
  | [], _ => rfl
  | x :: xs, h => by
    rw [List.all_cons, Bool.and_eq_true] at h
    rw [List.mapM_cons, ih x h.1 j hj, pl_all (s := s) (xs := []) ih hj h.2]
    rfl
theorem pl_py {s : Sto} : ∀ (k : Nat) (x : MV), plB k x = true → ∀ j, k ≤ j → toPy s j x = some (pyM k x) := by
  intro k
  induction k with
  | zero => intro x h; cases x <;> cases h
  | succ k ih =>
    intro x h j hj
    obtain ⟨j, rfl⟩ : ∃ i, j = i + 1 := ⟨j - 1, by omega⟩
    cases x with
    | tup xs => show (xs.mapM (toPy s j)).map PyData.tuple = _; rw [pl_all (xs := []) ih (by omega) h]; rfl
    | lst xs => show (xs.mapM (toPy s j)).map PyData.list = _; rw [pl_all (xs := []) ih (by omega) h]; rfl
    | non => rfl
    | int i => rfl
    | str i => rfl
    | _ => cases h
theorem pl_layA {k : Nat} (ih : ∀ x, plB k x = true → (pyM k x).canLay0 = true ∧ (pyM k x).depth ≤ k) : ∀ {xs : List MV}, xs.all (plB k) = true → PyData.canLayAll0 (xs.map (pyM k)) = true ∧ PyData.depthAll (xs.map (pyM k)) ≤ k
  | [], _ => ⟨rfl, Nat.zero_le _⟩
  | x :: xs, h => by
    rw [List.all_cons, Bool.and_eq_true] at h
    have h1 := ih x h.1
    have h2 := pl_layA ih h.2
    refine ⟨?_, ?_⟩
    · show ((pyM k x).canLay0 && PyData.canLayAll0 (xs.map (pyM k))) = true
      rw [h1.1, h2.1]; rfl
    · show max _ _ ≤ k
      exact Nat.max_le.mpr ⟨h1.2, h2.2⟩
theorem pl_lay : ∀ (k : Nat) (x : MV), plB k x = true → (pyM k x).canLay0 = true ∧ (pyM k x).depth ≤ k := by
  intro k
  induction k with
  | zero => intro x h; cases x <;> cases h
  | succ k ih =>
    intro x h
    cases x with
    | tup xs =>
      have := pl_layA ih (xs := xs) h
      exact ⟨this.1, by simp only [pyM, PyData.depth]; omega⟩
    | lst xs =>
      have := pl_layA ih (xs := xs) h
      exact ⟨this.1, by simp only [pyM, PyData.depth]; omega⟩
    | non => exact ⟨rfl, by simp [pyM, PyData.depth]⟩
    | int i => exact ⟨rfl, by simp [pyM, PyData.depth]⟩
    | str i => exact ⟨h, by simp [pyM, PyData.depth]⟩
    | _ => cases h
theorem pl_eqA {k : Nat} (ih : ∀ x y, plB k x = true → plB k y = true → (PyData.eqv (pyM k x) (pyM k y) = true ↔ x = y)) : ∀ {xs ys : List MV}, xs.all (plB k) = true → ys.all (plB k) = true → (PyData.eqvAll (xs.map (pyM k)) (ys.map (pyM k)) = true ↔ xs = ys)
  | [], [], _, _ => by simp [PyData.eqvAll]
  | [], y :: ys, _, _ => by simp [PyData.eqvAll]
  | x :: xs, [], _, _ => by simp [PyData.eqvAll]
  | x :: xs, y :: ys, h, h' => by
    rw [List.all_cons, Bool.and_eq_true] at h h'
    show (PyData.eqv (pyM k x) (pyM k y) && PyData.eqvAll (xs.map (pyM k)) (ys.map (pyM k))) = true ↔ _
    rw [Bool.and_eq_true, ih x y h.1 h'.1, pl_eqA ih h.2 h'.2, List.cons.injEq]
theorem pl_eq : ∀ (k : Nat) (x y : MV), plB k x = true → plB k y = true → (PyData.eqv (pyM k x) (pyM k y) = true ↔ x = y) := by
  intro k
  induction k with
  | zero => intro x y h; cases x <;> cases h
  | succ k ih =>
    intro x y h h'
    cases x with
    | tup xs =>
      cases y with
      | tup ys => simpa [pyM, PyData.eqv] using pl_eqA ih (xs := xs) (ys := ys) h h'
      | bl b => cases h'
      | frz b => cases h'
      | ins c b => cases h'
      | ref n => cases h'
      | fn n => cases h'
      | exc => cases h'
      | _ => simp [pyM, PyData.eqv]
    | lst xs =>
      cases y with
      | lst ys => simpa [pyM, PyData.eqv] using pl_eqA ih (xs := xs) (ys := ys) h h'
      | bl b => cases h'
      | frz b => cases h'
      | ins c b => cases h'
      | ref n => cases h'
      | fn n => cases h'
      | exc => cases h'
      | _ => simp [pyM, PyData.eqv]
    | non =>
      cases y with
      | bl b => cases h'
      | frz b => cases h'
      | ins c b => cases h'
      | ref n => cases h'
      | fn n => cases h'
      | exc => cases h'
      | _ => simp [pyM, PyData.eqv]
    | int i =>
      cases y with
      | bl b => cases h'
      | frz b => cases h'
      | ins c b => cases h'
      | ref n => cases h'
      | fn n => cases h'
      | exc => cases h'
      | _ => simp [pyM, PyData.eqv]
    | str i =>
      cases y with
      | bl b => cases h'
      | frz b => cases h'
      | ins c b => cases h'
      | ref n => cases h'
      | fn n => cases h'
      | exc => cases h'
      | _ => simp [pyM, PyData.eqv]
    | _ => cases h
theorem pl_shape {k : Nat} {x : MV} (h : plB k x = true) (hk : k ≤ 64) : SeqAt.shaped (pyM k x) = true := by
  have q := pl_lay k x h
  unfold SeqAt.shaped
  rw [q.1, Bool.true_and]
  exact decide_eq_true (by omega)
open Classical in
theorem deep_pl {s : Sto} {x y x' y' : MV} (hx : Pl x') (hy : Pl y') (ex : toPy s 30 x = toPy s 30 x') (ey : toPy s 30 y = toPy s 30 y') : deepEq s x y = some (decide (x' = y')) := by
  unfold deepEq
  rw [ex, ey, pl_py 12 x' hx 30 (by omega), pl_py 12 y' hy 30 (by omega)]
  simp only []
  rw [if_pos ⟨pl_shape hx (by omega), pl_shape hy (by omega)⟩]
  by_cases h : x' = y'
  · rw [decide_eq_true h, (pl_eq 12 x' y' hx hy).mpr h]
  · rw [decide_eq_false h]
    cases e : PyData.eqv (pyM 12 x') (pyM 12 y') with
    | false => rfl
    | true => exact absurd ((pl_eq 12 x' y' hx hy).mp e) h
open Classical in
theorem eq_pl {s : Sto} {x y : MV} (hx : Pl x) (hy : Pl y) : cEq s x y = some (decide (x = y)) := by
  have d := deep_pl (s := s) hx hy rfl rfl
  cases x <;> cases y <;> first | exact d | (simp [cEq]; done) | (exfalso; revert hx hy; simp [plB]; done)
open Classical in
theorem wpo_neP {s : Sto} {Q : Bool → Prop} {x y x' y' : MV} (hx : Pl x') (hy : Pl y') (ex : toPy s 30 x = toPy s 30 x') (ey : toPy s 30 y = toPy s 30 y') (e : cEq s x y = deepEq s x y) (h1 : x' = y' → Q false) (h0 : x' ≠ y' → Q true) : WpO Q (cNe s x y) := by
  unfold cNe
  rw [e, deep_pl hx hy ex ey]
  by_cases h : x' = y'
  · rw [decide_eq_true h]; exact h1 h
  · rw [decide_eq_false h]; exact h0 h
open Classical in
theorem wpo_eqP {s : Sto} {Q : Bool → Prop} {x y x' y' : MV} (hx : Pl x') (hy : Pl y') (ex : toPy s 30 x = toPy s 30 x') (ey : toPy s 30 y = toPy s 30 y') (e : cEq s x y = deepEq s x y) (h1 : x' = y' → Q true) (h0 : x' ≠ y' → Q false) : WpO Q (cEq s x y) := by
  rw [e, deep_pl hx hy ex ey]
  by_cases h : x' = y'
  · rw [decide_eq_true h]; exact h1 h
  · rw [decide_eq_false h]; exact h0 h
theorem toPy_refK {s : Sto} {q k : Nat} {xs : List MV} (h : s[q]? = some (.lst xs)) : toPy s (k + 1) (.ref q) = toPy s (k + 1) (.lst xs) := by
  simp only [toPy, h]
theorem toPy_l2 {s : Sto} {k : Nat} {a b a' b' : MV} (h1 : toPy s k a = toPy s k a') (h2 : toPy s k b = toPy s k b') : toPy s (k + 1) (.lst [a, b]) = toPy s (k + 1) (.lst [a', b']) := by
  simp only [toPy, List.mapM_cons, h1, h2]
theorem toPy_ref {s : Sto} {q : Nat} {xs : List MV} (h : s[q]? = some (.lst xs)) : toPy s 30 (.ref q) = toPy s 30 (.lst xs) := by
  simp only [toPy, h]
open Classical in
theorem eq_ref {s : Sto} {q : Nat} {xs : List MV} {y : MV} (h : s[q]? = some (.lst xs)) (hx : Pl (.lst xs)) (hy : Pl y) : cEq s (.ref q) y = some (decide (.lst xs = y)) := by
  have d := deep_pl (s := s) hx hy (toPy_ref h) rfl
  cases y <;> exact d
section
variable {s : Sto} {Q : Bool → Prop} {x y : MV} {q : Nat} {xs ys : List MV}
open Classical in
theorem wpo_eq (hx : Pl x) (hy : Pl y) (h1 : x = y → Q true) (h0 : x ≠ y → Q false) : WpO Q (cEq s x y) := by
  rw [eq_pl hx hy]
  by_cases h : x = y
  · rw [decide_eq_true h]; exact h1 h
  · rw [decide_eq_false h]; exact h0 h
open Classical in
theorem wpo_ne (hx : Pl x) (hy : Pl y) (h1 : x = y → Q false) (h0 : x ≠ y → Q true) : WpO Q (cNe s x y) := by
  unfold cNe
  rw [eq_pl hx hy]
  by_cases h : x = y
  · rw [decide_eq_true h]; exact h1 h
  · rw [decide_eq_false h]; exact h0 h
open Classical in
theorem wpo_eqR (h : s[q]? = some (.lst xs)) (hx : Pl (.lst xs)) (hy : Pl y) (h1 : .lst xs = y → Q true) (h0 : .lst xs ≠ y → Q false) : WpO Q (cEq s (.ref q) y) := by
  rw [eq_ref h hx hy]
  by_cases h : .lst xs = y
  · rw [decide_eq_true h]; exact h1 h
  · rw [decide_eq_false h]; exact h0 h
open Classical in
theorem wpo_neR (h : s[q]? = some (.lst xs)) (hx : Pl (.lst xs)) (hy : Pl y) (h1 : .lst xs = y → Q false) (h0 : .lst xs ≠ y → Q true) : WpO Q (cNe s (.ref q) y) := by
  unfold cNe
  rw [eq_ref h hx hy]
  by_cases h : .lst xs = y
  · rw [decide_eq_true h]; exact h1 h
  · rw [decide_eq_false h]; exact h0 h
end
/-! in -/
open Classical in
theorem in_pl {s : Sto} {x y : MV} {ys : List MV} (e : seqOf s y = some ys) (hx : Pl x) (hy : ∀ z ∈ ys, Pl z) : cIn s x y = some (decide (x ∈ ys)) := by
  unfold cIn
  rw [e]
  simp only []
  by_cases hf : (flatM x && ys.all flatM) = true
  · rw [if_pos hf]
    rw [Bool.and_eq_true] at hf
    congr 1
    have key : ∀ z ∈ ys, (flatEq z x = true ↔ z = x) := fun z hz => by
      have h1 := hy z hz
      have h2 := List.all_eq_true.mp hf.2 z hz
      cases z <;> cases x <;> first | (simp [flatEq]; done) | (exfalso; revert h1 hx; simp [plB]; done) | (exfalso; revert h2; simp [flatM]; done) | (exfalso; have := hf.1; revert this; simp [flatM]; done)
    rw [Bool.eq_iff_iff, List.any_eq_true, decide_eq_true_iff]
    constructor
    · rintro ⟨z, hz, h⟩
      rw [← (key z hz).mp h]; exact hz
    · exact fun h => ⟨x, h, (key x h).mpr rfl⟩
  · rw [if_neg hf]
    unfold deepIn
    have hall : ys.all (plB 12) = true := List.all_eq_true.mpr hy
    have em : ys.mapM (toPy s 30) = some (ys.map (pyM 12)) := pl_all (s := s) (xs := []) (fun x h j hj => pl_py 12 x h j hj) (by omega) hall
    rw [pl_py 12 x hx 30 (by omega), em]
    simp only []
    have sh : SeqAt.shaped (.list (ys.map (pyM 12))) = true := pl_shape (k := 13) (x := .lst ys) (by simpa [plB] using hy) (by omega)
    rw [if_pos ⟨pl_shape hx (by omega), sh⟩]
    congr 1
    rw [Bool.eq_iff_iff, List.any_eq_true, decide_eq_true_iff]
    constructor
    · rintro ⟨d, hd, h⟩
      obtain ⟨z, hz, rfl⟩ := List.mem_map.mp hd
      rw [← (pl_eq 12 z x (hy z hz) hx).mp h]; exact hz
    · exact fun h => ⟨pyM 12 x, List.mem_map.mpr ⟨x, h, rfl⟩, (pl_eq 12 x x hx hx).mpr rfl⟩
section
variable {s : Sto} {Q : Bool → Prop} {x y : MV} {ys : List MV}
open Classical in
theorem wpo_in (e : seqOf s y = some ys) (hx : Pl x) (hy : ∀ z ∈ ys, Pl z) (h1 : x ∈ ys → Q true) (h0 : x ∉ ys → Q false) : WpO Q (cIn s x y) := by
  rw [in_pl e hx hy]
  by_cases h : x ∈ ys
  · rw [decide_eq_true h]; exact h1 h
  · rw [decide_eq_false h]; exact h0 h
open Classical in
theorem wpo_nin (e : seqOf s y = some ys) (hx : Pl x) (hy : ∀ z ∈ ys, Pl z) (h1 : x ∈ ys → Q false) (h0 : x ∉ ys → Q true) : WpO Q (cNin s x y) := by
  unfold cNin
  rw [in_pl e hx hy]
  by_cases h : x ∈ ys
  · rw [decide_eq_true h]; exact h1 h
  · rw [decide_eq_false h]; exact h0 h
end
theorem seq_ref {s : Sto} {q : Nat} {xs : List MV} (h : s[q]? = some (.lst xs)) : seqOf s (.ref q) = some xs := by simp [seqOf, h]
/-! what stays when the store is cut -/
theorem pl_frzA {k j : Nat} {t : Sto} {n : Nat} (ih : ∀ x, plB k x = true → frzM t n j x = some x) : ∀ {xs : List MV}, xs.all (plB k) = true → xs.mapM (frzM t n j) = some xs
  | [], _ => rfl
  | x :: xs, h => by
    rw [List.all_cons, Bool.and_eq_true] at h
    rw [List.mapM_cons, ih x h.1, pl_frzA ih h.2]; rfl
theorem pl_frz {t : Sto} {n : Nat} : ∀ (k : Nat) (x : MV), plB k x = true → ∀ j, k ≤ j → frzM t n j x = some x := by
  intro k
  induction k with
  | zero => intro x h; cases x <;> cases h
  | succ k ih =>
    intro x h j hj
    obtain ⟨j, rfl⟩ : ∃ i, j = i + 1 := ⟨j - 1, by omega⟩
    cases x with
    | tup xs => show (xs.mapM (frzM t n j)).map MV.tup = _; rw [pl_frzA (fun x h => ih x h j (by omega)) h]; rfl
    | lst xs => show (xs.mapM (frzM t n j)).map MV.lst = _; rw [pl_frzA (fun x h => ih x h j (by omega)) h]; rfl
    | non => rfl
    | int i => rfl
    | str i => rfl
    | _ => cases h
theorem Pl.flat {x : MV} (h : Pl x) : Flat x := fun t n => pl_frz 12 x h 40 (by omega)
theorem pl_mono : ∀ (k : Nat) (x : MV), plB k x = true → ∀ j, k ≤ j → plB j x = true := by
  intro k
  induction k with
  | zero => intro x h; cases x <;> cases h
  | succ k ih =>
    intro x h j hj
    obtain ⟨j, rfl⟩ : ∃ i, j = i + 1 := ⟨j - 1, by omega⟩
    cases x with
    | tup xs => exact List.all_eq_true.mpr fun y hy => ih y (List.all_eq_true.mp h y hy) j (by omega)
    | lst xs => exact List.all_eq_true.mpr fun y hy => ih y (List.all_eq_true.mp h y hy) j (by omega)
    | non => rfl
    | int i => rfl
    | str i => exact h
    | _ => cases h
theorem pl_lst {k : Nat} {xs : List MV} : plB (k + 1) (.lst xs) = true ↔ ∀ x ∈ xs, plB k x = true := by
  show xs.all (plB k) = true ↔ _
  exact List.all_eq_true
theorem pl_tup {k : Nat} {xs : List MV} : plB (k + 1) (.tup xs) = true ↔ ∀ x ∈ xs, plB k x = true := by
  show xs.all (plB k) = true ↔ _
  exact List.all_eq_true
end Z

namespace Z
open PySem L2
/-! ### one cell changes: what is drawn from -/
structure Fr (r : Nat) (st st' : Sto) : Prop where
  len : st'.length = st.length
  same : ∀ i, i ≠ r → st'[i]? = st[i]?
theorem Fr.refl {r : Nat} {st : Sto} : Fr r st st := ⟨rfl, fun _ _ => rfl⟩
theorem Fr.trans {r : Nat} {a b c : Sto} (h : Fr r a b) (k : Fr r b c) : Fr r a c := ⟨k.len.trans h.len, fun i hi => (k.same i hi).trans (h.same i hi)⟩
theorem Fr.set {r : Nat} {st : Sto} {c : Cell} : Fr r st (st.set r c) := ⟨List.length_set, fun i hi => List.getElem?_set_ne (Ne.symm hi)⟩
theorem Has.fr {L : Heapy} {st t : Sto} {r : Nat} {C : Cell → Prop} (h : Has st L) (m : (r, C) ∈ L) (S : ∃ c, t[r]? = some c ∧ C c) (F : Fr r st t) : Has t L := ⟨h.nd, fun p q => by
  by_cases e : p.1 = r
  · obtain ⟨i, D⟩ := p
    cases e
    rw [nodup_snd h.nd q m]
    exact S
  · obtain ⟨c, z, w⟩ := h.all p q
    exact ⟨c, by rw [F.same _ e]; exact z, w⟩⟩
theorem Has.eq {L : Heapy} {st t : Sto} (h : Has st L) (k : ∀ p ∈ L, t[p.1]? = st[p.1]?) : Has t L := ⟨h.nd, fun p q => by
  obtain ⟨c, z, w⟩ := h.all p q
  exact ⟨c, by rw [k p q]; exact z, w⟩⟩
theorem Fr.last {r : Nat} {u t : Sto} {c : Cell} (F : Fr r (u ++ [c]) t) (h : r < u.length) : ∃ u', t = u' ++ [c] ∧ Fr r u u' := by
  have hl := F.len
  rw [List.length_append, List.length_singleton] at hl
  refine ⟨t.take u.length, ?_, ⟨by rw [List.length_take]; omega, fun i hi => ?_⟩⟩
  · apply List.ext_getElem?
    intro i
    by_cases hi : i < u.length
    · rw [List.getElem?_append_left (by rw [List.length_take]; omega), List.getElem?_take_of_lt hi]
    · by_cases e : i = u.length
      · subst e
        rw [F.same _ (by omega)]
        have hlen : (t.take u.length).length = u.length := by rw [List.length_take]; omega
        rw [List.getElem?_append_right (Nat.le_refl _), Nat.sub_self, List.getElem?_append_right (by omega), hlen, Nat.sub_self]
      · rw [List.getElem?_eq_none (by omega), List.getElem?_eq_none (by rw [List.length_append, List.length_take, List.length_singleton]; omega)]
  · by_cases hi2 : i < u.length
    · rw [List.getElem?_take_of_lt hi2, F.same i hi, List.getElem?_append_left hi2]
    · rw [List.getElem?_eq_none (by rw [List.length_take]; omega), List.getElem?_eq_none (by omega)]
theorem Has.unmore {st e : Sto} {L : Heapy} (h : Has (st ++ e) L) (hl : ∀ p ∈ L, p.1 < st.length) : Has st L := ⟨h.nd, fun p q => by
  obtain ⟨c, z, w⟩ := h.all p q
  exact ⟨c, by rw [List.getElem?_append_left (hl p q)] at z; exact z, w⟩⟩
theorem Has.lt' {st : Sto} {L : Heapy} (h : Has st L) : ∀ p ∈ L, p.1 < st.length := fun p q => h.lt (i := p.1) (C := p.2) q
theorem blws_pl {n : Nat} : ∀ {k : Nat} {x : MV}, plB k x = true → blw n x = true := by
  intro k
  induction k with
  | zero => intro x h; cases x <;> cases h
  | succ k ih =>
    intro x h
    have al : ∀ {xs : List MV}, xs.all (plB k) = true → blws n xs = true := by
      intro xs
      induction xs with
      | nil => intro _; rfl
      | cons y ys ihy =>
        intro h
        rw [List.all_cons, Bool.and_eq_true] at h
        show (blw n y && blws n ys) = true
        rw [ih h.1, ihy h.2]; rfl
    cases x with
    | tup xs => exact al h
    | lst xs => exact al h
    | non => rfl
    | int i => rfl
    | str i => rfl
    | _ => cases h
theorem get_some {α : Type} {xs : List α} {i : Nat} (h : i < xs.length) : ∃ x, xs[i]? = some x ∧ x ∈ xs := ⟨xs[i], List.getElem?_eq_getElem h, List.getElem_mem h⟩
theorem exists_map {α β : Type} {f : α → β} {P : α → Prop} : ∀ {ys : List β}, (∀ y ∈ ys, ∃ a, y = f a ∧ P a) → ∃ xs : List α, ys = xs.map f ∧ ∀ x ∈ xs, P x
  | [], _ => ⟨[], rfl, fun _ h => nomatch h⟩
  | y :: ys, h => by
    obtain ⟨a, rfl, pa⟩ := h y List.mem_cons_self
    obtain ⟨xs, rfl, px⟩ := exists_map fun z hz => h z (List.mem_cons_of_mem _ hz)
    exact ⟨a :: xs, rfl, fun x hx => by
      rcases List.mem_cons.mp hx with rfl | hx
      · exact pa
      · exact px x hx⟩
/-- a comprehension whose elements are drawn -/
theorem wp_draws {mi : MI} {g : MG} {me : Ev → M MV} {vs : List Nat} {env : Ev} {s : Sto} {L : Heapy} {r : Nat} {C : Cell → Prop} {Q : MV → Sto → Prop} {X : Nat → List (Nat × MV) → Sto → Prop} (it : IT) (hi : mi env s = .ok it s) (h : Has s L) (m : (r, C) ∈ L) (hC : ∀ (n : Nat) (c : Cell), C c → cellB n c = true) (hok : ∀ u, it.ok u) (hm : it.xs.length ≤ 100000) (R : MV → Prop) (hR : ∀ y, R y → Pl y)
    (hs : ∀ x ∈ it.xs, ∀ t, Has t L → Wp (fun e t1 => t1 = t ∧ Wp (fun y t2 => R y ∧ Has t2 L ∧ Fr r t t2) noX (me e t1)) noX (g x (wipeM env vs) t))
    (k : ∀ (ys : List MV) (t : Sto), ys.length = it.xs.length → (∀ y ∈ ys, R y) → Has t L → Fr r s t → Q (.lst ys) t) : Wp Q X (mLc true mi g mYes me vs env s) := by
  have hr : r < s.length := h.lt m
  refine wp_lc it (fun d acc u => acc.length = d.length ∧ (∀ y ∈ acc, R y) ∧ Has u L ∧ Fr r s u) hi ⟨rfl, (fun _ z => by cases z), h, .refl⟩ (fun _ _ _ _ _ => hok _) hm ?_ ?_
  · rintro d x rest acc u hx hu ⟨h1, h2, h3, h4⟩
    refine (hs x (by rw [hx]; simp) _ (h3.more [.lst acc])).imp fun e t1 ⟨et, q⟩ => ?_
    subst et
    show Wp _ noX (.ok true (u ++ [.lst acc]))
    refine ⟨fun _ => q.imp fun y t2 ⟨q1, q2, q3⟩ => ?_, fun z => nomatch z⟩
    obtain ⟨u', rfl, F⟩ := q3.last (by omega)
    refine ⟨u', rfl, by rw [F.len]; exact hu, by simp [h1], fun z hz => ?_, q2.unmore fun p hp => ?_, h4.trans F⟩
    · rcases List.mem_append.mp hz with hz | hz
      · exact h2 z hz
      · rw [List.mem_singleton.mp hz]; exact q1
    · have := h.lt' p hp
      rw [F.len]; omega
  · rintro acc u hu ⟨h1, h2, h3, h4⟩
    refine ⟨fun i c hc => ?_, ?_⟩
    · by_cases e : i = r
      · subst e
        obtain ⟨c', z, w⟩ := h3.get m
        rw [hc] at z; cases z
        exact .inr (hC _ _ w)
      · exact .inl (by rw [← h4.same i e]; exact hc)
    · rw [mapM_flat fun x hx => (hR x (h2 x hx)).flat]
      exact k acc u h1 h2 h3 h4
/-- .. that becomes a cell -/
theorem wp_drawsC {mi : MI} {g : MG} {me : Ev → M MV} {vs : List Nat} {env : Ev} {s : Sto} {L : Heapy} {r : Nat} {C : Cell → Prop} {Q : MV → Sto → Prop} {X : Nat → List (Nat × MV) → Sto → Prop} (it : IT) (hi : mi env s = .ok it s) (h : Has s L) (m : (r, C) ∈ L) (hok : ∀ u, it.ok u) (hm : it.xs.length ≤ 100000) (R : MV → Prop)
    (hs : ∀ x ∈ it.xs, ∀ t, Has t L → Wp (fun e t1 => t1 = t ∧ Wp (fun y t2 => R y ∧ Has t2 L ∧ Fr r t t2) noX (me e t1)) noX (g x (wipeM env vs) t))
    (k : ∀ (ys : List MV) (t : Sto), ys.length = it.xs.length → (∀ y ∈ ys, R y) → Has t ((s.length, Ls ys) :: L) → t.length = s.length + 1 → Q (.ref s.length) t) : Wp Q X (mLc false mi g mYes me vs env s) := by
  have hr : r < s.length := h.lt m
  refine wp_lcC it (fun d acc u => acc.length = d.length ∧ (∀ y ∈ acc, R y) ∧ Has u L ∧ Fr r s u) hi ⟨rfl, (fun _ z => by cases z), h, .refl⟩ (fun _ _ _ _ _ => hok _) hm ?_ ?_
  · rintro d x rest acc u hx hu ⟨h1, h2, h3, h4⟩
    refine (hs x (by rw [hx]; simp) _ (h3.more [.lst acc])).imp fun e t1 ⟨et, q⟩ => ?_
    subst et
    show Wp _ noX (.ok true (u ++ [.lst acc]))
    refine ⟨fun _ => q.imp fun y t2 ⟨q1, q2, q3⟩ => ?_, fun z => nomatch z⟩
    obtain ⟨u', rfl, F⟩ := q3.last (by omega)
    refine ⟨u', rfl, by rw [F.len]; exact hu, by simp [h1], fun z hz => ?_, q2.unmore fun p hp => ?_, h4.trans F⟩
    · rcases List.mem_append.mp hz with hz | hz
      · exact h2 z hz
      · rw [List.mem_singleton.mp hz]; exact q1
    · have := h.lt' p hp
      rw [F.len]; omega
  · rintro acc u hu ⟨h1, h2, h3, h4⟩
    have q := h3.push (c := .lst acc) (C := Ls acc) rfl
    rw [hu] at q
    exact k acc _ h1 h2 q (by simp [hu])
end Z

namespace Z
open PySem L2
section
variable {s : Sto} {env : Ev} {Q : MV → Sto → Prop} {X : Nat → List (Nat × MV) → Sto → Prop}
theorem bls_map {α : Type} (b : α → Bool) : ∀ xs : List α, blsOf (xs.map fun x => MV.bl (b x)) = some (xs.map b)
  | [] => rfl
  | x :: xs => by
    show (blsOf (xs.map fun x => MV.bl (b x))).map (b x :: ·) = _
    rw [bls_map b xs]; rfl
theorem all_map {α : Type} (b : α → Bool) (xs : List α) : fAll s [.lst (xs.map fun x => MV.bl (b x))] = some (.bl (xs.all b)) := by
  simp only [fAll, Z.listOf, Option.bind_some, bls_map, Option.map_some]
  congr 2
  induction xs with
  | nil => rfl
  | cons x xs ih => simp
theorem any_map {α : Type} (b : α → Bool) (xs : List α) : fAny s [.lst (xs.map fun x => MV.bl (b x))] = some (.bl (xs.any b)) := by
  simp only [fAny, Z.listOf, Option.bind_some, bls_map, Option.map_some]
  congr 2
  induction xs with
  | nil => rfl
  | cons x xs ih => simp
@[simp ↓] theorem wp_mFunX (n : Nat) (mb : Nat → List (Nat × MV) → MS) (c : Nat) (fs : List (Nat × MV)) : Wp Q X (mFunX n mb c fs s) = Nf (fun e => WpS (.fn Q X) (mb c fs e s)) (some .exc :: List.replicate (n - 1) none) := by
  unfold mFunX
  rw [Nf_eq]
  cases mb c fs (some .exc :: List.replicate (n - 1) none) s <;> rfl
theorem wp_lcLG {g : MG} {mt : Ev → M Bool} {me : Ev → M MV} {ok : Sto → Prop} {n : Nat} {ls : List MV} (I : List MV → List MV → Sto → Prop) (ho : ∀ d acc t, I d acc t → ok t) (hm : ls.length ≤ 100000)
    (hs : ∀ d x r acc t, ls = d ++ x :: r → t[n]? = some (.lst acc) → I d acc t → Wp (fun e t1 => Wp (fun k t2 => (k = true → Wp (fun y t3 => t3[n]? = some (.lst acc) ∧ I (d ++ [x]) (acc ++ [y]) (t3.set n (.lst (acc ++ [y])))) noX (me e t2)) ∧ (k = false → t2[n]? = some (.lst acc) ∧ I (d ++ [x]) acc t2)) noX (mt e t1)) noX (g x env t)) :
    ∀ (r d acc : List MV) (t : Sto), ls = d ++ r → t[n]? = some (.lst acc) → acc.length ≤ d.length → I d acc t → ∃ acc' t', lcL g mt me ok n env r t = some t' ∧ t'[n]? = some (.lst acc') ∧ I ls acc' t'
  | [], d, acc, t, hl, hu, ha, h => by
    rw [List.append_nil] at hl
    refine ⟨acc, t, ?_, hu, hl ▸ h⟩
    unfold lcL
    rw [if_pos (ho d acc t h)]
  | x :: r, d, acc, t, hl, hu, ha, h => by
    unfold lcL
    rw [if_pos (ho d acc t h)]
    have q := hs d x r acc t hl hu h
    have hl2 : ls = (d ++ [x]) ++ r := by rw [hl]; simp
    obtain ⟨e1, t1, eg, q⟩ := q.out
    obtain ⟨k, t2, et, q⟩ := q.out
    simp only [eg, et]
    cases k with
    | false =>
      obtain ⟨hu', h'⟩ := q.2 rfl
      exact wp_lcLG I ho hm hs r (d ++ [x]) acc t2 hl2 hu' (by simp; omega) h'
    | true =>
      obtain ⟨y, t3, ey, hu', h'⟩ := (q.1 rfl).out
      simp only [ey, hu']
      have hln := congrArg List.length hl
      simp at hln
      rw [if_pos (show acc.length < line by simp; omega)]
      exact wp_lcLG I ho hm hs r (d ++ [x]) (acc ++ [y]) _ hl2 (List.getElem?_set_self (List.getElem?_eq_some_iff.mp hu').1) (by simp; omega) h'
/-- a list that becomes a cell, whatever its elements do -/
theorem wp_lcG {mi : MI} {g : MG} {mt : Ev → M Bool} {me : Ev → M MV} {vs : List Nat} (it : IT) (I : List MV → List MV → Sto → Prop) (hi : mi env s = .ok it s) (h0 : I [] [] (s ++ [.lst []])) (ho : ∀ d acc t, I d acc t → it.ok t) (hm : it.xs.length ≤ 100000)
    (hs : ∀ d x r acc t, it.xs = d ++ x :: r → t[s.length]? = some (.lst acc) → I d acc t → Wp (fun e t1 => Wp (fun k t2 => (k = true → Wp (fun y t3 => t3[s.length]? = some (.lst acc) ∧ I (d ++ [x]) (acc ++ [y]) (t3.set s.length (.lst (acc ++ [y])))) noX (me e t2)) ∧ (k = false → t2[s.length]? = some (.lst acc) ∧ I (d ++ [x]) acc t2)) noX (mt e t1)) noX (g x (wipeM env vs) t))
    (h1 : ∀ acc t, t[s.length]? = some (.lst acc) → I it.xs acc t → Q (.ref s.length) t) : Wp Q X (mLc false mi g mt me vs env s) := by
  obtain ⟨acc, t, e, ht, h⟩ := wp_lcLG (env := wipeM env vs) I ho hm hs it.xs [] [] (s ++ [.lst []]) rfl (by simp) (Nat.le_refl _) h0
  unfold mLc
  rw [wp_bnd, hi]
  show Wp Q X (match lcL g mt me it.ok s.length (wipeM env vs) it.xs (s ++ [.lst []]) with | some t => _ | none => _)
  rw [e]
  exact h1 acc t ht h
/-! ### making an object -/
theorem set_new {c f : Nat} {fs : List (Nat × MV)} {v : MV} (h : f ∈ fieldsOf c) (hl : fs.length < 40) : setFld f (.ref s.length) v (s ++ [.ins c fs]) = some (s ++ [.ins c (putN f v fs)]) := by
  simp [setFld, h, hl]
theorem get_new {c f : Nat} {fs : List (Nat × MV)} : fldOf (s ++ [.ins c fs]) f (.ref s.length) = lookN f fs := by
  simp [fldOf]
theorem frz_new {c : Nat} {fs : List (Nat × MV)} (h : fs.map (·.1) = fieldsOf c) (hv : ∀ v ∈ fs.map (·.2), frzM (s ++ [.ins c fs]) s.length 39 v = some v) : frzM (s ++ [.ins c fs]) s.length 40 (.ref s.length) = some (.ins c (fs.map (·.2))) := by
  simp only [frzM, Nat.lt_irrefl, if_false, List.getElem?_append_right (Nat.le_refl _), Nat.sub_self, List.getElem?_cons_zero, h, if_true]
  rw [mapM_id hv]; rfl
theorem wp_make {c : Nat} {init : MF} {args : List MV} (h : Wp (fun v t => v = .non ∧ t.take s.length = s ∧ WpO (fun v' => Q v' s) (frzM t s.length 40 (.ref s.length))) (fun c fs t => t.take s.length = s ∧ WpO (fun vs => X c ((fs.map (·.1)).zip vs) s) ((fs.map (·.2)).mapM (frzM t s.length 40))) (init (.ref s.length :: args) (s ++ [.ins c []]))) : Wp Q X (mPure (newC c init) args s) := by
  refine wp_pure (wp_new (h.mono (fun v t h => ⟨h.1, h.2⟩) fun _ _ _ h => h))
@[simp] theorem take_new {c : Cell} : (s ++ [c]).take s.length = s := by simp
/-- a list made of those that pass, the store kept -/
theorem lc_mapW {α : Type} {f : α → MV} {ys : List α} {ok : Sto → Prop} {mi : MI} {g : MG} {mt : Ev → M Bool} {me : Ev → M MV} {vs : List Nat} (b : α → Bool) (v : α → MV) (hi : mi env s = .ok ⟨ys.map f, ok⟩ s)
    (h : ∀ y ∈ ys, ∀ a, Wp (fun e t1 => Wp (fun k t2 => k = b y ∧ t2 = s ++ [.lst a] ∧ (b y = true → Wp (fun x t3 => x = v y ∧ t3 = s ++ [.lst a]) noX (me e t2))) noX (mt e t1)) noX (g (f y) (wipeM env vs) (s ++ [.lst a]))) (ho : ∀ a, ok (s ++ [.lst a])) (hl : ys.length ≤ 100000) (hf : ∀ y ∈ ys, b y = true → ∀ a, frzM (s ++ [.lst a]) s.length 40 (v y) = some (v y)) :
    mLc true mi g mt me vs env s = .ok (.lst ((ys.filter b).map v)) s := by
  have q : Wp (fun r t => r = .lst ((ys.filter b).map v) ∧ t = s) noX (mLc true mi g mt me vs env s) := by
    refine wp_lc ⟨ys.map f, ok⟩ (fun d acc u => u = s ∧ ∃ d' r', ys = d' ++ r' ∧ d = d'.map f ∧ acc = (d'.filter b).map v) hi ⟨rfl, [], ys, rfl, rfl, rfl⟩ (fun d acc u _ ⟨e, _⟩ => by rw [e]; exact ho acc) (by simpa using hl) ?_ ?_
    · rintro d x r acc u hx hu ⟨rfl, d', r', hy, rfl, rfl⟩
      subst hy
      simp only [List.map_append, List.append_cancel_left_eq] at hx
      cases r' with
      | nil => simp at hx
      | cons y r' =>
        rw [List.map_cons, List.cons.injEq] at hx
        obtain ⟨rfl, rfl⟩ := hx
        refine (h y (by simp) ((d'.filter b).map v)).imp fun e t1 q => q.imp fun k t2 q => ?_
        obtain ⟨rfl, rfl, q⟩ := q
        refine ⟨fun hb => (q hb).imp fun x t3 q => ?_, fun hb => ⟨u, rfl, rfl, rfl, d' ++ [y], r', by simp, by simp, by simp [hb]⟩⟩
        obtain ⟨rfl, rfl⟩ := q
        exact ⟨u, rfl, rfl, rfl, d' ++ [y], r', by simp, by simp, by simp [hb]⟩
    · rintro acc u hu ⟨rfl, d', r', hy, hd, rfl⟩
      have : r' = [] := by
        have := congrArg List.length hd
        rw [hy] at this
        simp at this
        exact this
      subst this
      rw [List.append_nil] at hy
      subst hy
      refine ⟨fun _ _ h => .inl h, ?_⟩
      rw [mapM_id fun x hx => by
        obtain ⟨y, hy, rfl⟩ := List.mem_map.mp hx
        exact hf y (List.mem_filter.mp hy).1 (List.mem_filter.mp hy).2 _]
      exact ⟨rfl, rfl⟩
  obtain ⟨a, t, e, rfl, rfl⟩ := q.out
  exact e
theorem lc_allW {α : Type} {f : α → MV} {ys : List α} {ok : Sto → Prop} {mi : MI} {g : MG} {me : Ev → M MV} {vs : List Nat} (v : α → MV) (hi : mi env s = .ok ⟨ys.map f, ok⟩ s)
    (h : ∀ y ∈ ys, ∀ a, Wp (fun e t1 => t1 = s ++ [.lst a] ∧ Wp (fun x t3 => x = v y ∧ t3 = s ++ [.lst a]) noX (me e t1)) noX (g (f y) (wipeM env vs) (s ++ [.lst a]))) (ho : ∀ a, ok (s ++ [.lst a])) (hl : ys.length ≤ 100000) (hf : ∀ y ∈ ys, ∀ a, frzM (s ++ [.lst a]) s.length 40 (v y) = some (v y)) :
    mLc true mi g mYes me vs env s = .ok (.lst (ys.map v)) s := by
  have := lc_mapW (g := g) (me := me) (vs := vs) (env := env) (mt := mYes) (fun _ => true) v hi (fun y hy a => (h y hy a).imp fun e t1 q => ⟨rfl, q.1, fun _ => q.2⟩) ho hl fun y hy _ a => hf y hy a
  rw [this, List.filter_eq_self.mpr fun _ _ => rfl]
/-- all of a list, one by one -/
theorem lc_all {α : Type} {f : α → MV} {ys : List α} {ok : Sto → Prop} {mi : MI} {g : MG} {me : Ev → M MV} {vs : List Nat} (v : α → MV) (hi : mi env s = .ok ⟨ys.map f, ok⟩ s)
    (h : ∀ y ∈ ys, ∀ a, ∃ e, g (f y) (wipeM env vs) (s ++ [.lst a]) = .ok e (s ++ [.lst a]) ∧ me e (s ++ [.lst a]) = .ok (v y) (s ++ [.lst a])) (ho : ∀ a, ok (s ++ [.lst a])) (hl : ys.length ≤ 100000) (hf : ∀ y ∈ ys, ∀ a, frzM (s ++ [.lst a]) s.length 40 (v y) = some (v y)) :
    mLc true mi g mYes me vs env s = .ok (.lst (ys.map v)) s := by
  have := lc_map (mt := mYes) (fun _ => true) v hi (fun y hy a => by
    obtain ⟨e, h1, h2⟩ := h y hy a
    exact ⟨e, h1, rfl, fun _ => h2⟩) ho hl fun y hy _ a => hf y hy a
  rw [this, List.filter_eq_self.mpr fun _ _ => rfl]
end
@[simp] theorem frz_s {s : Sto} {n : Nat} {x : Str} : frzM s n 40 (.str x) = some (.str x) := rfl
@[simp] theorem frz_i {s : Sto} {n : Nat} {x : Int} : frzM s n 40 (.int x) = some (.int x) := rfl
theorem pl_frz40 {s : Sto} {n : Nat} {x : MV} (h : Pl x) : frzM s n 40 x = some x := pl_frz 12 x h 40 (by omega)
theorem pl_frz39 {s : Sto} {n : Nat} {x : MV} (h : Pl x) : frzM s n 39 x = some x := pl_frz 12 x h 39 (by omega)
theorem pl_maps {α : Type} {f : α → MV} {k : Nat} {xs : List α} (h : ∀ x ∈ xs, plB k (f x) = true) : plB (k + 1) (.tup (xs.map f)) = true := pl_tup.mpr fun y hy => by
  obtain ⟨x, hx, rfl⟩ := List.mem_map.mp hy
  exact h x hx
theorem pl_mapsL {α : Type} {f : α → MV} {k : Nat} {xs : List α} (h : ∀ x ∈ xs, plB k (f x) = true) : plB (k + 1) (.lst (xs.map f)) = true := pl_lst.mpr fun y hy => by
  obtain ⟨x, hx, rfl⟩ := List.mem_map.mp hy
  exact h x hx
end Z

namespace K43
open PySem L2 Z
def P : Program := PySem.Challenge.rw_stillframe_k43_what_is_refused.prog
def gc_WORDS : List Gc := [.str ("none" : Str), .str ("bar" : Str), .str ("rise" : Str), .str ("fall" : Str), .str ("both" : Str)]
def top (i : Nat) : Stmt := PySem.Challenge.pw_stillframe_k43_what_is_refused.main.body.getD i (.Pass ⟨0, 0, 0, 0⟩)
abbrev s_ulaw_source : Stmt := (top 27)
abbrev at_ulaw_source : Str × Option Str := (("_law_source" : Str), (none : Option Str))
def d_ulaw_source : He.DefD := ⟨at_ulaw_source, "_law_source", "_law_source", defArgs s_ulaw_source, defBody s_ulaw_source, defScope s_ulaw_source, [], []⟩
abbrev s_ulaw_cell : Stmt := (top 26)
abbrev at_ulaw_cell : Str × Option Str := (("_law_cell" : Str), (none : Option Str))
def d_ulaw_cell : He.DefD := ⟨at_ulaw_cell, "_law_cell", "_law_cell", defArgs s_ulaw_cell, defBody s_ulaw_cell, defScope s_ulaw_cell, [], []⟩
abbrev s_ulaw_pick : Stmt := (top 28)
abbrev at_ulaw_pick : Str × Option Str := (("_law_pick" : Str), (none : Option Str))
def d_ulaw_pick : He.DefD := ⟨at_ulaw_pick, "_law_pick", "_law_pick", defArgs s_ulaw_pick, defBody s_ulaw_pick, defScope s_ulaw_pick, [], []⟩
abbrev s_ulaw_size : Stmt := (top 30)
abbrev at_ulaw_size : Str × Option Str := (("_law_size" : Str), (none : Option Str))
def d_ulaw_size : He.DefD := ⟨at_ulaw_size, "_law_size", "_law_size", defArgs s_ulaw_size, defBody s_ulaw_size, defScope s_ulaw_size, [], []⟩
abbrev s_ulaw_edges : Stmt := (top 31)
abbrev at_ulaw_edges : Str × Option Str := (("_law_edges" : Str), (none : Option Str))
def d_ulaw_edges : He.DefD := ⟨at_ulaw_edges, "_law_edges", "_law_edges", defArgs s_ulaw_edges, defBody s_ulaw_edges, defScope s_ulaw_edges, [], []⟩
abbrev s_ulaw_place : Stmt := (top 32)
abbrev at_ulaw_place : Str × Option Str := (("_law_place" : Str), (none : Option Str))
def d_ulaw_place : He.DefD := ⟨at_ulaw_place, "_law_place", "_law_place", defArgs s_ulaw_place, defBody s_ulaw_place, defScope s_ulaw_place, [], []⟩
abbrev s_ulaw_bodies : Stmt := (top 33)
abbrev at_ulaw_bodies : Str × Option Str := (("_law_bodies" : Str), (none : Option Str))
def d_ulaw_bodies : He.DefD := ⟨at_ulaw_bodies, "_law_bodies", "_law_bodies", defArgs s_ulaw_bodies, defBody s_ulaw_bodies, defScope s_ulaw_bodies, [], []⟩
abbrev s_ulaw_grid : Stmt := (top 34)
abbrev at_ulaw_grid : Str × Option Str := (("_law_grid" : Str), (none : Option Str))
def d_ulaw_grid : He.DefD := ⟨at_ulaw_grid, "_law_grid", "_law_grid", defArgs s_ulaw_grid, defBody s_ulaw_grid, defScope s_ulaw_grid, [], []⟩
abbrev s_Edges___init__ : Stmt := (inClass (top 15) 0)
abbrev at_Edges___init__ : Str × Option Str := (("Edges" : Str), some ("__init__" : Str))
def d_Edges___init__ : He.DefD := ⟨at_Edges___init__, "__init__", "Edges.__init__", defArgs s_Edges___init__, defBody s_Edges___init__, defScope s_Edges___init__, [], []⟩
abbrev s_ufits : Stmt := (top 20)
abbrev at_ufits : Str × Option Str := (("_fits" : Str), (none : Option Str))
def d_ufits : He.DefD := ⟨at_ufits, "_fits", "_fits", defArgs s_ufits, defBody s_ufits, defScope s_ufits, [], []⟩
abbrev s_Bodies___init__ : Stmt := (inClass (top 19) 0)
abbrev at_Bodies___init__ : Str × Option Str := (("Bodies" : Str), some ("__init__" : Str))
def d_Bodies___init__ : He.DefD := ⟨at_Bodies___init__, "__init__", "Bodies.__init__", defArgs s_Bodies___init__, defBody s_Bodies___init__, defScope s_Bodies___init__, [], []⟩
abbrev s_Grid___init__ : Stmt := (inClass (top 24) 0)
abbrev at_Grid___init__ : Str × Option Str := (("Grid" : Str), some ("__init__" : Str))
def d_Grid___init__ : He.DefD := ⟨at_Grid___init__, "__init__", "Grid.__init__", defArgs s_Grid___init__, defBody s_Grid___init__, defScope s_Grid___init__, [], []⟩
abbrev s_ulaw_made : Stmt := (top 35)
abbrev at_ulaw_made : Str × Option Str := (("_law_made" : Str), (none : Option Str))
def d_ulaw_made : He.DefD := ⟨at_ulaw_made, "_law_made", "_law_made", defArgs s_ulaw_made, defBody s_ulaw_made, defScope s_ulaw_made, [], []⟩
abbrev s_ulaw_names : Stmt := (top 29)
abbrev at_ulaw_names : Str × Option Str := (("_law_names" : Str), (none : Option Str))
def d_ulaw_names : He.DefD := ⟨at_ulaw_names, "_law_names", "_law_names", defArgs s_ulaw_names, defBody s_ulaw_names, defScope s_ulaw_names, [], []⟩
abbrev s_ulaw_told : Stmt := (top 36)
abbrev at_ulaw_told : Str × Option Str := (("_law_told" : Str), (none : Option Str))
def d_ulaw_told : He.DefD := ⟨at_ulaw_told, "_law_told", "_law_told", defArgs s_ulaw_told, defBody s_ulaw_told, defScope s_ulaw_told, [], []⟩
abbrev s_ulaw_has : Stmt := (top 37)
abbrev at_ulaw_has : Str × Option Str := (("_law_has" : Str), (none : Option Str))
def d_ulaw_has : He.DefD := ⟨at_ulaw_has, "_law_has", "_law_has", defArgs s_ulaw_has, defBody s_ulaw_has, defScope s_ulaw_has, [], []⟩
abbrev s_Edges___eq__ : Stmt := (inClass (top 15) 1)
abbrev at_Edges___eq__ : Str × Option Str := (("Edges" : Str), some ("__eq__" : Str))
def d_Edges___eq__ : He.DefD := ⟨at_Edges___eq__, "__eq__", "Edges.__eq__", defArgs s_Edges___eq__, defBody s_Edges___eq__, defScope s_Edges___eq__, [], []⟩
abbrev s_Bodies___eq__ : Stmt := (inClass (top 19) 1)
abbrev at_Bodies___eq__ : Str × Option Str := (("Bodies" : Str), some ("__eq__" : Str))
def d_Bodies___eq__ : He.DefD := ⟨at_Bodies___eq__, "__eq__", "Bodies.__eq__", defArgs s_Bodies___eq__, defBody s_Bodies___eq__, defScope s_Bodies___eq__, [], []⟩
abbrev s_Grid___eq__ : Stmt := (inClass (top 24) 1)
abbrev at_Grid___eq__ : Str × Option Str := (("Grid" : Str), some ("__eq__" : Str))
def d_Grid___eq__ : He.DefD := ⟨at_Grid___eq__, "__eq__", "Grid.__eq__", defArgs s_Grid___eq__, defBody s_Grid___eq__, defScope s_Grid___eq__, [], []⟩
abbrev s_ulaw_right : Stmt := (top 38)
abbrev at_ulaw_right : Str × Option Str := (("_law_right" : Str), (none : Option Str))
def d_ulaw_right : He.DefD := ⟨at_ulaw_right, "_law_right", "_law_right", defArgs s_ulaw_right, defBody s_ulaw_right, defScope s_ulaw_right, [], []⟩
abbrev s_law : Stmt := (top 39)
abbrev at_law : Str × Option Str := (("law" : Str), (none : Option Str))
def d_law : He.DefD := ⟨at_law, "law", "law", defArgs s_law, defBody s_law, defScope s_law, [], []⟩
abbrev si_BadEdges : Stmt := (inClass (top 6) 0)
def i_BadEdges : IniD := ⟨("BadEdges" : Str), ("what" : Str), si_BadEdges⟩
abbrev si_BadBodies : Stmt := (inClass (top 7) 0)
def i_BadBodies : IniD := ⟨("BadBodies" : Str), ("what" : Str), si_BadBodies⟩
abbrev si_BadGrid : Stmt := (inClass (top 8) 0)
def i_BadGrid : IniD := ⟨("BadGrid" : Str), ("what" : Str), si_BadGrid⟩
def ini : List IniD := [i_BadEdges, i_BadBodies, i_BadGrid]
def fn : List He.DefD := [d_ulaw_source, d_ulaw_cell, d_ulaw_pick, d_ulaw_size, d_ulaw_edges, d_ulaw_place, d_ulaw_bodies, d_ulaw_grid, d_Edges___init__, d_ufits, d_Bodies___init__, d_Grid___init__, d_ulaw_made, d_ulaw_names, d_ulaw_told, d_ulaw_has, d_Edges___eq__, d_Bodies___eq__, d_Grid___eq__, d_ulaw_right, d_law]
def facts : List Fc := [cFree ("len" : Str),
  cFree ("min" : Str),
  cFree ("range" : Str),
  cFree ("int" : Str),
  cGlo ("_law_source" : Str),
  cGlo ("_law_cell" : Str),
  cGlo ("_law_pick" : Str),
  cGlo ("_law_size" : Str),
  cFree ("max" : Str),
  cGlo ("_law_edges" : Str),
  cGlo ("_law_place" : Str),
  cGlo ("_law_bodies" : Str),
  cFree ("list" : Str),
  cGlo ("_law_grid" : Str),
  cFree ("tuple" : Str),
  cGint ("MOST_VERTICES" : Str) 12,
  cFree ("super" : Str),
  cGlo ("BadEdges" : Str),
  cRai ("BadEdges" : Str),
  cGint ("MOST_EDGES" : Str) 40,
  cFree ("all" : Str),
  cMk ("Edges" : Str),
  cMet ("Edges" : Str) ("__init__" : Str),
  cKeep ("Edges" : Str),
  cGlo ("Edges" : Str),
  cGint ("MOST_BODIES" : Str) 7,
  cGlo ("BadBodies" : Str),
  cRai ("BadBodies" : Str),
  cGint ("MOST_BARS" : Str) 30,
  cGlo ("_fits" : Str),
  cMk ("Bodies" : Str),
  cMet ("Bodies" : Str) ("__init__" : Str),
  cKeep ("Bodies" : Str),
  cGlo ("Bodies" : Str),
  cGint ("MOST_STRIPS" : Str) 5,
  cGlo ("BadGrid" : Str),
  cRai ("BadGrid" : Str),
  cGtup ("WORDS" : Str) gc_WORDS,
  cMk ("Grid" : Str),
  cMet ("Grid" : Str) ("__init__" : Str),
  cKeep ("Grid" : Str),
  cGlo ("Grid" : Str),
  cGlo ("_law_made" : Str),
  cFree ("isinstance" : Str),
  cGlo ("BadText" : Str),
  cKit ("BadEdges" : Str) (fun K => (.ref (He.ga K ("BadText" : Str)))) false,
  cKit ("BadBodies" : Str) (fun K => (.ref (He.ga K ("BadText" : Str)))) false,
  cKit ("BadGrid" : Str) (fun K => (.ref (He.ga K ("BadText" : Str)))) false,
  cGlo ("BadFrame" : Str),
  cKit ("BadEdges" : Str) (fun K => (.ref (He.ga K ("BadFrame" : Str)))) false,
  cKit ("BadBodies" : Str) (fun K => (.ref (He.ga K ("BadFrame" : Str)))) false,
  cKit ("BadGrid" : Str) (fun K => (.ref (He.ga K ("BadFrame" : Str)))) false,
  cGlo ("BadPlan" : Str),
  cKit ("BadEdges" : Str) (fun K => (.ref (He.ga K ("BadPlan" : Str)))) false,
  cKit ("BadBodies" : Str) (fun K => (.ref (He.ga K ("BadPlan" : Str)))) false,
  cKit ("BadGrid" : Str) (fun K => (.ref (He.ga K ("BadPlan" : Str)))) false,
  cKit ("BadEdges" : Str) (fun K => (.ref (He.ga K ("BadEdges" : Str)))) true,
  cKit ("BadBodies" : Str) (fun K => (.ref (He.ga K ("BadEdges" : Str)))) false,
  cKit ("BadGrid" : Str) (fun K => (.ref (He.ga K ("BadEdges" : Str)))) false,
  cKit ("BadEdges" : Str) (fun K => (.ref (He.ga K ("BadBodies" : Str)))) false,
  cKit ("BadBodies" : Str) (fun K => (.ref (He.ga K ("BadBodies" : Str)))) true,
  cKit ("BadGrid" : Str) (fun K => (.ref (He.ga K ("BadBodies" : Str)))) false,
  cKit ("BadEdges" : Str) (fun K => (.ref (He.ga K ("BadGrid" : Str)))) false,
  cKit ("BadBodies" : Str) (fun K => (.ref (He.ga K ("BadGrid" : Str)))) false,
  cKit ("BadGrid" : Str) (fun K => (.ref (He.ga K ("BadGrid" : Str)))) true,
  cGlo ("BadDrawing" : Str),
  cKit ("BadEdges" : Str) (fun K => (.ref (He.ga K ("BadDrawing" : Str)))) false,
  cKit ("BadBodies" : Str) (fun K => (.ref (He.ga K ("BadDrawing" : Str)))) false,
  cKit ("BadGrid" : Str) (fun K => (.ref (He.ga K ("BadDrawing" : Str)))) false,
  cGlo ("BadPaper" : Str),
  cKit ("BadEdges" : Str) (fun K => (.ref (He.ga K ("BadPaper" : Str)))) false,
  cKit ("BadBodies" : Str) (fun K => (.ref (He.ga K ("BadPaper" : Str)))) false,
  cKit ("BadGrid" : Str) (fun K => (.ref (He.ga K ("BadPaper" : Str)))) false,
  cGlo ("BadDeed" : Str),
  cKit ("BadEdges" : Str) (fun K => (.ref (He.ga K ("BadDeed" : Str)))) false,
  cKit ("BadBodies" : Str) (fun K => (.ref (He.ga K ("BadDeed" : Str)))) false,
  cKit ("BadGrid" : Str) (fun K => (.ref (He.ga K ("BadDeed" : Str)))) false,
  cFree ("ValueError" : Str),
  cKit ("BadEdges" : Str) (fun K => (.type "ValueError")) true,
  cKit ("BadBodies" : Str) (fun K => (.type "ValueError")) true,
  cKit ("BadGrid" : Str) (fun K => (.type "ValueError")) true,
  cGlo ("_law_names" : Str),
  cExm ("BadEdges" : Str) ("BadEdges" : Str) true,
  cExm ("BadBodies" : Str) ("BadEdges" : Str) false,
  cExm ("BadGrid" : Str) ("BadEdges" : Str) false,
  cExm ("BadEdges" : Str) ("BadBodies" : Str) false,
  cExm ("BadBodies" : Str) ("BadBodies" : Str) true,
  cExm ("BadGrid" : Str) ("BadBodies" : Str) false,
  cExm ("BadEdges" : Str) ("BadGrid" : Str) false,
  cExm ("BadBodies" : Str) ("BadGrid" : Str) false,
  cExm ("BadGrid" : Str) ("BadGrid" : Str) true,
  cExm ("BadEdges" : Str) ("FrameError" : Str) true,
  cExm ("BadBodies" : Str) ("FrameError" : Str) true,
  cExm ("BadGrid" : Str) ("FrameError" : Str) true,
  cGlo ("FrameError" : Str),
  cGlo ("_law_told" : Str),
  cFree ("bool" : Str),
  cGlo ("_law_has" : Str),
  cKit ("Edges" : Str) (fun K => .ref (He.ga K ("Edges" : Str))) true,
  cKit ("Bodies" : Str) (fun K => .ref (He.ga K ("Edges" : Str))) false,
  cKit ("Grid" : Str) (fun K => .ref (He.ga K ("Edges" : Str))) false,
  cMet ("Edges" : Str) ("__eq__" : Str),
  cSelf ("Edges" : Str),
  cKit ("Edges" : Str) (fun K => .ref (He.ga K ("Bodies" : Str))) false,
  cKit ("Bodies" : Str) (fun K => .ref (He.ga K ("Bodies" : Str))) true,
  cKit ("Grid" : Str) (fun K => .ref (He.ga K ("Bodies" : Str))) false,
  cMet ("Bodies" : Str) ("__eq__" : Str),
  cSelf ("Bodies" : Str),
  cKit ("Edges" : Str) (fun K => .ref (He.ga K ("Grid" : Str))) false,
  cKit ("Bodies" : Str) (fun K => .ref (He.ga K ("Grid" : Str))) false,
  cKit ("Grid" : Str) (fun K => .ref (He.ga K ("Grid" : Str))) true,
  cMet ("Grid" : Str) ("__eq__" : Str),
  cSelf ("Grid" : Str),
  cGlo ("_law_right" : Str),
  cCls ("Edges" : Str),
  cNo ("Edges" : Str) ("size" : Str),
  cNo ("Edges" : Str) ("pairs" : Str),
  cIns ("Edges" : Str),
  cCls ("Bodies" : Str),
  cNo ("Bodies" : Str) ("size" : Str),
  cNo ("Bodies" : Str) ("rods" : Str),
  cIns ("Bodies" : Str),
  cCls ("Grid" : Str),
  cNo ("Grid" : Str) ("squares" : Str),
  cIns ("Grid" : Str),
  cExi ("BadEdges" : Str),
  cExi ("BadBodies" : Str),
  cExi ("BadGrid" : Str),
  cGlo ("law" : Str),
  cNo ("BadEdges" : Str) ("what" : Str),
  cNo ("BadBodies" : Str) ("what" : Str),
  cNo ("BadGrid" : Str) ("what" : Str),
  cIni P.main.file ("BadEdges" : Str) ("what" : Str),
  cIni P.main.file ("BadBodies" : Str) ("what" : Str),
  cIni P.main.file ("BadGrid" : Str) ("what" : Str)]
def clsNm : Nat → Str
  | 0 => "FrameError"
  | 1 => "BadText"
  | 2 => "BadFrame"
  | 3 => "BadPlan"
  | 5 => "BadPaper"
  | 6 => "BadDeed"
  | 9 => "BadEdges"
  | 10 => "BadBodies"
  | 11 => "BadGrid"
  | 12 => "BadDrawing"
  | 30 => "Edges"
  | 31 => "Bodies"
  | 32 => "Grid"
  | _ => ""
def tx (K : PySem.W.Frag) : Tx := { K := K, cls := fun n => He.ga K (clsNm n), has := fun n => [30, 31, 32].contains n, hasX := fun n => [9, 10, 11].contains n, fnA := fun _ => 0, exc := none }
abbrev TT (K : PySem.W.Frag) (mg : Str → Option Value) : Prop := TxtI facts fn ini K mg
/-! ### the plain readings -/
noncomputable def m_ulaw_source : MF := mFun 2 (sSeq (sIf (mCmp cGe (mVar 0) (mBin bPow (mC (.int 10)) (mC (.int 18)))) (sRet (mLst false (mCons (mBin bSub (mVar 0) (mBin bPow (mC (.int 10)) (mC (.int 18)))) (mCons (mBin bAdd (mVar 1) (mC (.int 1))) mNil)))) sNil)
    (sRet (mLst false (mCons (mC (.int 0)) (mCons (mBin bMod (mCallF fInt (mCons (mBin bAdd (mBin bAdd (mBin bMul (mVar 0) (mC (.int 7919))) (mBin bMul (mVar 1) (mC (.int 104729)))) (mC (.int 1))) mNil)) (mC (.int 2147483647))) mNil)))))
noncomputable def m_ulaw_cell : MF := mFun 2 (sSeq (sIf (mCmp cLt (mVar 1) (mCallF fLen (mCons (mVar 0) mNil))) (sRet (mIx (mVar 0) (mVar 1))) sNil)
    (sRet (mC (.int 0))))
noncomputable def m_ulaw_pick : MF := mFun 4 (sSeq (sIf (mCmp cGt (mIx (mVar 0) (mC (.int 0))) (mC (.int 1))) (sSeq (sAsg 2 (mBin bMod (mCallF fInt (mCons (mIx (mVar 0) (mC (.int 0))) mNil)) (mVar 1)))
    (sSeq (sSub (mVar 0) (mC (.int 0)) (mBin bDiv (mIx (mVar 0) (mC (.int 0))) (mVar 1)))
    (sRet (mVar 2)))) sNil)
    (sSeq (sSub (mVar 0) (mC (.int 1)) (mBin bMod (mCallF fInt (mCons (mBin bAdd (mBin bMul (mIx (mVar 0) (mC (.int 1))) (mC (.int 48271))) (mC (.int 12345))) mNil)) (mC (.int 2147483647))))
    (sSeq (sAsg 3 (mBin bMod (mCallF fInt (mCons (mBin bAdd (mBin bAdd (mBin bMul (mIx (mVar 0) (mC (.int 1))) (mC (.int 69621))) (mBin bDiv (mIx (mVar 0) (mC (.int 1))) (mC (.int 127)))) (mC (.int 7))) mNil)) (mC (.int 2147483629))))
    (sRet (mBin bMod (mCallF fInt (mCons (mBin bDiv (mVar 3) (mC (.int 16))) mNil)) (mVar 1))))))
noncomputable def m_ulaw_size : MF := mFun 3 (sSeq (sAsg 2 (mLst true (mCons (mBin bAdd (mC (.int 1)) (mCall m_ulaw_pick (mCons (mVar 0) (mCons (mVar 1) mNil)))) (mCons (mVar 1) (mCons (mC (.int 1)) (mCons (mBin bAdd (mVar 1) (mC (.int 1))) (mCons (mC (.int 0)) (mCons (mBin bSub (mBin bSub (mC (.int 0)) (mC (.int 1))) (mCall m_ulaw_pick (mCons (mVar 0) (mCons (mC (.int 99)) mNil)))) (mCons (mBin bAdd (mVar 1) (mCall m_ulaw_pick (mCons (mVar 0) (mCons (mBin bPow (mC (.int 10)) (mC (.int 20))) mNil)))) mNil)))))))))
    (sSeq (sIf (mCmp cEq (mCall m_ulaw_pick (mCons (mVar 0) (mCons (mC (.int 2)) mNil))) (mC (.int 0))) (sRet (mIx (mVar 2) (mCall m_ulaw_pick (mCons (mVar 0) (mCons (mC (.int 7)) mNil))))) sNil)
    (sRet (mIx (mVar 2) (mC (.int 0))))))
noncomputable def m_ulaw_edges : MF := mFun 11 (sSeq (sAsg 1 (mCall m_ulaw_size (mCons (mVar 0) (mCons (mC (.int 12)) mNil))))
    (sSeq (sAsg 2 (mCallF fMax (mCons (mC (.int 2)) (mCons (mCallF fMin (mCons (mVar 1) (mCons (mC (.int 14)) mNil))) mNil))))
    (sSeq (sAsg 3 (mLst false mNil))
    (sSeq (sFor (miRange (mIx (mLst true (mCons (mCall m_ulaw_pick (mCons (mVar 0) (mCons (mC (.int 12)) mNil))) (mCons (mCall m_ulaw_pick (mCons (mVar 0) (mCons (mC (.int 45)) mNil))) (mCons (mC (.int 40)) (mCons (mC (.int 41)) mNil))))) (mCall m_ulaw_pick (mCons (mVar 0) (mCons (mC (.int 4)) mNil))))) (tgName 4) (sSeq (sAsg 5 (mCall m_ulaw_pick (mCons (mVar 0) (mCons (mVar 2) mNil))))
    (sSeq (sAsg 6 (mBin bMod (mCallF fInt (mCons (mBin bAdd (mBin bAdd (mVar 5) (mC (.int 1))) (mCall m_ulaw_pick (mCons (mVar 0) (mCons (mBin bSub (mVar 2) (mC (.int 1))) mNil)))) mNil)) (mVar 2)))
    (sExpr (mMB isLs fAppend (mVar 3) (mCons (mTup (mCons (mCallF fMin (mCons (mVar 5) (mCons (mVar 6) mNil))) (mCons (mCallF fMax (mCons (mVar 5) (mCons (mVar 6) mNil))) mNil))) mNil))))))
    (sSeq (sIf (mAnd (mCmp cNe (mVar 3) (mLst true mNil)) (mCmp cEq (mCall m_ulaw_pick (mCons (mVar 0) (mCons (mC (.int 3)) mNil))) (mC (.int 0)))) (sSeq (sAsg 7 (mCall m_ulaw_pick (mCons (mVar 0) (mCons (mCallF fLen (mCons (mVar 3) mNil)) mNil))))
    (sSeq (sTg (tgTup 2 (tgCons (tgName 5) (tgCons (tgName 6) tgNil))) (mIx (mVar 3) (mVar 7)))
    (sSeq (sAsg 8 (mLst true (mCons (mTup (mCons (mVar 6) (mCons (mVar 5) mNil))) (mCons (mTup (mCons (mVar 5) (mCons (mVar 5) mNil))) (mCons (mTup (mCons (mVar 5) (mCons (mVar 2) mNil))) (mCons (mTup (mCons (mBin bSub (mC (.int 0)) (mC (.int 1))) (mCons (mVar 6) mNil))) (mCons (mTup (mCons (mVar 6) (mCons (mVar 6) mNil))) (mCons (mTup (mCons (mVar 5) (mCons (mBin bAdd (mVar 2) (mCall m_ulaw_pick (mCons (mVar 0) (mCons (mBin bPow (mC (.int 10)) (mC (.int 9))) mNil)))) mNil))) mNil))))))))
    (sSub (mVar 3) (mVar 7) (mIx (mVar 8) (mCall m_ulaw_pick (mCons (mVar 0) (mCons (mC (.int 6)) mNil)))))))) sNil)
    (sSeq (sAsg 9 (mC .non))
    (sSeq (sIf (mOr (mCmp cLt (mVar 1) (mC (.int 1))) (mCmp cGt (mVar 1) (mC (.int 12)))) (sAsg 9 (mC (.str ("size" : Str)))) (sIf (mOr (mCmp cGt (mCallF fLen (mCons (mVar 3) mNil)) (mC (.int 40))) (mCmp cNe (mLc true (miSeq (mVar 3)) (tgName 10) (mNot (mAnd (mCmp cLe (mC (.int 0)) (mIx (mVar 10) (mC (.int 0)))) (mAnd (mCmp cLt (mIx (mVar 10) (mC (.int 0))) (mIx (mVar 10) (mC (.int 1)))) (mCmp cLt (mIx (mVar 10) (mC (.int 1))) (mVar 1))))) (mVar 10) [10]) (mLst true mNil))) (sAsg 9 (mC (.str ("pairs" : Str)))) sNil))
    (sRet (mTup (mCons (mVar 1) (mCons (mVar 3) (mCons (mVar 9) mNil))))))))))))
noncomputable def m_ulaw_place : MF := mFun 2 (sRet (mBin bAdd (mBin bMul (mBin bSub (mCall m_ulaw_pick (mCons (mVar 0) (mCons (mC (.int 7)) mNil))) (mC (.int 3))) (mIx (mLst true (mCons (mC (.int 1)) (mCons (mBin bAdd (mBin bPow (mC (.int 10)) (mC (.int 30))) (mC (.int 7))) mNil))) (mVar 1))) (mBin bMul (mCall m_ulaw_pick (mCons (mVar 0) (mCons (mC (.int 2)) mNil))) (mVar 1))))
noncomputable def m_ulaw_bodies : MF := mFun 15 (sSeq (sAsg 1 (mCall m_ulaw_size (mCons (mVar 0) (mCons (mC (.int 7)) mNil))))
    (sSeq (sAsg 2 (mCallF fMax (mCons (mC (.int 2)) (mCons (mCallF fMin (mCons (mVar 1) (mCons (mC (.int 9)) mNil))) mNil))))
    (sSeq (sAsg 3 (mCallF fInt (mCons (mV (mCmp cEq (mCall m_ulaw_pick (mCons (mVar 0) (mCons (mC (.int 5)) mNil))) (mC (.int 0)))) mNil)))
    (sSeq (sAsg 4 (mLst false mNil))
    (sSeq (sFor (miRange (mIx (mLst true (mCons (mCall m_ulaw_pick (mCons (mVar 0) (mCons (mC (.int 9)) mNil))) (mCons (mCall m_ulaw_pick (mCons (mVar 0) (mCons (mC (.int 42)) mNil))) (mCons (mC (.int 30)) (mCons (mC (.int 31)) mNil))))) (mCall m_ulaw_pick (mCons (mVar 0) (mCons (mC (.int 4)) mNil))))) (tgName 5) (sSeq (sAsg 6 (mCall m_ulaw_pick (mCons (mVar 0) (mCons (mVar 2) mNil))))
    (sSeq (sAsg 7 (mBin bMod (mCallF fInt (mCons (mBin bAdd (mBin bAdd (mVar 6) (mC (.int 1))) (mCall m_ulaw_pick (mCons (mVar 0) (mCons (mBin bSub (mVar 2) (mC (.int 1))) mNil)))) mNil)) (mVar 2)))
    (sSeq (sAsg 8 (mCall m_ulaw_place (mCons (mVar 0) (mCons (mVar 3) mNil))))
    (sSeq (sAsg 9 (mCall m_ulaw_place (mCons (mVar 0) (mCons (mVar 3) mNil))))
    (sExpr (mMB isLs fAppend (mVar 4) (mCons (mTup (mCons (mVar 6) (mCons (mVar 8) (mCons (mVar 9) (mCons (mVar 7) (mCons (mBin bAdd (mBin bAdd (mVar 8) (mC (.int 1))) (mCall m_ulaw_pick (mCons (mVar 0) (mCons (mC (.int 3)) mNil)))) (mCons (mIx (mLst true (mCons (mVar 9) (mCons (mCall m_ulaw_place (mCons (mVar 0) (mCons (mVar 3) mNil))) mNil))) (mCall m_ulaw_pick (mCons (mVar 0) (mCons (mC (.int 2)) mNil)))) mNil))))))) mNil))))))))
    (sSeq (sIf (mAnd (mCmp cNe (mVar 4) (mLst true mNil)) (mCmp cEq (mCall m_ulaw_pick (mCons (mVar 0) (mCons (mC (.int 3)) mNil))) (mC (.int 0)))) (sSeq (sAsg 10 (mCall m_ulaw_pick (mCons (mVar 0) (mCons (mCallF fLen (mCons (mVar 4) mNil)) mNil))))
    (sSeq (sTg (tgTup 6 (tgCons (tgName 6) (tgCons (tgName 8) (tgCons (tgName 9) (tgCons (tgName 7) (tgCons (tgName 11) (tgCons (tgName 12) tgNil))))))) (mIx (mVar 4) (mVar 10)))
    (sSeq (sAsg 13 (mLst true (mCons (mTup (mCons (mVar 6) (mCons (mVar 8) (mCons (mVar 9) (mCons (mVar 6) (mCons (mVar 11) (mCons (mVar 12) mNil))))))) (mCons (mTup (mCons (mVar 6) (mCons (mVar 8) (mCons (mVar 9) (mCons (mVar 7) (mCons (mVar 8) (mCons (mVar 9) mNil))))))) (mCons (mTup (mCons (mVar 2) (mCons (mVar 8) (mCons (mVar 9) (mCons (mVar 7) (mCons (mVar 11) (mCons (mVar 12) mNil))))))) (mCons (mTup (mCons (mVar 6) (mCons (mVar 8) (mCons (mVar 9) (mCons (mBin bSub (mC (.int 0)) (mC (.int 1))) (mCons (mVar 11) (mCons (mVar 12) mNil))))))) mNil))))))
    (sSub (mVar 4) (mVar 10) (mIx (mVar 13) (mCall m_ulaw_pick (mCons (mVar 0) (mCons (mC (.int 4)) mNil)))))))) sNil)
    (sSeq (sAsg 14 (mC .non))
    (sSeq (sIf (mOr (mCmp cLt (mVar 1) (mC (.int 1))) (mCmp cGt (mVar 1) (mC (.int 7)))) (sAsg 14 (mC (.str ("size" : Str)))) (sIf (mCmp cGt (mCallF fLen (mCons (mVar 4) mNil)) (mC (.int 30))) (sAsg 14 (mC (.str ("rods" : Str)))) sNil))
    (sSeq (sFor (miSeq (mVar 4)) (tgTup 6 (tgCons (tgName 6) (tgCons (tgName 8) (tgCons (tgName 9) (tgCons (tgName 7) (tgCons (tgName 11) (tgCons (tgName 12) tgNil))))))) (sIf (mAnd (mCmp cIs (mVar 14) (mC .non)) (mOr (mCmp cLt (mCallF fMin (mCons (mVar 6) (mCons (mVar 7) mNil))) (mC (.int 0))) (mOr (mCmp cGe (mCallF fMax (mCons (mVar 6) (mCons (mVar 7) mNil))) (mVar 1)) (mOr (mCmp cEq (mVar 6) (mVar 7)) (mCmp cEq (mTup (mCons (mVar 8) (mCons (mVar 9) mNil))) (mTup (mCons (mVar 11) (mCons (mVar 12) mNil)))))))) (sAsg 14 (mC (.str ("rods" : Str)))) sNil))
    (sRet (mTup (mCons (mVar 1) (mCons (mVar 4) (mCons (mVar 14) mNil))))))))))))))
noncomputable def m_ulaw_grid : MF := mFun 12 (sSeq (sAsg 1 (mIx (mLst true (mCons (mBin bAdd (mC (.int 1)) (mCall m_ulaw_pick (mCons (mVar 0) (mCons (mC (.int 5)) mNil)))) (mCons (mC (.int 5)) (mCons (mCall m_ulaw_pick (mCons (mVar 0) (mCons (mC (.int 8)) mNil))) mNil)))) (mCall m_ulaw_pick (mCons (mVar 0) (mCons (mC (.int 3)) mNil)))))
    (sSeq (sAsg 2 (mIx (mLst true (mCons (mBin bAdd (mC (.int 1)) (mCall m_ulaw_pick (mCons (mVar 0) (mCons (mC (.int 5)) mNil)))) (mCons (mC (.int 5)) (mCons (mCall m_ulaw_pick (mCons (mVar 0) (mCons (mC (.int 8)) mNil))) mNil)))) (mCall m_ulaw_pick (mCons (mVar 0) (mCons (mC (.int 3)) mNil)))))
    (sSeq (sAsg 3 (mLst true (mCons (mC (.str ("none" : Str))) (mCons (mC (.str ("bar" : Str))) (mCons (mC (.str ("rise" : Str))) (mCons (mC (.str ("fall" : Str))) (mCons (mC (.str ("both" : Str))) mNil)))))))
    (sSeq (sAsg 4 (mLc false (miRange (mVar 1)) (tgName 9) mYes (mLc true (miRange (mVar 2)) (tgName 8) mYes (mIx (mVar 3) (mCall m_ulaw_pick (mCons (mVar 0) (mCons (mC (.int 5)) mNil)))) [8]) [9]))
    (sSeq (sIf (mAnd (mCmp cGt (mVar 1) (mC (.int 0))) (mCmp cEq (mCall m_ulaw_pick (mCons (mVar 0) (mCons (mC (.int 3)) mNil))) (mC (.int 0)))) (sSeq (sAsg 5 (mCall m_ulaw_pick (mCons (mVar 0) (mCons (mVar 1) mNil))))
    (sIf (mAnd (mCmp cEq (mCall m_ulaw_pick (mCons (mVar 0) (mCons (mC (.int 2)) mNil))) (mC (.int 0))) (mCmp cGt (mVar 2) (mC (.int 0)))) (sSeq (sSub (mVar 4) (mVar 5) (mCallL false fList (mCons (mIx (mVar 4) (mVar 5)) mNil)))
    (sExpr (mMB isLs fPop (mIx (mVar 4) (mVar 5)) mNil))) (sSub (mVar 4) (mVar 5) (mBin bAdd (mIx (mVar 4) (mVar 5)) (mLst true (mCons (mC (.str ("bar" : Str))) mNil)))))) sNil)
    (sSeq (sIf (mAnd (mCmp cGt (mVar 1) (mC (.int 0))) (mCmp cEq (mCall m_ulaw_pick (mCons (mVar 0) (mCons (mC (.int 3)) mNil))) (mC (.int 0)))) (sSeq (sAsg 5 (mCall m_ulaw_pick (mCons (mVar 0) (mCons (mVar 1) mNil))))
    (sSeq (sAsg 6 (mIx (mLst true (mCons (mC (.str ("" : Str))) (mCons (mC (.str ("bars" : Str))) (mCons (mC (.str ("Bar" : Str))) (mCons (mC (.str ("rope" : Str))) (mCons (mC (.str ("rises" : Str))) (mCons (mC (.str ("none " : Str))) mNil))))))) (mCall m_ulaw_pick (mCons (mVar 0) (mCons (mC (.int 6)) mNil)))))
    (sSub (mVar 4) (mVar 5) (mBin bAdd (mLst true (mCons (mVar 6) mNil)) (mSl true (mIx (mVar 4) (mVar 5)) (mPart (mC (.int 1))) mNoPart))))) sNil)
    (sSeq (sAsg 7 (mC .non))
    (sSeq (sIf (mOr (mCmp cLt (mVar 1) (mC (.int 1))) (mOr (mCmp cGt (mVar 1) (mC (.int 5))) (mOr (mCmp cLt (mCallF fLen (mCons (mIx (mVar 4) (mC (.int 0))) mNil)) (mC (.int 1))) (mCmp cGt (mCallF fLen (mCons (mIx (mVar 4) (mC (.int 0))) mNil)) (mC (.int 5)))))) (sAsg 7 (mC (.str ("size" : Str)))) (sIf (mCmp cNe (mLc true (miSeq (mVar 4)) (tgName 10) (mCmp cNe (mCallF fLen (mCons (mVar 10) mNil)) (mCallF fLen (mCons (mIx (mVar 4) (mC (.int 0))) mNil))) (mVar 10) [10]) (mLst true mNil)) (sAsg 7 (mC (.str ("size" : Str)))) (sIf (mCmp cNe (mLc true (miSeq (mVar 4)) (tgName 10) (mCmp cNe (mLc true (miSeq (mVar 10)) (tgName 11) (mCmp cNin (mVar 11) (mVar 3)) (mVar 11) [11]) (mLst true mNil)) (mVar 10) [10]) (mLst true mNil)) (sAsg 7 (mC (.str ("squares" : Str)))) sNil)))
    (sRet (mTup (mCons (mVar 1) (mCons (mVar 4) (mCons (mVar 7) mNil)))))))))))))
noncomputable def m_Edges___init__ : MF := mFun 6 (sSeq (sFldM 25 (mVar 0) (mVar 1))
    (sSeq (sFldM 26 (mVar 0) (mCallF fTuple (mCons (mLc true (miSeq (mVar 2)) (tgName 3) mYes (mCallF fTuple (mCons (mVar 3) mNil)) [3]) mNil)))
    (sSeq (sIf (mNot (mChain cLe cLe (mC (.int 1)) (mVar 1) (mC (.int 12)))) (sRaiseA 9 1 (mC (.str ("size" : Str)))) sNil)
    (sSeq (sIf (mCmp cGt (mCallF fLen (mCons (mFld 26 (mVar 0)) mNil)) (mC (.int 40))) (sRaiseA 9 1 (mC (.str ("pairs" : Str)))) sNil)
    (sIf (mNot (mTru (mCallF fAll (mCons (mLc true (miSeq (mFld 26 (mVar 0))) (tgTup 2 (tgCons (tgName 4) (tgCons (tgName 5) tgNil))) mYes (mV (mChain3 cLe cLt cLt (mC (.int 0)) (mVar 4) (mVar 5) (mVar 1))) [4, 5]) mNil)))) (sRaiseA 9 1 (mC (.str ("pairs" : Str)))) sNil)))))
noncomputable def m_ufits : MF := mFun 4 (sSeq (sPar 2 3 (mCons (mIx (mVar 0) (mC (.int 0))) (mCons (mIx (mVar 0) (mC (.int 3))) mNil)))
    (sRet (mAndV (mV (mChain cLe cLt (mC (.int 0)) (mVar 2) (mVar 1))) (mAndV (mV (mChain cLe cLt (mC (.int 0)) (mVar 3) (mVar 1))) (mAndV (mV (mCmp cNe (mVar 2) (mVar 3))) (mV (mCmp cNe (mSl true (mVar 0) (mPart (mC (.int 1))) (mPart (mC (.int 3)))) (mSl true (mVar 0) (mPart (mC (.int 4))) mNoPart))))))))
noncomputable def m_Bodies___init__ : MF := mFun 4 (sSeq (sFldM 25 (mVar 0) (mVar 1))
    (sSeq (sFldM 5 (mVar 0) (mCallF fTuple (mCons (mLc true (miSeq (mVar 2)) (tgName 3) mYes (mCallF fTuple (mCons (mVar 3) mNil)) [3]) mNil)))
    (sSeq (sIf (mNot (mChain cLe cLe (mC (.int 1)) (mVar 1) (mC (.int 7)))) (sRaiseA 10 1 (mC (.str ("size" : Str)))) sNil)
    (sIf (mOr (mCmp cGt (mCallF fLen (mCons (mFld 5 (mVar 0)) mNil)) (mC (.int 30))) (mNot (mTru (mCallF fAll (mCons (mLc true (miSeq (mFld 5 (mVar 0))) (tgName 3) mYes (mCall m_ufits (mCons (mVar 3) (mCons (mVar 1) mNil))) [3]) mNil))))) (sRaiseA 10 1 (mC (.str ("rods" : Str)))) sNil))))
noncomputable def m_Grid___init__ : MF := mFun 4 (sSeq (sFldM 27 (mVar 0) (mCallF fTuple (mCons (mLc true (miSeq (mVar 1)) (tgName 2) mYes (mCallF fTuple (mCons (mVar 2) mNil)) [2]) mNil)))
    (sSeq (sIf (mOr (mNot (mChain cLe cLe (mC (.int 1)) (mCallF fLen (mCons (mFld 27 (mVar 0)) mNil)) (mC (.int 5)))) (mNot (mChain cLe cLe (mC (.int 1)) (mCallF fLen (mCons (mIx (mFld 27 (mVar 0)) (mC (.int 0))) mNil)) (mC (.int 5))))) (sRaiseA 11 1 (mC (.str ("size" : Str)))) sNil)
    (sSeq (sIf (mNot (mTru (mCallF fAll (mCons (mLc true (miSeq (mFld 27 (mVar 0))) (tgName 2) mYes (mV (mCmp cEq (mCallF fLen (mCons (mVar 2) mNil)) (mCallF fLen (mCons (mIx (mFld 27 (mVar 0)) (mC (.int 0))) mNil)))) [2]) mNil)))) (sRaiseA 11 1 (mC (.str ("size" : Str)))) sNil)
    (sFor (miSeq (mFld 27 (mVar 0))) (tgName 2) (sIf (mNot (mTru (mCallF fAll (mCons (mLc true (miSeq (mVar 2)) (tgName 3) mYes (mV (mCmp cIn (mVar 3) (mC (.tup (gc_WORDS.map Gc.m))))) [3]) mNil)))) (sRaiseA 11 1 (mC (.str ("squares" : Str)))) sNil)))))
noncomputable def m_ulaw_made : MF := mFun 3 (sSeq (sIf (mCmp cEq (mVar 0) (mC (.int 0))) (sRet (mCall (mPure (newC 30 m_Edges___init__)) (mCons (mVar 1) (mCons (mVar 2) mNil)))) sNil)
    (sSeq (sIf (mCmp cEq (mVar 0) (mC (.int 1))) (sRet (mCall (mPure (newC 31 m_Bodies___init__)) (mCons (mVar 1) (mCons (mVar 2) mNil)))) sNil)
    (sRet (mCall (mPure (newC 32 m_Grid___init__)) (mCons (mVar 2) mNil)))))
noncomputable def m_ulaw_names : Nat → List (Nat × MV) → M MV := mFunX 2 (fun c fs => (sSeq (sAsg 1 (mLst false mNil))
    (sSeq (sIf (mTru (mExcI 0 (subX c 1))) (sExpr (mMB isLs fAppend (mVar 1) (mCons (mC (.str ("BadText" : Str))) mNil))) sNil)
    (sSeq (sIf (mTru (mExcI 0 (subX c 2))) (sExpr (mMB isLs fAppend (mVar 1) (mCons (mC (.str ("BadFrame" : Str))) mNil))) sNil)
    (sSeq (sIf (mTru (mExcI 0 (subX c 3))) (sExpr (mMB isLs fAppend (mVar 1) (mCons (mC (.str ("BadPlan" : Str))) mNil))) sNil)
    (sSeq (sIf (mTru (mExcI 0 (subX c 9))) (sExpr (mMB isLs fAppend (mVar 1) (mCons (mC (.str ("BadEdges" : Str))) mNil))) sNil)
    (sSeq (sIf (mTru (mExcI 0 (subX c 10))) (sExpr (mMB isLs fAppend (mVar 1) (mCons (mC (.str ("BadBodies" : Str))) mNil))) sNil)
    (sSeq (sIf (mTru (mExcI 0 (subX c 11))) (sExpr (mMB isLs fAppend (mVar 1) (mCons (mC (.str ("BadGrid" : Str))) mNil))) sNil)
    (sSeq (sIf (mTru (mExcI 0 (subX c 12))) (sExpr (mMB isLs fAppend (mVar 1) (mCons (mC (.str ("BadDrawing" : Str))) mNil))) sNil)
    (sSeq (sIf (mTru (mExcI 0 (subX c 5))) (sExpr (mMB isLs fAppend (mVar 1) (mCons (mC (.str ("BadPaper" : Str))) mNil))) sNil)
    (sSeq (sIf (mTru (mExcI 0 (subX c 6))) (sExpr (mMB isLs fAppend (mVar 1) (mCons (mC (.str ("BadDeed" : Str))) mNil))) sNil)
    (sSeq (sIf (mNot (mTru (mExcI 0 true))) (sExpr (mMB isLs fAppend (mVar 1) (mCons (mC (.str ("not below ValueError" : Str))) mNil))) sNil)
    (sRet (mVar 1))))))))))))))
noncomputable def m_ulaw_told : MF := mFun 4 (sTryN (sRet (mTup (mCons (mC (.str ("made" : Str))) (mCons (mCall m_ulaw_made (mCons (mVar 0) (mCons (mVar 1) (mCons (mVar 2) mNil)))) mNil)))) [(3, 9, fun c fs => (sRet (mTup (mCons (mC (.str ("refused" : Str))) (mCons (mLst true (mCons (mExcF 3 1 fs) (mCons (mCallX 3 (m_ulaw_names c fs)) mNil))) mNil))))), (3, 10, fun c fs => (sRet (mTup (mCons (mC (.str ("refused" : Str))) (mCons (mLst true (mCons (mExcF 3 1 fs) (mCons (mCallX 3 (m_ulaw_names c fs)) mNil))) mNil))))), (3, 11, fun c fs => (sRet (mTup (mCons (mC (.str ("refused" : Str))) (mCons (mLst true (mCons (mExcF 3 1 fs) (mCons (mCallX 3 (m_ulaw_names c fs)) mNil))) mNil))))), (3, 0, fun c fs => (sRet (mTup (mCons (mC (.str ("strange" : Str))) (mCons (mLst true mNil) mNil)))))])
noncomputable def m_ulaw_has : MF := mFun 5 (sSeq (sIf (mCmp cEq (mVar 0) (mC (.int 2))) (sRet (mV (mCmp cEq (mFld 27 (mVar 1)) (mCallF fTuple (mCons (mLc true (miSeq (mVar 3)) (tgName 4) mYes (mCallF fTuple (mCons (mVar 4) mNil)) [4]) mNil))))) sNil)
    (sSeq (sIf (mOr (mTru (mIsi isBl (mFld 25 (mVar 1)))) (mCmp cNe (mFld 25 (mVar 1)) (mVar 2))) (sRet (mC (.bl false))) sNil)
    (sSeq (sIf (mCmp cEq (mVar 0) (mC (.int 0))) (sRet (mV (mCmp cEq (mFld 26 (mVar 1)) (mCallF fTuple (mCons (mVar 3) mNil))))) sNil)
    (sRet (mV (mCmp cEq (mFld 5 (mVar 1)) (mCallF fTuple (mCons (mVar 3) mNil))))))))
noncomputable def m_Edges___eq__ : MF := mFun 2 (sRet (mAndV (mIsi (isOwn 30) (mVar 1)) (mAndV (mV (mCmp cEq (mFld 25 (mVar 0)) (mFld 25 (mVar 1)))) (mV (mCmp cEq (mFld 26 (mVar 0)) (mFld 26 (mVar 1)))))))
noncomputable def m_Bodies___eq__ : MF := mFun 2 (sRet (mAndV (mIsi (isOwn 31) (mVar 1)) (mAndV (mV (mCmp cEq (mFld 25 (mVar 0)) (mFld 25 (mVar 1)))) (mV (mCmp cEq (mFld 5 (mVar 0)) (mFld 5 (mVar 1)))))))
noncomputable def m_Grid___eq__ : MF := mFun 2 (sRet (mAndV (mIsi (isOwn 32) (mVar 1)) (mV (mCmp cEq (mFld 27 (mVar 0)) (mFld 27 (mVar 1))))))
noncomputable def m_ulaw_right : MF := mFun 12 (sSeq (sIf (mCmp cEq (mVar 0) (mC (.int 0))) (sTg (tgTup 3 (tgCons (tgName 2) (tgCons (tgName 3) (tgCons (tgName 4) tgNil)))) (mCall m_ulaw_edges (mCons (mVar 1) mNil))) (sIf (mCmp cEq (mVar 0) (mC (.int 1))) (sTg (tgTup 3 (tgCons (tgName 2) (tgCons (tgName 3) (tgCons (tgName 4) tgNil)))) (mCall m_ulaw_bodies (mCons (mVar 1) mNil))) (sTg (tgTup 3 (tgCons (tgName 2) (tgCons (tgName 3) (tgCons (tgName 4) tgNil)))) (mCall m_ulaw_grid (mCons (mVar 1) mNil)))))
    (sSeq (sAsg 5 (mCallL false fList (mCons (mVar 3) mNil)))
    (sSeq (sIf (mCmp cEq (mVar 0) (mC (.int 2))) (sAsg 5 (mLc false (miSeq (mVar 3)) (tgName 10) mYes (mCallL false fList (mCons (mVar 10) mNil)) [10])) sNil)
    (sSeq (sTg (tgTup 2 (tgCons (tgName 6) (tgCons (tgName 7) tgNil))) (mCall m_ulaw_told (mCons (mVar 0) (mCons (mVar 2) (mCons (mVar 5) mNil)))))
    (sSeq (sIf (mCmp cNot (mVar 4) (mC .non)) (sRet (mAndV (mV (mCmp cEq (mVar 6) (mC (.str ("refused" : Str))))) (mV (mCmp cEq (mVar 7) (mLst true (mCons (mVar 4) (mCons (mLst true (mCons (mIx (mLst true (mCons (mC (.str ("BadEdges" : Str))) (mCons (mC (.str ("BadBodies" : Str))) (mCons (mC (.str ("BadGrid" : Str))) mNil)))) (mVar 0)) mNil)) mNil))))))) sNil)
    (sSeq (sIf (mOr (mCmp cNe (mVar 6) (mC (.str ("made" : Str)))) (mNot (mTru (mCall m_ulaw_has (mCons (mVar 0) (mCons (mVar 7) (mCons (mVar 2) (mCons (mVar 3) mNil)))))))) (sRet (mC (.bl false))) sNil)
    (sSeq (sIf (mCmp cEq (mVar 0) (mC (.int 2))) (sSub (mIx (mVar 5) (mC (.int 0))) (mC (.int 0)) (mC (.str ("none" : Str)))) sNil)
    (sSeq (sExpr (mMB isLs fAppend (mVar 5) (mCons (mTup (mCons (mC (.int 0)) (mCons (mC (.int 1)) mNil))) mNil)))
    (sSeq (sAsg 8 (mCall m_ulaw_made (mCons (mVar 0) (mCons (mVar 2) (mCons (mCallF fTuple (mCons (mLc true (miSeq (mVar 3)) (tgName 11) mYes (mCallF fTuple (mCons (mVar 11) mNil)) [11]) mNil)) mNil)))))
    (sSeq (sIf (mOr (mNot (mTru (mCall m_ulaw_has (mCons (mVar 0) (mCons (mVar 7) (mCons (mVar 2) (mCons (mVar 3) mNil))))))) (mNot (mCmpM (ownM [(30, m_Edges___eq__), (31, m_Bodies___eq__), (32, m_Grid___eq__)] (cmpB cEq)) (mVar 7) (mVar 8)))) (sRet (mC (.bl false))) sNil)
    (sSeq (sIf (mAnd (mCmp cLt (mVar 0) (mC (.int 2))) (mCmp cLt (mVar 2) (mC (.int 7)))) (sIf (mOr (mCmpM (ownM [(30, m_Edges___eq__), (31, m_Bodies___eq__), (32, m_Grid___eq__)] (cmpB cEq)) (mVar 7) (mCall m_ulaw_made (mCons (mVar 0) (mCons (mBin bAdd (mVar 2) (mC (.int 1))) (mCons (mCallL true fList (mCons (mVar 3) mNil)) mNil))))) (mAnd (mCmp cNe (mVar 3) (mLst true mNil)) (mCmpM (ownM [(30, m_Edges___eq__), (31, m_Bodies___eq__), (32, m_Grid___eq__)] (cmpB cEq)) (mVar 7) (mCall m_ulaw_made (mCons (mVar 0) (mCons (mVar 2) (mCons (mSl true (mCallL true fList (mCons (mVar 3) mNil)) (mPart (mC (.int 1))) mNoPart) mNil))))))) (sRet (mC (.bl false))) sNil) sNil)
    (sSeq (sIf (mCmp cEq (mVar 0) (mC (.int 2))) (sSeq (sAsg 9 (mLc false (miSeq (mVar 3)) (tgName 10) mYes (mCallL false fList (mCons (mVar 10) mNil)) [10]))
    (sSeq (sSub (mIx (mVar 9) (mUn uNeg (mC (.int 1)))) (mUn uNeg (mC (.int 1))) (mIx (mLst true (mCons (mC (.str ("both" : Str))) (mCons (mC (.str ("none" : Str))) mNil))) (mCallF fInt (mCons (mV (mCmp cEq (mIx (mIx (mVar 9) (mUn uNeg (mC (.int 1)))) (mUn uNeg (mC (.int 1)))) (mC (.str ("both" : Str))))) mNil))))
    (sIf (mCmpM (ownM [(30, m_Edges___eq__), (31, m_Bodies___eq__), (32, m_Grid___eq__)] (cmpB cEq)) (mVar 7) (mCall (mPure (newC 32 m_Grid___init__)) (mCons (mVar 9) mNil))) (sRet (mC (.bl false))) sNil))) sNil)
    (sRet (mC (.bl true)))))))))))))))
noncomputable def m_law : MF := mFun 3 (sSeq (sFor (miRange (mBin bAdd (mCallF fMin (mCons (mCallF fLen (mCons (mVar 0) mNil)) (mCons (mC (.int 57)) mNil))) (mC (.int 6)))) (tgName 1) (sSeq (sAsg 2 (mCall m_ulaw_source (mCons (mCall m_ulaw_cell (mCons (mVar 0) (mCons (mVar 1) mNil))) (mCons (mVar 1) mNil))))
    (sIf (mNot (mTru (mCall m_ulaw_right (mCons (mBin bMod (mCallF fInt (mCons (mVar 1) mNil)) (mC (.int 3))) (mCons (mVar 2) mNil))))) (sRet (mC (.bl false))) sNil)))
    (sRet (mC (.bl true))))
end K43

namespace K43
open PySem L2 Z
/-! ### the source -/
/-- cell r is a source -/
def Src (st : Sto) (r : Nat) : Prop := ∃ a b : Int, st[r]? = some (.lst [.int a, .int b]) ∧ 0 ≤ a ∧ 0 ≤ b ∧ nb b ≤ 40
section
variable {st : Sto} {r : Nat} {x y v : MV}
theorem i0 (h : st[r]? = some (.lst [x, y])) : ixF st (.ref r) (.int 0) = some x := by
  show (match seqOf st (.ref r) with | some xs => atI xs 0 | none => none) = _
  simp only [seqOf, h]
  exact atI_n [x, y] 0
theorem i1 (h : st[r]? = some (.lst [x, y])) : ixF st (.ref r) (.int 1) = some y := by
  show (match seqOf st (.ref r) with | some xs => atI xs 1 | none => none) = _
  simp only [seqOf, h]
  exact atI_n [x, y] 1
theorem s0 (h : st[r]? = some (.lst [x, y])) : setL (.ref r) (.int 0) v st = some (st.set r (.lst [v, y])) := by
  simp [setL, h, ixN]
theorem s1 (h : st[r]? = some (.lst [x, y])) : setL (.ref r) (.int 1) v st = some (st.set r (.lst [x, v])) := by
  simp [setL, h, ixN]
theorem set_at {c c' : Cell} (h : st[r]? = some c) : (st.set r c')[r]? = some c' := by
  have hl := (List.getElem?_eq_some_iff.mp h).1
  rw [List.getElem?_set_self hl]
end
theorem pick_ok {st : Sto} {r : Nat} (many : Int) (h : Src st r) (hm : 0 < many) (hs : nb many ≤ 200) : ∃ v st', m_ulaw_pick [.ref r, .int many] st = .ok (.int v) st' ∧ 0 ≤ v ∧ v < many ∧ Src st' r ∧ Fr r st st' := by
  obtain ⟨a, b, e, ha, hb, hb2⟩ := h
  have ms : ∀ x : Int, 0 ≤ x % many ∧ x % many < many := fun x => ⟨Int.emod_nonneg _ (by omega), Int.emod_lt_of_pos _ hm⟩
  have M2 : ∀ (s : Sto) (x : Int), bMod s (.int x) (.int many) = some (.int (x % many)) := fun s x => bMod_i hm
  have D : ∀ (s : Sto) (x : Int), bDiv s (.int x) (.int many) = some (.int (x / many)) := fun s x => divS hm hs (by omega)
  unfold m_ulaw_pick
  rw [mFun_run]
  by_cases h1 : 1 < a
  · refine ⟨a % many, st.set r (.lst [.int (a / many), .int b]), ?_, (ms a).1, (ms a).2, ⟨a / many, b, set_at e, Int.ediv_nonneg ha (by omega), hb, hb2⟩, .set⟩
    simp [i0 e, h1, M2, D, s0 e]
  · have k2 : nb (48271 : Int) ≤ 20 := by decide
    have k3 : nb (69621 : Int) ≤ 20 := by decide
    have k4 : nb (127 : Int) ≤ 20 := by decide
    have k5 : nb (16 : Int) ≤ 20 := by decide
    have x1 : ∀ s : Sto, bMul s (.int b) (.int 48271) = some (.int (b * 48271)) := fun s => mulS hb2 k2 (by omega)
    have m1 : ∀ (s : Sto) (x : Int), bMod s (.int x) (.int 2147483647) = some (.int (x % 2147483647)) := fun s x => bMod_i (by omega)
    have m2 : ∀ (s : Sto) (x : Int), bMod s (.int x) (.int 2147483629) = some (.int (x % 2147483629)) := fun s x => bMod_i (by omega)
    have d1 : ∀ (s : Sto) (x : Int), bDiv s (.int x) (.int 127) = some (.int (x / 127)) := fun s x => divS (by omega) k4 (by omega)
    have d2 : ∀ (s : Sto) (x : Int), bDiv s (.int x) (.int 16) = some (.int (x / 16)) := fun s x => divS (by omega) k5 (by omega)
    generalize hb1 : (b * 48271 + 12345) % 2147483647 = b1
    have q0 : 0 ≤ b1 := by rw [← hb1]; exact Int.emod_nonneg _ (by omega)
    have q1 : b1 < 2147483647 := by rw [← hb1]; exact Int.emod_lt_of_pos _ (by omega)
    have q2 : nb b1 ≤ 40 := nb_mono (nb_lt (m := 31) (by omega)) (by omega)
    have x2 : ∀ s : Sto, bMul s (.int b1) (.int 69621) = some (.int (b1 * 69621)) := fun s => mulS q2 k3 (by omega)
    have e2 : (st.set r (.lst [.int a, .int b1]))[r]? = some (.lst [.int a, .int b1]) := set_at e
    refine ⟨(b1 * 69621 + b1 / 127 + 7) % 2147483629 / 16 % many, st.set r (.lst [.int a, .int b1]), ?_, (ms _).1, (ms _).2, ⟨a, b1, e2, ha, q0, q2⟩, .set⟩
    simp [i0 e, h1, i1 e, x1, m1, hb1, s1 e, i1 e2, x2, d1, m2, d2, M2]
theorem source_ok {st : Sto} {cell k : Int} (hc : nb cell ≤ 1048576) (h0 : 0 ≤ k) (h1 : k < 100) : ∃ st', m_ulaw_source [.int cell, .int k] st = .ok (.ref st.length) st' ∧ Src st' st.length := by
  have pw18 : ∀ {s : Sto}, bPow s (.int 10) (.int 18) = some (.int 1000000000000000000) := by intro s; simp [bPow]
  unfold m_ulaw_source
  rw [mFun_run]
  by_cases h : 1000000000000000000 ≤ cell
  · refine ⟨st ++ [.lst [.int (cell - 1000000000000000000), .int (k + 1)]], ?_, ⟨cell - 1000000000000000000, k + 1, by simp, by omega, by omega, nb_mono (nb_lt (m := 31) (by omega)) (by omega)⟩⟩
    simp [pw18, h, line]
  · have k2 : nb (7919 : Int) ≤ 20 := by decide
    have k3 : nb (104729 : Int) ≤ 20 := by decide
    have hk : nb k ≤ 31 := nb_lt (by omega)
    have x1 : ∀ s : Sto, bMul s (.int cell) (.int 7919) = some (.int (cell * 7919)) := fun s => mulS hc k2 (by omega)
    have x2 : ∀ s : Sto, bMul s (.int k) (.int 104729) = some (.int (k * 104729)) := fun s => mulS hk k3 (by omega)
    have m1 : ∀ (s : Sto) (x : Int), bMod s (.int x) (.int 2147483647) = some (.int (x % 2147483647)) := fun s x => bMod_i (by omega)
    generalize hb1 : (cell * 7919 + k * 104729 + 1) % 2147483647 = b1
    have q0 : 0 ≤ b1 := by rw [← hb1]; exact Int.emod_nonneg _ (by omega)
    have q1 : b1 < 2147483647 := by rw [← hb1]; exact Int.emod_lt_of_pos _ (by omega)
    refine ⟨st ++ [.lst [.int 0, .int b1]], ?_, ⟨0, b1, by simp, by omega, q0, nb_mono (nb_lt (m := 31) (by omega)) (by omega)⟩⟩
    simp [pw18, h, x1, x2, m1, hb1, line]
theorem size_ok {st : Sto} {r : Nat} {most : Int} (h : Src st r) (hm : 0 < most) (hm2 : most < 100) : ∃ v st', m_ulaw_size [.ref r, .int most] st = .ok (.int v) st' ∧ -200 ≤ v ∧ v ≤ 1000000000000000000000 ∧ Src st' r ∧ Fr r st st' := by
  have pw20 : ∀ {s : Sto}, bPow s (.int 10) (.int 20) = some (.int 100000000000000000000) := by intro s; simp [bPow]
  obtain ⟨v1, t1, e1, a1, b1, S1, F1⟩ := pick_ok most h hm (nb_mono (nb_lt (m := 31) (by omega)) (by omega))
  obtain ⟨v2, t2, e2, a2, b2, S2, F2⟩ := pick_ok 99 S1 (by omega) (by decide)
  obtain ⟨v3, t3, e3, a3, b3, S3, F3⟩ := pick_ok 100000000000000000000 S2 (by omega) (by decide)
  obtain ⟨v4, t4, e4, a4, b4, S4, F4⟩ := pick_ok 2 S3 (by omega) (by decide)
  obtain ⟨v5, t5, e5, a5, b5, S5, F5⟩ := pick_ok 7 S4 (by omega) (by decide)
  have F := ((F1.trans F2).trans F3).trans F4
  unfold m_ulaw_size
  rw [mFun_run]
  by_cases h4 : v4 = 0
  · subst h4
    have c : v5 = 0 ∨ v5 = 1 ∨ v5 = 2 ∨ v5 = 3 ∨ v5 = 4 ∨ v5 = 5 ∨ v5 = 6 := by omega
    have L : ∀ (s : Sto) (xs : List MV) (n : Nat), ixF s (.lst xs) (.int (n : Int)) = xs[n]? := fun s xs n => atI_n xs n
    rcases c with rfl | rfl | rfl | rfl | rfl | rfl | rfl
    · exact ⟨1 + v1, t5, by have := L t5; simp [e1, e2, e3, e4, e5, pw20, line], by omega, by omega, S5, F.trans F5⟩
    · exact ⟨most, t5, by have := L t5; simp [e1, e2, e3, e4, e5, pw20, line], by omega, by omega, S5, F.trans F5⟩
    · exact ⟨1, t5, by have := fun xs => L t5 xs 2; simp at this; simp [e1, e2, e3, e4, e5, pw20, line, this], by omega, by omega, S5, F.trans F5⟩
    · exact ⟨most + 1, t5, by have := fun xs => L t5 xs 3; simp at this; simp [e1, e2, e3, e4, e5, pw20, line, this], by omega, by omega, S5, F.trans F5⟩
    · exact ⟨0, t5, by have := fun xs => L t5 xs 4; simp at this; simp [e1, e2, e3, e4, e5, pw20, line, this], by omega, by omega, S5, F.trans F5⟩
    · exact ⟨0 - 1 - v2, t5, by have := fun xs => L t5 xs 5; simp at this; simp [e1, e2, e3, e4, e5, pw20, line, this], by omega, by omega, S5, F.trans F5⟩
    · exact ⟨most + v3, t5, by have := fun xs => L t5 xs 6; simp at this; simp [e1, e2, e3, e4, e5, pw20, line, this], by omega, by omega, S5, F.trans F5⟩
  · exact ⟨1 + v1, t4, by simp [e1, e2, e3, e4, h4, pw20, line], by omega, by omega, S4, F⟩
/-! ### edges -/
def prM (p : Int × Int) : MV := .tup [.int p.1, .int p.2]
noncomputable def edBody : MS := (sSeq (sAsg 5 (mCall m_ulaw_pick (mCons (mVar 0) (mCons (mVar 2) mNil))))
    (sSeq (sAsg 6 (mBin bMod (mCallF fInt (mCons (mBin bAdd (mBin bAdd (mVar 5) (mC (.int 1))) (mCall m_ulaw_pick (mCons (mVar 0) (mCons (mBin bSub (mVar 2) (mC (.int 1))) mNil)))) mNil)) (mVar 2)))
    (sExpr (mMB isLs fAppend (mVar 3) (mCons (mTup (mCons (mCallF fMin (mCons (mVar 5) (mCons (mVar 6) mNil))) (mCons (mCallF fMax (mCons (mVar 5) (mCons (mVar 6) mNil))) mNil))) mNil)))))
theorem edBody_ok {st : Sto} {r q : Nat} {size span : Int} {ps : List (Int × Int)} {e4 e5 e6 e7 e8 e9 e10 : Option MV} (h : Src st r) (hq : st[q]? = some (.lst (ps.map prM))) (hqr : q ≠ r) (h2 : 2 ≤ span) (h3 : span < 1000) (hl : ps.length < 1000) :
    ∃ st' p e5' e6', edBody [some (.ref r), some (.int size), some (.int span), some (.ref q), e4, e5, e6, e7, e8, e9, e10] st = .nx [some (.ref r), some (.int size), some (.int span), some (.ref q), e4, e5', e6', e7, e8, e9, e10] st' ∧ Src st' r ∧ st'[q]? = some (.lst ((ps ++ [p]).map prM)) := by
  obtain ⟨v1, t1, e1, a1, b1, S1, F1⟩ := pick_ok span h (by omega) (nb_mono (nb_lt (m := 31) (by omega)) (by omega))
  obtain ⟨v2, t2, e2, a2, b2, S2, F2⟩ := pick_ok (span - 1) S1 (by omega) (nb_mono (nb_lt (m := 31) (by omega)) (by omega))
  have hq2 : t2[q]? = some (.lst (ps.map prM)) := by rw [(F1.trans F2).same q hqr]; exact hq
  have M : ∀ (s : Sto) (x : Int), bMod s (.int x) (.int span) = some (.int (x % span)) := fun s x => bMod_i (by omega)
  generalize hw : (v1 + 1 + v2) % span = w
  refine ⟨t2.set q (.lst ((ps ++ [(if w < v1 then w else v1, if w > v1 then w else v1)]).map prM)), (if w < v1 then w else v1, if w > v1 then w else v1), some (.int v1), some (.int w), ?_, ?_, set_at hq2⟩
  · unfold edBody
    have hll : ps.length < line := Nat.lt_of_lt_of_le hl (by decide)
    have hl3 : (ps.map prM).length < line := by simpa using hll
    simp [e1, e2, M, hw, isLs_r hq2, fAppend_r _ hq2 hl3, prM, line]
  · obtain ⟨a, b, z, y⟩ := S2
    exact ⟨a, b, by rw [List.getElem?_set_ne hqr]; exact z, y⟩
theorem edLoop {r q : Nat} {size span : Int} {e7 e8 e9 e10 : Option MV} (hqr : q ≠ r) (h2 : 2 ≤ span) (h3 : span < 1000) : ∀ (xs : List MV) (st : Sto) (ps : List (Int × Int)) (e4 e5 e6 : Option MV), Src st r → st[q]? = some (.lst (ps.map prM)) → ps.length + xs.length < 1000 →
    ∃ (st' : Sto) (ps' : List (Int × Int)) (e4' e5' e6' : Option MV), forL (tgName 4) edBody (fun _ => True) xs [some (.ref r), some (.int size), some (.int span), some (.ref q), e4, e5, e6, e7, e8, e9, e10] st = .nx [some (.ref r), some (.int size), some (.int span), some (.ref q), e4', e5', e6', e7, e8, e9, e10] st' ∧ Src st' r ∧ st'[q]? = some (.lst (ps'.map prM)) ∧ ps'.length = ps.length + xs.length
  | [], st, ps, e4, e5, e6, h, hq, _ => ⟨st, ps, e4, e5, e6, for_T_nil _ _, h, hq, by simp⟩
  | x :: xs, st, ps, e4, e5, e6, h, hq, hl => by
    simp only [List.length_cons] at hl
    obtain ⟨t, p, e5', e6', eb, S, hq2⟩ := edBody_ok (size := size) (e4 := some x) (e5 := e5) (e6 := e6) (e7 := e7) (e8 := e8) (e9 := e9) (e10 := e10) h hq hqr h2 h3 (by omega)
    obtain ⟨st', ps', e4', e5'', e6'', el, S', hq3, hl3⟩ := edLoop (size := size) (e7 := e7) (e8 := e8) (e9 := e9) (e10 := e10) hqr h2 h3 xs t (ps ++ [p]) (some x) e5' e6' S hq2 (by simp; omega)
    refine ⟨st', ps', e4', e5'', e6'', ?_, S', hq3, by rw [hl3]; simp; omega⟩
    rw [for_T_cons]
    simp only [tgName_run, List.set_cons_succ, List.set_cons_zero, eb, el]
/-- what is due -/
def edBad (size : Int) (p : Int × Int) : Bool := !(decide (0 ≤ p.1) && (decide (p.1 < p.2) && decide (p.2 < size)))
def edDue (size : Int) (ps : List (Int × Int)) : MV := if size < 1 ∨ 12 < size then .str ("size" : Str) else if 40 < ps.length ∨ ps.filter (edBad size) ≠ [] then .str ("pairs" : Str) else .non
theorem flat_pr (p : Int × Int) : Flat (prM p) := fun t n => by simp [prM, frzM]
theorem L_ix (s : Sto) (xs : List MV) (n : Nat) : ixF s (.lst xs) (.int (n : Int)) = xs[n]? := atI_n xs n
@[simp] theorem ix_l2 (s : Sto) (x y z : MV) (xs : List MV) : ixF s (.lst (x :: y :: z :: xs)) (.int 2) = some z := L_ix s _ 2
@[simp] theorem ix_l3 (s : Sto) (x y z w : MV) (xs : List MV) : ixF s (.lst (x :: y :: z :: w :: xs)) (.int 3) = some w := L_ix s _ 3
@[simp] theorem ix_l4 (s : Sto) (x y z w u : MV) (xs : List MV) : ixF s (.lst (x :: y :: z :: w :: u :: xs)) (.int 4) = some u := L_ix s _ 4
@[simp] theorem ix_l5 (s : Sto) (x y z w u v : MV) (xs : List MV) : ixF s (.lst (x :: y :: z :: w :: u :: v :: xs)) (.int 5) = some v := L_ix s _ 5
/-- the first half: size, span, the pairs, before one is spoilt -/
theorem ed1 {st : Sto} {r : Nat} (h : Src st r) : ∃ (size span : Int) (n : Int) (st1 st2 : Sto), m_ulaw_size [.ref r, .int 12] st = .ok (.int size) st1 ∧ -200 ≤ size ∧ size ≤ 1000000000000000000000 ∧ Src st1 r ∧ st1.length = st.length ∧ span = (if (if (14 : Int) < size then 14 else size) > 2 then (if (14 : Int) < size then 14 else size) else 2) ∧ 2 ≤ span ∧ span < 1000 ∧ 0 ≤ n ∧ n < 45 ∧
    (mIx (mLst true (mCons (mCall m_ulaw_pick (mCons (mVar 0) (mCons (mC (.int 12)) mNil))) (mCons (mCall m_ulaw_pick (mCons (mVar 0) (mCons (mC (.int 45)) mNil))) (mCons (mC (.int 40)) (mCons (mC (.int 41)) mNil))))) (mCall m_ulaw_pick (mCons (mVar 0) (mCons (mC (.int 4)) mNil)))) [some (.ref r), some (.int size), some (.int span), some (.ref st1.length), none, none, none, none, none, none, none] (st1 ++ [.lst []]) = .ok (.int n) st2 ∧ Src st2 r ∧ st2[st1.length]? = some (.lst []) ∧ r < st1.length := by
  obtain ⟨size, st1, e0, a0, b0, S0, F0⟩ := size_ok (most := 12) h (by omega) (by omega)
  have hr : r < st1.length := by
    obtain ⟨a, b, z, _⟩ := S0
    exact (List.getElem?_eq_some_iff.mp z).1
  have S0' : Src (st1 ++ [.lst []]) r := by
    obtain ⟨a, b, z, y⟩ := S0
    exact ⟨a, b, by rw [List.getElem?_append_left hr]; exact z, y⟩
  obtain ⟨v1, t1, e1, a1, b1, S1, F1⟩ := pick_ok 12 S0' (by omega) (by decide)
  obtain ⟨v2, t2, e2, a2, b2, S2, F2⟩ := pick_ok 45 S1 (by omega) (by decide)
  obtain ⟨v3, t3, e3, a3, b3, S3, F3⟩ := pick_ok 4 S2 (by omega) (by decide)
  have hq : t3[st1.length]? = some (.lst []) := by
    rw [((F1.trans F2).trans F3).same _ (Nat.ne_of_gt hr)]
    simp
  have c : v3 = 0 ∨ v3 = 1 ∨ v3 = 2 ∨ v3 = 3 := by omega
  have hs : 2 ≤ (if (if (14 : Int) < size then 14 else size) > 2 then (if (14 : Int) < size then 14 else size) else 2) ∧ (if (if (14 : Int) < size then 14 else size) > 2 then (if (14 : Int) < size then 14 else size) else 2) < (1000 : Int) := by
    constructor <;> (repeat' split) <;> omega
  rcases c with rfl | rfl | rfl | rfl
  · exact ⟨size, _, v1, st1, t3, e0, a0, b0, S0, F0.len, rfl, hs.1, hs.2, a1, by omega, by simp [e1, e2, e3, line], S3, hq, hr⟩
  · exact ⟨size, _, v2, st1, t3, e0, a0, b0, S0, F0.len, rfl, hs.1, hs.2, a2, by omega, by simp [e1, e2, e3, line], S3, hq, hr⟩
  · exact ⟨size, _, 40, st1, t3, e0, a0, b0, S0, F0.len, rfl, hs.1, hs.2, by omega, by omega, by simp [e1, e2, e3, line], S3, hq, hr⟩
  · exact ⟨size, _, 41, st1, t3, e0, a0, b0, S0, F0.len, rfl, hs.1, hs.2, by omega, by omega, by simp [e1, e2, e3, line], S3, hq, hr⟩
theorem enc_pr : Enc prM (fun p => .tuple [.int p.1, .int p.2]) (fun _ => True) 2 where
  py s k a h := by
    obtain ⟨k, rfl⟩ : ∃ j, k = j + 2 := ⟨k - 2, by omega⟩
    simp [prM, toPy]
  lay a _ := rfl
  dep a := by simp [PyData.depth, PyData.depthAll]
  eq a b := by
    obtain ⟨a1, a2⟩ := a
    obtain ⟨b1, b2⟩ := b
    simp [PyData.eqv, PyData.eqvAll]
theorem ne_nil {α : Type} {f : α → MV} {g : α → PyData} {ok : α → Prop} {n : Nat} (E : Enc f g ok n) (hn : n < 30) {s : Sto} {x : MV} {xs : List α} (h : toPy s 30 x = some (.list (xs.map g))) (hok : ∀ y ∈ xs, ok y) : deepEq s x (.lst []) = some xs.isEmpty := by
  have e := E.lst.deep (y := .lst []) (by omega) (a := xs) (b := []) h rfl hok (fun _ z => nomatch z)
  rw [e]
  cases xs with
  | nil => simp
  | cons y ys => simp
theorem ne_ref {α : Type} {f : α → MV} {g : α → PyData} {ok : α → Prop} {n : Nat} (E : Enc f g ok n) (hn : n < 30) {s : Sto} {q : Nat} {xs : List α} (h : s[q]? = some (.lst (xs.map f))) (hok : ∀ y ∈ xs, ok y) : cNe s (.ref q) (.lst []) = some (!xs.isEmpty) := by
  show (deepEq s (.ref q) (.lst [])).map _ = _
  rw [ne_nil E hn (E.ref h (by omega)) hok]; rfl
theorem ne_lst {α : Type} {f : α → MV} {g : α → PyData} {ok : α → Prop} {n : Nat} (E : Enc f g ok n) (hn : n < 30) {s : Sto} {xs : List α} (hok : ∀ y ∈ xs, ok y) : cNe s (.lst (xs.map f)) (.lst []) = some (!xs.isEmpty) := by
  show (deepEq s (.lst (xs.map f)) (.lst [])).map _ = _
  rw [ne_nil E hn (E.lst.py s 30 xs (by omega)) hok]; rfl
theorem ixN_ok {n : Nat} {i : Int} (h0 : 0 ≤ i) (h : i < n) : ixN n i = some i.toNat := by
  unfold ixN
  repeat' split
  all_goals first | rfl | (exfalso; omega) | (congr 1; omega)
theorem fLen_ref {s : Sto} {q : Nat} {xs : List MV} (h : s[q]? = some (.lst xs)) : fLen s [.ref q] = some (.int xs.length) := by
  simp [fLen, seqOf, h]
theorem ix_ref {s : Sto} {q : Nat} {xs : List MV} {i : Int} (h : s[q]? = some (.lst xs)) (h0 : 0 ≤ i) : ixF s (.ref q) (.int i) = xs[i.toNat]? := by
  show (match seqOf s (.ref q) with | some xs => atI xs i | none => none) = _
  simp only [seqOf, h]
  have e : i = ((i.toNat : Nat) : Int) := by omega
  have e2 := atI_n xs i.toNat
  rw [← e] at e2
  exact e2
theorem set_ref {s : Sto} {q : Nat} {xs : List MV} {i : Int} {v : MV} (h : s[q]? = some (.lst xs)) (h0 : 0 ≤ i) (h1 : i < xs.length) : setL (.ref q) (.int i) v s = some (s.set q (.lst (xs.set i.toNat v))) := by
  simp only [setL, h, ixN_ok h0 h1]
noncomputable def edSpoil : MS := (sIf (mAnd (mCmp cNe (mVar 3) (mLst true mNil)) (mCmp cEq (mCall m_ulaw_pick (mCons (mVar 0) (mCons (mC (.int 3)) mNil))) (mC (.int 0)))) (sSeq (sAsg 7 (mCall m_ulaw_pick (mCons (mVar 0) (mCons (mCallF fLen (mCons (mVar 3) mNil)) mNil))))
    (sSeq (sTg (tgTup 2 (tgCons (tgName 5) (tgCons (tgName 6) tgNil))) (mIx (mVar 3) (mVar 7)))
    (sSeq (sAsg 8 (mLst true (mCons (mTup (mCons (mVar 6) (mCons (mVar 5) mNil))) (mCons (mTup (mCons (mVar 5) (mCons (mVar 5) mNil))) (mCons (mTup (mCons (mVar 5) (mCons (mVar 2) mNil))) (mCons (mTup (mCons (mBin bSub (mC (.int 0)) (mC (.int 1))) (mCons (mVar 6) mNil))) (mCons (mTup (mCons (mVar 6) (mCons (mVar 6) mNil))) (mCons (mTup (mCons (mVar 5) (mCons (mBin bAdd (mVar 2) (mCall m_ulaw_pick (mCons (mVar 0) (mCons (mBin bPow (mC (.int 10)) (mC (.int 9))) mNil)))) mNil))) mNil))))))))
    (sSub (mVar 3) (mVar 7) (mIx (mVar 8) (mCall m_ulaw_pick (mCons (mVar 0) (mCons (mC (.int 6)) mNil)))))))) sNil)
theorem edSpoil_ok {st : Sto} {r q : Nat} {size span : Int} {ps : List (Int × Int)} {e4 e5 e6 : Option MV} (h : Src st r) (hq : st[q]? = some (.lst (ps.map prM))) (hqr : q ≠ r) (hl : ps.length < 1000) :
    ∃ (st' : Sto) (ps' : List (Int × Int)) (e5' e6' e7' e8' : Option MV), edSpoil [some (.ref r), some (.int size), some (.int span), some (.ref q), e4, e5, e6, none, none, none, none] st = .nx [some (.ref r), some (.int size), some (.int span), some (.ref q), e4, e5', e6', e7', e8', none, none] st' ∧ Src st' r ∧ st'[q]? = some (.lst (ps'.map prM)) ∧ ps'.length = ps.length := by
  have n0 := ne_ref enc_pr (by omega) hq fun _ _ => trivial
  unfold edSpoil
  cases he : ps with
  | nil =>
    subst he
    refine ⟨st, [], e5, e6, none, none, ?_, h, hq, rfl⟩
    simp only [List.isEmpty_nil, Bool.not_true] at n0
    simp [n0]
  | cons p0 pr =>
    rw [← he]
    have n1 : cNe st (.ref q) (.lst []) = some true := by rw [n0, he]; rfl
    have hpos : 0 < ps.length := by rw [he]; simp
    obtain ⟨v1, t1, e1, a1, b1, S1, F1⟩ := pick_ok 3 h (by omega) (by decide)
    by_cases hv : v1 = 0
    · subst hv
      have hq1 : t1[q]? = some (.lst (ps.map prM)) := by rw [F1.same q hqr]; exact hq
      have hlen := fLen_ref hq1
      rw [List.length_map] at hlen
      obtain ⟨at_, t2, e2, a2, b2, S2, F2⟩ := pick_ok (ps.length : Int) S1 (by omega) (nb_mono (nb_lt (m := 31) (by omega)) (by omega))
      have hq2 : t2[q]? = some (.lst (ps.map prM)) := by rw [F2.same q hqr]; exact hq1
      obtain ⟨p, hp⟩ : ∃ p, ps[at_.toNat]? = some p := ⟨ps[at_.toNat]'(by omega), List.getElem?_eq_getElem _⟩
      obtain ⟨one, other⟩ := p
      have hix : ixF t2 (.ref q) (.int at_) = some (.tup [.int one, .int other]) := by
        rw [ix_ref hq2 a2, List.getElem?_map, hp]; rfl
      have pw9 : ∀ {s : Sto}, bPow s (.int 10) (.int 9) = some (.int 1000000000) := by intro s; simp [bPow]
      obtain ⟨v3, t3, e3, a3, b3, S3, F3⟩ := pick_ok 1000000000 S2 (by omega) (by decide)
      obtain ⟨v4, t4, e4', a4, b4, S4, F4⟩ := pick_ok 6 S3 (by omega) (by decide)
      have hq4 : t4[q]? = some (.lst (ps.map prM)) := by rw [F4.same q hqr, F3.same q hqr]; exact hq2
      have fin : ∀ w : Int × Int, Src (t4.set q (.lst ((ps.map prM).set at_.toNat (prM w)))) r ∧ (t4.set q (.lst ((ps.map prM).set at_.toNat (prM w))))[q]? = some (.lst ((ps.set at_.toNat w).map prM)) ∧ (ps.set at_.toNat w).length = ps.length := fun w => by
        refine ⟨?_, ?_, List.length_set⟩
        · obtain ⟨a, b, z, y⟩ := S4
          exact ⟨a, b, by rw [List.getElem?_set_ne hqr]; exact z, y⟩
        · rw [set_at hq4, List.map_set]
      have hset : ∀ w : Int × Int, setL (.ref q) (.int at_) (.tup [.int w.1, .int w.2]) t4 = some (t4.set q (.lst ((ps.map prM).set at_.toNat (prM w)))) := fun w => set_ref hq4 a2 (by rw [List.length_map]; exact b2)
      have c : v4 = 0 ∨ v4 = 1 ∨ v4 = 2 ∨ v4 = 3 ∨ v4 = 4 ∨ v4 = 5 := by omega
      let W : MV := .lst [.tup [.int other, .int one], .tup [.int one, .int one], .tup [.int one, .int span], .tup [.int (-1), .int other], .tup [.int other, .int other], .tup [.int one, .int (span + v3)]]
      rcases c with rfl | rfl | rfl | rfl | rfl | rfl
      · refine ⟨_, ps.set at_.toNat (other, one), some (.int one), some (.int other), some (.int at_), some W, ?_, (fin (other, one)).1, (fin (other, one)).2.1, (fin (other, one)).2.2⟩
        have hs := hset (other, one)
        simp [n1, e1, hlen, e2, hix, pw9, e3, e4', line, hs, W, tgTup, tgCons, tgNil, seqOf, M.bnd]
      · refine ⟨_, ps.set at_.toNat (one, one), some (.int one), some (.int other), some (.int at_), some W, ?_, (fin (one, one)).1, (fin (one, one)).2.1, (fin (one, one)).2.2⟩
        have hs := hset (one, one)
        simp [n1, e1, hlen, e2, hix, pw9, e3, e4', line, hs, W, tgTup, tgCons, tgNil, seqOf, M.bnd]
      · refine ⟨_, ps.set at_.toNat (one, span), some (.int one), some (.int other), some (.int at_), some W, ?_, (fin (one, span)).1, (fin (one, span)).2.1, (fin (one, span)).2.2⟩
        have hs := hset (one, span)
        simp [n1, e1, hlen, e2, hix, pw9, e3, e4', line, hs, W, tgTup, tgCons, tgNil, seqOf, M.bnd]
      · refine ⟨_, ps.set at_.toNat (-1, other), some (.int one), some (.int other), some (.int at_), some W, ?_, (fin (-1, other)).1, (fin (-1, other)).2.1, (fin (-1, other)).2.2⟩
        have hs := hset (-1, other)
        simp [n1, e1, hlen, e2, hix, pw9, e3, e4', line, hs, W, tgTup, tgCons, tgNil, seqOf, M.bnd]
      · refine ⟨_, ps.set at_.toNat (other, other), some (.int one), some (.int other), some (.int at_), some W, ?_, (fin (other, other)).1, (fin (other, other)).2.1, (fin (other, other)).2.2⟩
        have hs := hset (other, other)
        simp [n1, e1, hlen, e2, hix, pw9, e3, e4', line, hs, W, tgTup, tgCons, tgNil, seqOf, M.bnd]
      · refine ⟨_, ps.set at_.toNat (one, span + v3), some (.int one), some (.int other), some (.int at_), some W, ?_, (fin (one, span + v3)).1, (fin (one, span + v3)).2.1, (fin (one, span + v3)).2.2⟩
        have hs := hset (one, span + v3)
        simp [n1, e1, hlen, e2, hix, pw9, e3, e4', line, hs, W, tgTup, tgCons, tgNil, seqOf, M.bnd]
    · refine ⟨t1, ps, e5, e6, none, none, ?_, S1, ?_, rfl⟩
      · simp [n1, e1, hv]
      · rw [F1.same q hqr]; exact hq
noncomputable def edTail : MS := (sSeq (sAsg 9 (mC .non))
    (sSeq (sIf (mOr (mCmp cLt (mVar 1) (mC (.int 1))) (mCmp cGt (mVar 1) (mC (.int 12)))) (sAsg 9 (mC (.str ("size" : Str)))) (sIf (mOr (mCmp cGt (mCallF fLen (mCons (mVar 3) mNil)) (mC (.int 40))) (mCmp cNe (mLc true (miSeq (mVar 3)) (tgName 10) (mNot (mAnd (mCmp cLe (mC (.int 0)) (mIx (mVar 10) (mC (.int 0)))) (mAnd (mCmp cLt (mIx (mVar 10) (mC (.int 0))) (mIx (mVar 10) (mC (.int 1)))) (mCmp cLt (mIx (mVar 10) (mC (.int 1))) (mVar 1))))) (mVar 10) [10]) (mLst true mNil))) (sAsg 9 (mC (.str ("pairs" : Str)))) sNil))
    (sRet (mTup (mCons (mVar 1) (mCons (mVar 3) (mCons (mVar 9) mNil)))))))
def edB (size : Int) : MV → Bool
  | .tup [.int a, .int b] => edBad size (a, b)
  | _ => false
theorem ed_filter (size : Int) : ∀ ps : List (Int × Int), (((ps.map prM).filter (edB size)).map id) = (ps.filter (edBad size)).map prM
  | [] => rfl
  | p :: ps => by
    have ih := ed_filter size ps
    rw [List.map_id] at ih ⊢
    rw [List.map_cons]
    have e : edB size (prM p) = edBad size p := rfl
    cases h : edBad size p with
    | true => rw [List.filter_cons_of_pos (by rw [e]; exact h), List.filter_cons_of_pos h, ih]; rfl
    | false => rw [List.filter_cons_of_neg (by rw [e, h]; decide), List.filter_cons_of_neg (by rw [h]; decide), ih]
theorem edTail_ok {st : Sto} {r q : Nat} {size span : Int} {ps : List (Int × Int)} {e4 e5 e6 e7 e8 : Option MV} (hq : st[q]? = some (.lst (ps.map prM))) (hl : ps.length < 1000) :
    edTail [some (.ref r), some (.int size), some (.int span), some (.ref q), e4, e5, e6, e7, e8, none, none] st = .rt (.tup [.int size, .ref q, edDue size ps]) st := by
  have hlen := fLen_ref hq
  rw [List.length_map] at hlen
  have hqs : q < st.length := (List.getElem?_eq_some_iff.mp hq).1
  have comp : ∀ e9 : Option MV, mLc true (miSeq (mVar 3)) (tgName 10) (mNot (mAnd (mCmp cLe (mC (.int 0)) (mIx (mVar 10) (mC (.int 0)))) (mAnd (mCmp cLt (mIx (mVar 10) (mC (.int 0))) (mIx (mVar 10) (mC (.int 1)))) (mCmp cLt (mIx (mVar 10) (mC (.int 1))) (mVar 1))))) (mVar 10) [10] [some (.ref r), some (.int size), some (.int span), some (.ref q), e4, e5, e6, e7, e8, e9, none] st = .ok (.lst ((ps.filter (edBad size)).map prM)) st := fun e9 => by
    rw [← ed_filter]
    refine mLc_pure (it := ⟨ps.map prM, okOf (.ref q) (ps.map prM)⟩) (edB size) id ?_ ?_ ?_ ?_ ?_
    · simp [miSeq, M.bnd, itOf, lsOf, seqOf, hq]
    · intro x hx a
      obtain ⟨p, _, rfl⟩ := List.mem_map.mp hx
      obtain ⟨p1, p2⟩ := p
      refine ⟨[some (.ref r), some (.int size), some (.int span), some (.ref q), e4, e5, e6, e7, e8, e9, some (prM (p1, p2))], by simp [wipeM], ?_, fun _ => by simp [prM]⟩
      by_cases h1 : 0 ≤ p1 <;> by_cases h2 : p1 < p2 <;> by_cases h3 : p2 < size <;> simp [prM, edB, edBad, h1, h2, h3]
    · intro a
      show (st ++ _)[q]? = _
      rw [List.getElem?_append_left hqs]; exact hq
    · simp [line]; omega
    · intro x hx
      obtain ⟨p, _, rfl⟩ := List.mem_map.mp hx
      exact flat_pr p
  have ne := fun s => ne_lst (s := s) enc_pr (by omega) (xs := ps.filter (edBad size)) fun _ _ => trivial
  unfold edTail edDue
  by_cases g1 : size < 1 ∨ 12 < size
  · by_cases g2 : size < 1
    · simp [g2, line]
    · have g3 : 12 < size := by omega
      simp [g2, g3, line]
  · have g2 : ¬ size < 1 := by omega
    have g3 : ¬ 12 < size := by omega
    by_cases g4 : 40 < ps.length
    · have g5 : (40 : Int) < (ps.length : Int) := by omega
      simp [g2, g3, g4, g5, hlen, line]
    · have g5 : ¬ (40 : Int) < (ps.length : Int) := by omega
      cases hf : ps.filter (edBad size) with
      | nil => 
        have c := comp (some .non)
        have n := ne st
        rw [hf] at c n
        simp only [List.map_nil, List.isEmpty_nil, Bool.not_true] at c n
        simp [g2, g3, g4, g5, hlen, line, c, n]
      | cons y ys =>
        have c := comp (some .non)
        have n := ne st
        rw [hf] at c n
        simp only [List.map_cons, List.isEmpty_cons, Bool.not_false] at c n
        simp [g2, g3, g4, g5, hlen, line, c, n]
noncomputable def edCount : Ev → M MV := (mIx (mLst true (mCons (mCall m_ulaw_pick (mCons (mVar 0) (mCons (mC (.int 12)) mNil))) (mCons (mCall m_ulaw_pick (mCons (mVar 0) (mCons (mC (.int 45)) mNil))) (mCons (mC (.int 40)) (mCons (mC (.int 41)) mNil))))) (mCall m_ulaw_pick (mCons (mVar 0) (mCons (mC (.int 4)) mNil))))
theorem edges_eq : m_ulaw_edges = mFun 11 (sSeq (sAsg 1 (mCall m_ulaw_size (mCons (mVar 0) (mCons (mC (.int 12)) mNil))))
    (sSeq (sAsg 2 (mCallF fMax (mCons (mC (.int 2)) (mCons (mCallF fMin (mCons (mVar 1) (mCons (mC (.int 14)) mNil))) mNil))))
    (sSeq (sAsg 3 (mLst false mNil))
    (sSeq (sFor (miRange edCount) (tgName 4) edBody) (sSeq edSpoil edTail))))) := rfl
theorem edges_ok {st : Sto} {r : Nat} (h : Src st r) : ∃ (size : Int) (ps : List (Int × Int)) (q : Nat) (st' : Sto), m_ulaw_edges [.ref r] st = .ok (.tup [.int size, .ref q, edDue size ps]) st' ∧ Src st' r ∧ st'[q]? = some (.lst (ps.map prM)) ∧ q ≠ r ∧ -200 ≤ size ∧ size ≤ 1000000000000000000000 ∧ ps.length < 100 := by
  obtain ⟨size, span, n, st1, st2, e0, a0, b0, S1, hl1, hsp, h2, h3, n0, n1, ec, S2, hq, hr⟩ := ed1 h
  obtain ⟨st3, ps, e4, e5, e6, el, S3, hq3, hl3⟩ := edLoop (q := st1.length) (size := size) (e7 := none) (e8 := none) (e9 := none) (e10 := none) (Nat.ne_of_gt hr) h2 h3 (intsM 0 n.toNat) st2 [] none none none S2 hq (by rw [ints_len]; simp; omega)
  rw [ints_len] at hl3
  obtain ⟨st4, ps', e5', e6', e7', e8', es, S4, hq4, hl4⟩ := edSpoil_ok (size := size) (span := span) (e4 := e4) (e5 := e5) (e6 := e6) S3 hq3 (Nat.ne_of_gt hr) (by simp at hl3; omega)
  have et := edTail_ok (r := r) (size := size) (span := span) (e4 := e4) (e5 := e5') (e6 := e6') (e7 := e7') (e8 := e8') hq4 (by simp at hl3; omega)
  refine ⟨size, ps', st1.length, st4, ?_, S4, hq4, Nat.ne_of_gt hr, a0, b0, by simp at hl3; omega⟩
  rw [edges_eq, mFun_run]
  have hsm : small n = true := decide_eq_true (by omega)
  have ec' : edCount _ _ = _ := ec
  rw [hsp] at ec' el es et
  simp [e0, ec', hsm, el, es, et]
/-! ### bodies -/
theorem place_ok {st : Sto} {r : Nat} {far : Int} (h : Src st r) (hf : far = 0 ∨ far = 1) : ∃ (v : Int) (st' : Sto), m_ulaw_place [.ref r, .int far] st = .ok (.int v) st' ∧ Src st' r ∧ Fr r st st' := by
  have pw : ∀ {s : Sto}, bPow s (.int 10) (.int 30) = some (.int 1000000000000000000000000000000) := by intro s; simp [bPow]
  obtain ⟨v1, t1, e1, a1, b1, S1, F1⟩ := pick_ok 7 h (by omega) (by decide)
  obtain ⟨v2, t2, e2, a2, b2, S2, F2⟩ := pick_ok 2 S1 (by omega) (by decide)
  have x1 : ∀ (s : Sto) (y : Int), nb y ≤ 200 → bMul s (.int (v1 - 3)) (.int y) = some (.int ((v1 - 3) * y)) := fun s y hy => mulS (nb_lt (m := 31) (by omega)) hy (by omega)
  have x2 : ∀ (s : Sto) (y : Int), nb y ≤ 200 → bMul s (.int v2) (.int y) = some (.int (v2 * y)) := fun s y hy => mulS (nb_lt (m := 31) (by omega)) hy (by omega)
  unfold m_ulaw_place
  rw [mFun_run]
  rcases hf with rfl | rfl
  · exact ⟨_, t2, by simp [e1, e2, pw, line, x1 _ 1 (by decide), x2 _ 0 (by decide)]; rfl, S2, F1.trans F2⟩
  · exact ⟨_, t2, by simp [e1, e2, pw, line, x1 _ 1000000000000000000000000000007 (by decide), x2 _ 1 (by decide)]; rfl, S2, F1.trans F2⟩
def rdM (p : List Int) : MV := .tup (p.map .int)
theorem enc_rd : Enc rdM (fun p => .tuple (p.map .int)) (fun _ => ∀ x ∈ ([] : List Int), True) 2 where
  py := enc_int.tup.py
  lay a _ := enc_int.tup.lay a fun _ _ => trivial
  dep := enc_int.tup.dep
  eq := enc_int.tup.eq
noncomputable def bdBody : MS := (sSeq (sAsg 6 (mCall m_ulaw_pick (mCons (mVar 0) (mCons (mVar 2) mNil))))
    (sSeq (sAsg 7 (mBin bMod (mCallF fInt (mCons (mBin bAdd (mBin bAdd (mVar 6) (mC (.int 1))) (mCall m_ulaw_pick (mCons (mVar 0) (mCons (mBin bSub (mVar 2) (mC (.int 1))) mNil)))) mNil)) (mVar 2)))
    (sSeq (sAsg 8 (mCall m_ulaw_place (mCons (mVar 0) (mCons (mVar 3) mNil))))
    (sSeq (sAsg 9 (mCall m_ulaw_place (mCons (mVar 0) (mCons (mVar 3) mNil))))
    (sExpr (mMB isLs fAppend (mVar 4) (mCons (mTup (mCons (mVar 6) (mCons (mVar 8) (mCons (mVar 9) (mCons (mVar 7) (mCons (mBin bAdd (mBin bAdd (mVar 8) (mC (.int 1))) (mCall m_ulaw_pick (mCons (mVar 0) (mCons (mC (.int 3)) mNil)))) (mCons (mIx (mLst true (mCons (mVar 9) (mCons (mCall m_ulaw_place (mCons (mVar 0) (mCons (mVar 3) mNil))) mNil))) (mCall m_ulaw_pick (mCons (mVar 0) (mCons (mC (.int 2)) mNil)))) mNil))))))) mNil)))))))
theorem bdBody_ok {st : Sto} {r q : Nat} {size span far : Int} {ps : List (List Int)} {e5 e6 e7 e8 e9 e10 e11 e12 e13 e14 : Option MV} (h : Src st r) (hq : st[q]? = some (.lst (ps.map rdM))) (hqr : q ≠ r) (h2 : 2 ≤ span) (h3 : span < 1000) (hl : ps.length < 1000) (hf : far = 0 ∨ far = 1) :
    ∃ (st' : Sto) (p : List Int) (e6' e7' e8' e9' : Option MV), bdBody [some (.ref r), some (.int size), some (.int span), some (.int far), some (.ref q), e5, e6, e7, e8, e9, e10, e11, e12, e13, e14] st = .nx [some (.ref r), some (.int size), some (.int span), some (.int far), some (.ref q), e5, e6', e7', e8', e9', e10, e11, e12, e13, e14] st' ∧ Src st' r ∧ st'[q]? = some (.lst ((ps ++ [p]).map rdM)) ∧ p.length = 6 := by
  obtain ⟨v1, t1, e1, a1, b1, S1, F1⟩ := pick_ok span h (by omega) (nb_mono (nb_lt (m := 31) (by omega)) (by omega))
  obtain ⟨v2, t2, e2, a2, b2, S2, F2⟩ := pick_ok (span - 1) S1 (by omega) (nb_mono (nb_lt (m := 31) (by omega)) (by omega))
  obtain ⟨x, t3, e3, S3, F3⟩ := place_ok S2 hf
  obtain ⟨y, t4, e4, S4, F4⟩ := place_ok S3 hf
  obtain ⟨v5, t5, e5_, a5, b5, S5, F5⟩ := pick_ok 3 S4 (by omega) (by decide)
  obtain ⟨z, t6, e6_, S6, F6⟩ := place_ok S5 hf
  obtain ⟨v7, t7, e7_, a7, b7, S7, F7⟩ := pick_ok 2 S6 (by omega) (by decide)
  have hq2 : t7[q]? = some (.lst (ps.map rdM)) := by rw [((((((F1.trans F2).trans F3).trans F4).trans F5).trans F6).trans F7).same q hqr]; exact hq
  have hq4 : t4[q]? = some (.lst (ps.map rdM)) := by rw [(((F1.trans F2).trans F3).trans F4).same q hqr]; exact hq
  have M : ∀ (s : Sto) (x : Int), bMod s (.int x) (.int span) = some (.int (x % span)) := fun s x => bMod_i (by omega)
  generalize hw : (v1 + 1 + v2) % span = w
  have hl3 : (ps.map rdM).length < line := by rw [List.length_map]; exact Nat.lt_of_lt_of_le hl (by decide)
  have src : ∀ c, Src (t7.set q c) r := fun c => by
    obtain ⟨a, b, z, y⟩ := S7
    exact ⟨a, b, by rw [List.getElem?_set_ne hqr]; exact z, y⟩
  have c : v7 = 0 ∨ v7 = 1 := by omega
  unfold bdBody
  rcases c with rfl | rfl
  · refine ⟨t7.set q (.lst ((ps ++ [[v1, x, y, w, x + 1 + v5, y]]).map rdM)), [v1, x, y, w, x + 1 + v5, y], some (.int v1), some (.int w), some (.int x), some (.int y), ?_, src _, set_at hq2, rfl⟩
    simp [e1, e2, e3, e4, e5_, e6_, e7_, M, hw, isLs_r hq4, fAppend_r _ hq2 hl3, rdM, line]
  · refine ⟨t7.set q (.lst ((ps ++ [[v1, x, y, w, x + 1 + v5, z]]).map rdM)), [v1, x, y, w, x + 1 + v5, z], some (.int v1), some (.int w), some (.int x), some (.int y), ?_, src _, set_at hq2, rfl⟩
    simp [e1, e2, e3, e4, e5_, e6_, e7_, M, hw, isLs_r hq4, fAppend_r _ hq2 hl3, rdM, line]
theorem bdLoop {r q : Nat} {size span far : Int} {e10 e11 e12 e13 e14 : Option MV} (hqr : q ≠ r) (h2 : 2 ≤ span) (h3 : span < 1000) (hf : far = 0 ∨ far = 1) : ∀ (xs : List MV) (st : Sto) (ps : List (List Int)) (e5 e6 e7 e8 e9 : Option MV), Src st r → st[q]? = some (.lst (ps.map rdM)) → (∀ p ∈ ps, p.length = 6) → ps.length + xs.length < 1000 →
    ∃ (st' : Sto) (ps' : List (List Int)) (e5' e6' e7' e8' e9' : Option MV), forL (tgName 5) bdBody (fun _ => True) xs [some (.ref r), some (.int size), some (.int span), some (.int far), some (.ref q), e5, e6, e7, e8, e9, e10, e11, e12, e13, e14] st = .nx [some (.ref r), some (.int size), some (.int span), some (.int far), some (.ref q), e5', e6', e7', e8', e9', e10, e11, e12, e13, e14] st' ∧ Src st' r ∧ st'[q]? = some (.lst (ps'.map rdM)) ∧ ps'.length = ps.length + xs.length ∧ ∀ p ∈ ps', p.length = 6
  | [], st, ps, e5, e6, e7, e8, e9, h, hq, h6, _ => ⟨st, ps, e5, e6, e7, e8, e9, for_T_nil _ _, h, hq, by simp, h6⟩
  | x :: xs, st, ps, e5, e6, e7, e8, e9, h, hq, h6, hl => by
    simp only [List.length_cons] at hl
    obtain ⟨t, p, e6', e7', e8', e9', eb, S, hq2, hp⟩ := bdBody_ok (size := size) (e5 := some x) (e6 := e6) (e7 := e7) (e8 := e8) (e9 := e9) (e10 := e10) (e11 := e11) (e12 := e12) (e13 := e13) (e14 := e14) h hq hqr h2 h3 (by omega) hf
    obtain ⟨st', ps', f5, f6, f7, f8, f9, el, S', hq3, hl3, h6'⟩ := bdLoop (size := size) (e10 := e10) (e11 := e11) (e12 := e12) (e13 := e13) (e14 := e14) hqr h2 h3 hf xs t (ps ++ [p]) (some x) e6' e7' e8' e9' S hq2 (fun y hy => by
      rcases List.mem_append.mp hy with hy | hy
      · exact h6 y hy
      · rw [List.mem_singleton.mp hy]; exact hp) (by simp; omega)
    refine ⟨st', ps', f5, f6, f7, f8, f9, ?_, S', hq3, by rw [hl3]; simp; omega, h6'⟩
    rw [for_T_cons]
    simp only [tgName_run, List.set_cons_succ, List.set_cons_zero, eb, el]
end K43

namespace K43
open PySem L2 Z
def SrcC : Cell → Prop := fun c => ∃ a b : Int, c = .lst [.int a, .int b] ∧ 0 ≤ a ∧ 0 ≤ b ∧ nb b ≤ 40
theorem src_of {L : Heapy} {st : Sto} {r : Nat} (h : Has st L) (m : (r, SrcC) ∈ L) : Src st r := by
  obtain ⟨c, e, a, b, rfl, h1, h2, h3⟩ := h.get m
  exact ⟨a, b, e, h1, h2, h3⟩
theorem has_fr {L : Heapy} {st t : Sto} {r : Nat} (h : Has st L) (m : (r, SrcC) ∈ L) (S : Src t r) (F : Fr r st t) : Has t L := ⟨h.nd, fun p q => by
  by_cases e : p.1 = r
  · obtain ⟨i, C⟩ := p
    cases e
    obtain ⟨a, b, e2, h1, h2, h3⟩ := S
    rw [nodup_snd h.nd q m]
    exact ⟨_, e2, a, b, rfl, h1, h2, h3⟩
  · obtain ⟨c, z, w⟩ := h.all p q
    exact ⟨c, by rw [F.same _ e]; exact z, w⟩⟩
section
variable {st : Sto} {L : Heapy} {r : Nat} {Q : MV → Sto → Prop} {X : Nat → List (Nat × MV) → Sto → Prop}
theorem pick_wp {many : Int} (h : Has st L) (m : (r, SrcC) ∈ L) (hm : 0 < many) (hs : nb many ≤ 200) (k : ∀ v t, 0 ≤ v → v < many → Has t L → Fr r st t → Q (.int v) t) : Wp Q X (m_ulaw_pick [.ref r, .int many] st) := by
  obtain ⟨v, t, e, a, b, S, F⟩ := pick_ok many (src_of h m) hm hs
  exact Wp.of e (k v t a b (has_fr h m S F) F)
theorem size_wp {most : Int} (h : Has st L) (m : (r, SrcC) ∈ L) (hm : 0 < most) (hm2 : most < 100) (k : ∀ v t, -200 ≤ v → v ≤ 1000000000000000000000 → Has t L → Fr r st t → Q (.int v) t) : Wp Q X (m_ulaw_size [.ref r, .int most] st) := by
  obtain ⟨v, t, e, a, b, S, F⟩ := size_ok (src_of h m) hm hm2
  exact Wp.of e (k v t a b (has_fr h m S F) F)
theorem place_wp {far : Int} (h : Has st L) (m : (r, SrcC) ∈ L) (hf : far = 0 ∨ far = 1) (k : ∀ v t, Has t L → Fr r st t → Q (.int v) t) : Wp Q X (m_ulaw_place [.ref r, .int far] st) := by
  obtain ⟨v, t, e, S, F⟩ := place_ok (src_of h m) hf
  exact Wp.of e (k v t (has_fr h m S F) F)
end
theorem nb31 {x : Int} (h0 : -2147483647 ≤ x) (h : x ≤ 2147483647) : nb x ≤ 200 := nb_mono (nb_lt (m := 31) (by omega)) (by omega)
structure B6 where
  a : Int
  x : Int
  y : Int
  b : Int
  z : Int
  w : Int
deriving DecidableEq
def b6 (p : B6) : MV := .tup [.int p.a, .int p.x, .int p.y, .int p.b, .int p.z, .int p.w]
@[simp] theorem b6_ne0 (p : B6) : (b6 p = .exc) = False := by simp [b6]
@[simp] theorem b6_ne (p : B6) : b6 p ≠ .exc := by simp [b6]
theorem pl_b6 (p : B6) (k : Nat) : plB (k + 2) (b6 p) = true := by simp [b6, plB]
theorem pl_b6s (ps : List B6) : Pl (.lst (ps.map b6)) := pl_lst.mpr fun x hx => by
  obtain ⟨p, _, rfl⟩ := List.mem_map.mp hx
  exact pl_b6 p _
def bdFit (size : Int) (p : B6) : Bool := decide (0 ≤ p.a ∧ p.a < size ∧ 0 ≤ p.b ∧ p.b < size ∧ p.a ≠ p.b ∧ ¬(p.x = p.z ∧ p.y = p.w))
def bdDue (size : Int) (many : Nat) (ps : List B6) : MV := if size < 1 ∨ 7 < size then .str ("size" : Str) else if 30 < many then .str ("rods" : Str) else if ps.all (bdFit size) = true then .non else .str ("rods" : Str)
@[simp] theorem bdDue_ne (size : Int) (many : Nat) (ps : List B6) : (bdDue size many ps = .exc) = False := by
  unfold bdDue
  repeat' split
  all_goals simp
theorem bd0 {size : Int} {n : Nat} {d : List B6} {x : B6} (h : isN (bdDue size n d) = true) (hx : bdFit size x = true) : bdDue size n (d ++ [x]) = bdDue size n d := by
  unfold bdDue at *
  split at h
  · simp [isN] at h
  · rename_i h1
    split at h
    · simp [isN] at h
    · rename_i h2
      split at h
      · rename_i h3
        simp [h1, h2, h3, hx]
      · simp [isN] at h
theorem bd1 {size : Int} {n : Nat} {d : List B6} {x : B6} (h : isN (bdDue size n d) = true) (hx : bdFit size x = false) : bdDue size n (d ++ [x]) = .str ("rods" : Str) := by
  unfold bdDue at *
  split at h
  · simp [isN] at h
  · rename_i h1
    split at h
    · simp [isN] at h
    · rename_i h2
      simp [h1, h2, hx]
theorem bd2 {size : Int} {n : Nat} {d : List B6} {x : B6} (h : isN (bdDue size n d) = false) : bdDue size n (d ++ [x]) = bdDue size n d := by
  unfold bdDue at *
  split at h
  · rename_i h1
    simp [h1]
  · rename_i h1
    split at h
    · rename_i h2
      simp [h1, h2]
    · rename_i h2
      split at h
      · simp [isN] at h
      · rename_i h3
        have h4 : ¬ ((d ++ [x]).all (bdFit size) = true) := fun z => h3 (by simp only [List.all_append, Bool.and_eq_true] at z; exact z.1)
        rw [if_neg h1, if_neg h2, if_neg h4, if_neg h1, if_neg h2, if_neg h3]
theorem bodies_wp {st : Sto} {r : Nat} {L : Heapy} {Q : MV → Sto → Prop} (h : Has st ((r, SrcC) :: L)) (k : ∀ (size : Int) (ps : List B6) (q : Nat) (t : Sto), t[q]? = some (.lst (ps.map b6)) → -200 ≤ size → size ≤ 1000000000000000000000 → ps.length < 50 → Q (.tup [.int size, .ref q, bdDue size ps.length ps]) t) : Wp Q noX (m_ulaw_bodies [.ref r] st) := by
  unfold m_ulaw_bodies
  simp -dsimp [-sIf_run]
  refine size_wp h (.head _) (by omega) (by omega) fun size t1 a1 b1 h F1 => ?_
  simp -dsimp [-sIf_run]
  refine pick_wp h (.head _) (by omega) (by decide) fun far t2 a2 b2 h F2 => ?_
  simp -dsimp [-sIf_run]
  have h := h.push (c := .lst []) (C := Ls []) rfl
  generalize hq : t2.length = q at h ⊢
  refine pick_wp h (.tail _ (.head _)) (by omega) (by decide) fun n1 t3 a3 b3 h F3 => ?_
  simp -dsimp [-sIf_run]
  refine pick_wp h (.tail _ (.head _)) (by omega) (by decide) fun n2 t4 a3 b3 h F3 => ?_
  simp -dsimp [-sIf_run]
  refine pick_wp h (.tail _ (.head _)) (by omega) (by decide) fun n3 t5 a5 b5 h F3 => ?_
  generalize hf : (if far = 0 then (1 : Int) else 0) = f
  generalize hspan : (if 2 < if 9 < size then 9 else size then if 9 < size then 9 else size else (2 : Int)) = span
  have hf' : f = 0 ∨ f = 1 := by rw [← hf]; split <;> omega
  have hs : 2 ≤ span ∧ span < 10 := by rw [← hspan]; repeat' split <;> omega
  clear hspan
  refine wpo_any (by omega) (by simpa using b5) (fun v => ∃ n : Int, v = .int n ∧ 0 ≤ n ∧ n < 45) ?_ ?_
  · simp
    omega
  rintro _ ⟨n, rfl, n0, n1⟩
  simp -dsimp [-sIf_run]
  refine ⟨by omega, ?_⟩
  clear F1 F2 F3 hf
  refine wp_forR (fun i e t => Seal (∃ (ps : List B6) (e5 e6 e7 e8 e9 : Option MV), ps.length = i ∧ Has t ((q, Ls (ps.map b6)) :: (r, SrcC) :: L) ∧ e = [some (.ref r), some (.int size), some (.int span), some (.int f), some (.ref q), e5, e6, e7, e8, e9, none, none, none, none, none]) ()) ⟨[], _, _, _, _, _, rfl, h, rfl⟩ (fun _ _ _ _ => trivial) ?_ ?_
  · rintro i _ t hi ⟨ps, e5, e6, e7, e8, e9, hl, h, rfl⟩
    simp -dsimp [-sIf_run]
    refine pick_wp h (.tail _ (.head _)) (by omega) (nb31 (by omega) (by omega)) fun one t1 a1 b1 h F1 => ?_
    simp -dsimp [-sIf_run]
    refine pick_wp h (.tail _ (.head _)) (by omega) (nb31 (by omega) (by omega)) fun two t1 a2 b2 h F1 => ?_
    simp -dsimp [-sIf_run, mod_i (show 0 < span by omega)]
    refine place_wp h (.tail _ (.head _)) hf' fun x t1 h F1 => ?_
    simp -dsimp [-sIf_run]
    refine place_wp h (.tail _ (.head _)) hf' fun y t1 h F1 => ?_
    simp -dsimp [-sIf_run, isLs_ref (h.ls (.head _))]
    refine pick_wp h (.tail _ (.head _)) (by omega) (by decide) fun u t1 a3 b3 h F1 => ?_
    simp -dsimp [-sIf_run]
    refine place_wp h (.tail _ (.head _)) hf' fun z t1 h F1 => ?_
    simp -dsimp [-sIf_run]
    refine pick_wp h (.tail _ (.head _)) (by omega) (by decide) fun n3 t5 a5 b5 h F3 => ?_
    refine wpo_any (by omega) (by simpa using b5) (fun v => ∃ n : Int, v = .int n) (by simp) ?_
    rintro _ ⟨n, rfl⟩
    have hl2 : (ps.map b6).length < 100000 := by simp; omega
    simp -dsimp [-sIf_run, append_ref (h.ls (.head _)) hl2]
    exact sl ⟨ps ++ [⟨one, x, y, (one + 1 + two) % span, x + 1 + u, n⟩], _, _, _, _, _, by simp [hl], by simpa [b6] using h.upd0 (C' := Ls (ps.map b6 ++ [_])) rfl, rfl⟩
  · rintro _ t ⟨ps, e5, e6, e7, e8, e9, hl, h, rfl⟩
    simp -dsimp [-sIf_run]
    have hl2 : ps.length < 50 := by omega
    refine WpS.cut (fun e t => Seal (∃ (ps : List B6) (e5 e6 e7 e8 e9 e10 e11 e12 e13 : Option MV), ps.length < 50 ∧ Has t ((q, Ls (ps.map b6)) :: (r, SrcC) :: L) ∧ e = [some (.ref r), some (.int size), some (.int span), some (.int f), some (.ref q), e5, e6, e7, e8, e9, e10, e11, e12, e13, none]) ()) ?_ ?_
    · simp -dsimp [-sIf_run, wps_sif]
      refine wpo_neR (h.ls (.head _)) (pl_b6s ps) rfl (fun he => ?_) (fun he => ?_)
      · simp -dsimp [-sIf_run]
        exact sl ⟨ps, _, _, _, _, _, _, _, _, _, hl2, h, rfl⟩
      · simp -dsimp [-sIf_run]
        have hpos : 0 < ps.length := by cases ps with | nil => exact absurd rfl he | cons _ _ => simp
        refine pick_wp h (.tail _ (.head _)) (by omega) (by decide) fun c t a3 b3 h F1 => ?_
        simp -dsimp [-sIf_run]
        refine ⟨fun hc => ?_, fun hc => sl ⟨ps, _, _, _, _, _, _, _, _, _, hl2, h, rfl⟩⟩
        simp -dsimp [-sIf_run, len_ref (h.ls (.head _))]
        refine pick_wp h (.tail _ (.head _)) (by omega) (nb31 (by omega) (by omega)) fun at_ t a3 b3 h F1 => ?_
        have b3' : at_ < ps.length := by simpa using b3
        obtain ⟨p, hp⟩ : ∃ p, ps[at_.toNat]? = some p := ⟨_, List.getElem?_eq_getElem (by omega)⟩
        simp -dsimp [-sIf_run, Z.ix_ref (h.ls (.head _)), ix_m1 _ _ a3, List.getElem?_map, hp, b6]
        refine pick_wp h (.tail _ (.head _)) (by omega) (by decide) fun d t a4 b4 h F1 => ?_
        refine wpo_any (by omega) (by simpa using b4) (fun v => ∃ n : B6, v = b6 n) ?_ ?_
        · simp
          exact ⟨⟨⟨p.a, p.x, p.y, p.a, p.z, p.w⟩, rfl⟩, ⟨⟨p.a, p.x, p.y, p.b, p.x, p.y⟩, rfl⟩, ⟨⟨span, p.x, p.y, p.b, p.z, p.w⟩, rfl⟩, ⟨⟨p.a, p.x, p.y, -1, p.z, p.w⟩, rfl⟩⟩
        rintro _ ⟨n, rfl⟩
        simp -dsimp [-sIf_run, Z.setL_ref (h.ls (.head _)) a3 (by simpa using b3)]
        exact sl ⟨ps.set at_.toNat n, _, _, _, _, _, _, _, _, _, by simpa using hl2, by simpa [List.map_set] using h.upd0 (C' := Ls _) rfl, rfl⟩
    · rintro _ t ⟨ps, e5, e6, e7, e8, e9, e10, e11, e12, e13, hl, h, rfl⟩
      simp -dsimp [-sIf_run]
      refine WpS.cut (fun e u => Seal (u = t ∧ e = [some (.ref r), some (.int size), some (.int span), some (.int f), some (.ref q), e5, e6, e7, e8, e9, e10, e11, e12, e13, some (bdDue size ps.length [])]) ()) ?_ ?_
      · simp -dsimp [-sIf_run, wps_sif, len_ref (h.ls (.head _))]
        unfold bdDue
        refine ⟨fun h1 => ?_, fun h1 => ⟨fun h2 => ?_, fun h2 => ⟨fun h3 => ?_, fun h3 => ?_⟩⟩⟩
        · exact sl (by simp [h1])
        · exact sl (by simp [h2])
        · have : ¬ size < 1 := by omega
          have : ¬ 7 < size := by omega
          have : 30 < ps.length := by omega
          exact sl (by simp [*])
        · have : ¬ size < 1 := by omega
          have : ¬ 7 < size := by omega
          have : ¬ 30 < ps.length := by omega
          exact sl (by simp [*])
      · rintro _ t ⟨rfl, rfl⟩
        simp -dsimp [-sIf_run, it_ref (h.ls (.head _))]
        refine wp_forM (fun d e u => Seal (∃ D e5 e6 e7 e8 e9 e10 e11 e12 e13, u = t ∧ D = bdDue size ps.length d ∧ e = [some (.ref r), some (.int size), some (.int span), some (.int f), some (.ref q), e5, e6, e7, e8, e9, e10, e11, e12, e13, some D]) ()) ⟨_, _, _, _, _, _, _, _, _, _, rfl, rfl, rfl⟩ ?_ ?_ ?_
        · rintro d e u ⟨_, _, _, _, _, _, _, _, _, _, rfl, _⟩
          exact h.ls (.head _)
        · rintro d x rest _ u hp ⟨_, e5, e6, e7, e8, e9, e10, e11, e12, e13, rfl, rfl, rfl⟩
          simp -dsimp [-sIf_run, wps_sif, b6]
          refine ⟨fun hn => ⟨fun c1 => ?_, fun c1 => ⟨fun c2 => ?_, fun c2 => ⟨fun c3 => ?_, fun c3 => ?_⟩⟩⟩, fun hn => ?_⟩
          · refine sl ⟨_, _, _, _, _, _, _, _, _, _, rfl, ?_, rfl⟩
            rw [bd1 hn (by unfold bdFit; apply decide_eq_false; split at c1 <;> omega)]
          · refine sl ⟨_, _, _, _, _, _, _, _, _, _, rfl, ?_, rfl⟩
            rw [bd1 hn (by unfold bdFit; apply decide_eq_false; split at c2 <;> omega)]
          · refine sl ⟨_, _, _, _, _, _, _, _, _, _, rfl, ?_, rfl⟩
            rw [bd1 hn (by unfold bdFit; apply decide_eq_false; omega)]
          · refine wpo_eq (by simp [Pl, plB]) (by simp [Pl, plB]) (fun c4 => ?_) (fun c4 => ?_)
            · simp -dsimp [-sIf_run]
              simp at c4
              refine sl ⟨_, _, _, _, _, _, _, _, _, _, rfl, ?_, rfl⟩
              rw [bd1 hn (by unfold bdFit; apply decide_eq_false; omega)]
            · simp -dsimp [-sIf_run]
              simp at c4
              refine sl ⟨_, _, _, _, _, _, _, _, _, _, rfl, ?_, rfl⟩
              rw [bd0 hn (by unfold bdFit; apply decide_eq_true; split at c1 <;> split at c2 <;> (refine ⟨?_, ?_, ?_, ?_, ?_, ?_⟩ <;> omega))]
          · refine sl ⟨_, _, _, _, _, _, _, _, _, _, rfl, ?_, rfl⟩
            rw [bd2 hn]
        · rintro _ u ⟨_, e5, e6, e7, e8, e9, e10, e11, e12, e13, rfl, rfl, rfl⟩
          simp -dsimp [-sIf_run]
          exact k _ _ _ _ (h.ls (.head _)) a1 b1 hl
end K43

namespace K43
open PySem L2 Z
/-! ### grids -/
theorem srcB (n : Nat) (c : Cell) (h : SrcC c) : cellB n c = true := by
  obtain ⟨a, b, rfl, _⟩ := h
  rfl
def rowM (ws : List Str) : MV := .lst (ws.map .str)
/-- a row, as it stands or in a cell -/
def Rw (q : Nat) (t : Sto) (z : MV × List Str) : Prop := (z.1 = rowM z.2 ∨ ∃ p, z.1 = .ref p ∧ p ≠ q ∧ t[p]? = some (.lst (z.2.map .str))) ∧ (∀ w ∈ z.2, sok w = true) ∧ z.2.length < 100
/-- the squares -/
structure Sq (q r : Nat) (zs : List (MV × List Str)) (t : Sto) : Prop where
  sq : t[q]? = some (.lst (zs.map (·.1)))
  rs : ∀ z ∈ zs, Rw q t z
  nr : ∀ z ∈ zs, z.1 ≠ .ref r
  src : Has t [(r, SrcC)]
  ne : q ≠ r
  few : zs.length < 10
theorem Rw.of {q : Nat} {t t' : Sto} {z : MV × List Str} (h : Rw q t z) (k : ∀ p, z.1 = .ref p → p ≠ q → t[p]? = some (.lst (z.2.map .str)) → t'[p]? = t[p]?) : Rw q t' z := by
  obtain ⟨h1, h2⟩ := h
  refine ⟨?_, h2⟩
  rcases h1 with h1 | ⟨p, e, n, g⟩
  · exact .inl h1
  · exact .inr ⟨p, e, n, by rw [k p e n g]; exact g⟩
theorem Sq.fr {q r : Nat} {zs : List (MV × List Str)} {t t' : Sto} (h : Sq q r zs t) (F : Fr r t t') (H : Has t' [(r, SrcC)]) : Sq q r zs t' :=
  ⟨by rw [F.same q h.ne]; exact h.sq, fun z hz => (h.rs z hz).of fun p e _ _ => F.same p fun ep => h.nr z hz (by rw [e, ep]), h.nr, H, h.ne, h.few⟩
theorem Rw.list {q : Nat} {t : Sto} {z : MV × List Str} (h : Rw q t z) : Z.listOf t z.1 = some (z.2.map .str) := by
  rcases h.1 with h1 | ⟨p, e, n, g⟩
  · rw [h1]; rfl
  · rw [e]; simp [Z.listOf, g]
theorem Rw.seq {q : Nat} {t : Sto} {z : MV × List Str} (h : Rw q t z) : seqOf t z.1 = some (z.2.map .str) := by
  rcases h.1 with h1 | ⟨p, e, n, g⟩
  · rw [h1]; rfl
  · rw [e]; simp [seqOf, g]
theorem Rw.len {q : Nat} {t : Sto} {z : MV × List Str} (h : Rw q t z) : fLen t [z.1] = some (.int z.2.length) := by
  rcases h.1 with h1 | ⟨p, e, n, g⟩
  · rw [h1]; simp [rowM, fLen, seqOf]
  · rw [e]; simp [fLen, seqOf, g]
theorem Rw.fl {q : Nat} {t : Sto} {z : MV × List Str} (h : Rw q t z) : fList t [z.1] = some (z.2.map .str) := by
  rcases h.1 with h1 | ⟨p, e, n, g⟩
  · rw [h1]; rfl
  · rw [e]; simp [fList, seqOf, g]
theorem Rw.tu {q : Nat} {t : Sto} {z : MV × List Str} (h : Rw q t z) : fTuple t [z.1] = some (.tup (z.2.map .str)) := by
  rcases h.1 with h1 | ⟨p, e, n, g⟩
  · rw [h1]; rfl
  · rw [e]; simp [fTuple, seqOf, g]
theorem Rw.slice {q : Nat} {t : Sto} {z : MV × List Str} (h : Rw q t z) : slF true z.1 (some 1) none t = .ok (.lst ((z.2.drop 1).map .str)) t := by
  have e := h.seq
  have c : cutM (z.2.map MV.str) (some 1) none = (z.2.drop 1).map .str := by
    rw [show (1 : Int) = ((1 : Nat) : Int) from rfl, cut_lo, List.map_drop]
  rcases h.1 with h1 | ⟨p, e1, n, g⟩
  · rw [h1] at e ⊢
    simp only [rowM, slF, seqOf, mkList, if_true] at *
    rw [c]
  · rw [e1] at e ⊢
    simp only [slF, e, mkList, if_true, c]
theorem Rw.py {q : Nat} {t : Sto} {z : MV × List Str} (h : Rw q t z) : toPy t 29 z.1 = toPy t 29 (rowM z.2) := by
  rcases h.1 with h1 | ⟨p, e, n, g⟩
  · rw [h1]
  · rw [e]; simp [toPy, g, rowM]
theorem Rw.ne {q : Nat} {t : Sto} {z : MV × List Str} (h : Rw q t z) : (z.1 = .exc) = False := by
  rcases h.1 with h1 | ⟨p, e, n, g⟩
  · rw [h1]; simp [rowM]
  · rw [e]; simp
theorem Rw.frz {q : Nat} {t : Sto} {z : MV × List Str} (h : Rw q t z) (a : List MV) : frzM (t ++ [.lst a]) t.length 40 z.1 = some z.1 := by
  rcases h.1 with h1 | ⟨p, e, n, g⟩
  · rw [h1]
    refine pl_frz 12 _ ?_ 40 (by omega)
    refine pl_lst.mpr fun x hx => ?_
    obtain ⟨w, hw, rfl⟩ := List.mem_map.mp hx
    simpa [plB] using h.2.1 w hw
  · rw [e]
    have := (List.getElem?_eq_some_iff.mp g).1
    simp [frzM, this]
theorem Rw.more {q : Nat} {t : Sto} {z : MV × List Str} (h : Rw q t z) (e : Sto) : Rw q (t ++ e) z := h.of fun p _ _ g => by rw [List.getElem?_append_left (List.getElem?_eq_some_iff.mp g).1]
theorem pl_row {ws : List Str} (h : ∀ w ∈ ws, sok w = true) {k : Nat} : plB (k + 2) (rowM ws) = true := pl_lst.mpr fun x hx => by
  obtain ⟨w, hw, rfl⟩ := List.mem_map.mp hx
  simpa [plB] using h w hw
def wds : List Str := ["none", "bar", "rise", "fall", "both"]
abbrev wdsM : MV := .lst [.str ("none" : Str), .str ("bar" : Str), .str ("rise" : Str), .str ("fall" : Str), .str ("both" : Str)]
def gdDue (zs : List (MV × List Str)) : MV :=
  if zs.length < 1 ∨ 5 < zs.length ∨ (zs.head?.map fun z => z.2.length) = some 0 ∨ (zs.head?.any fun z => decide (5 < z.2.length)) = true then .str ("size" : Str)
  else if (zs.all fun z => decide (some z.2.length = zs.head?.map fun z => z.2.length)) = false then .str ("size" : Str)
  else if (zs.all fun z => z.2.all fun w => decide (w ∈ wds)) = false then .str ("squares" : Str) else .non
theorem rows_py {q : Nat} {t : Sto} : ∀ {ys : List (MV × List Str)}, (∀ y ∈ ys, Rw q t y) → (ys.map (·.1)).mapM (toPy t 29) = (ys.map fun y => rowM y.2).mapM (toPy t 29)
  | [], _ => rfl
  | y :: ys, h => by
    rw [List.map_cons, List.map_cons, List.mapM_cons, List.mapM_cons, (h y List.mem_cons_self).py, rows_py fun z hz => h z (List.mem_cons_of_mem _ hz)]
theorem ne_rows {q : Nat} {t : Sto} {ys : List (MV × List Str)} {Q : Bool → Prop} (h : ∀ y ∈ ys, Rw q t y) (h1 : ys = [] → Q false) (h0 : ys ≠ [] → Q true) : WpO Q (cNe t (.lst (ys.map (·.1))) (.lst [])) := by
  refine wpo_neP (x' := .lst (ys.map fun y => rowM y.2)) (y' := .lst []) (pl_lst.mpr fun x hx => ?_) rfl ?_ rfl rfl (fun e => ?_) (fun e => ?_)
  · obtain ⟨y, hy, rfl⟩ := List.mem_map.mp hx
    exact pl_row (h y hy).2.1
  · show ((ys.map (·.1)).mapM (toPy t 29)).map PyData.list = ((ys.map fun y => rowM y.2).mapM (toPy t 29)).map PyData.list
    rw [rows_py h]
  · refine h1 ?_
    cases ys with
    | nil => rfl
    | cons y ys => simp at e
  · refine h0 fun z => e ?_
    rw [z]; rfl
theorem gdDue_ne (zs : List (MV × List Str)) : (gdDue zs = .exc) = False := by
  unfold gdDue
  repeat' split
  all_goals simp
open Classical in
theorem nin_wds {s : Sto} {w : Str} (h : sok w = true) : cNin s (.str w) wdsM = some (!decide (w ∈ wds)) := by
  unfold cNin
  rw [in_pl (ys := wds.map .str) rfl (by simpa [Pl, plB] using h) fun z hz => by
    obtain ⟨x, hx, rfl⟩ := List.mem_map.mp hz
    have : ∀ x ∈ wds, sok x = true := by decide +kernel
    simpa [Pl, plB] using this x hx]
  have e : (MV.str w ∈ wds.map MV.str) ↔ w ∈ wds := by
    rw [List.mem_map]
    exact ⟨fun ⟨a, ha, e⟩ => by cases e; exact ha, fun h => ⟨w, h, rfl⟩⟩
  by_cases hw : w ∈ wds
  · have := e.mpr hw
    simp [this, hw]
  · have : ¬ (MV.str w ∈ wds.map MV.str) := fun z => hw (e.mp z)
    simp [this, hw]
theorem gd_comp1 {q r : Nat} {zs : List (MV × List Str)} {t : Sto} {z : MV × List Str} {e0 e1 e2 e3 e5 e6 e7 e8 e9 e11 : Option MV} (S : Sq q r zs t) (hz : zs[0]? = some z) : mLc true (miSeq (mVar 4)) (tgName 10) (mCmp cNe (mCallF fLen (mCons (mVar 10) mNil)) (mCallF fLen (mCons (mIx (mVar 4) (mC (.int 0))) mNil))) (mVar 10) [10] [e0, e1, e2, e3, some (.ref q), e5, e6, e7, e8, e9, none, e11] t = .ok (.lst ((zs.filter fun y => decide (y.2.length ≠ z.2.length)).map (·.1))) t := by
  have hq := (List.getElem?_eq_some_iff.mp S.sq).1
  refine lc_map (f := fun y : MV × List Str => y.1) (ok := fun u => u[q]? = some (.lst (zs.map (·.1)))) _ _ ?_ ?_ ?_ ?_ ?_
  · simp [miSeq, M.bnd, it_ref S.sq]
  · intro y hy a
    have R := (S.rs y hy).more [.lst a]
    have hq2 : (t ++ [Cell.lst a])[q]? = some (.lst (zs.map (·.1))) := by rw [List.getElem?_append_left hq]; exact S.sq
    have hix : ixF (t ++ [Cell.lst a]) (.ref q) (.int 0) = some z.1 := by
      rw [Z.ix_ref hq2, ix_m1 _ _ (by omega), List.getElem?_map]
      show Option.map _ zs[0]? = _
      rw [hz]; rfl
    have Rz := (S.rs z (List.mem_of_getElem? hz)).more [.lst a]
    refine ⟨[e0, e1, e2, e3, some (.ref q), e5, e6, e7, e8, e9, some y.1, e11], by simp [wipeM], ?_, fun _ => ?_⟩
    · have v10 : mVar 10 [e0, e1, e2, e3, some (.ref q), e5, e6, e7, e8, e9, some y.1, e11] (t ++ [Cell.lst a]) = .ok y.1 (t ++ [Cell.lst a]) := mVar_ok rfl (fun e => by rw [R.ne] at e; exact e)
      rw [mCmp_run, mCallF_run, mCons_run, v10]
      simp [R.len, hix, Rz.len, Int.ofNat_inj]
    · exact mVar_ok rfl (fun e => by rw [R.ne] at e; exact e)
  · intro a
    show (t ++ _)[q]? = _
    rw [List.getElem?_append_left hq]; exact S.sq
  · simp; have := S.few; omega
  · intro y hy _ a
    exact (S.rs y hy).frz a
open Classical in
theorem gd_comp2 {q r : Nat} {zs : List (MV × List Str)} {t : Sto} {e0 e1 e2 e5 e6 e7 e8 e9 : Option MV} (S : Sq q r zs t) : mLc true (miSeq (mVar 4)) (tgName 10) (mCmp cNe (mLc true (miSeq (mVar 10)) (tgName 11) (mCmp cNin (mVar 11) (mVar 3)) (mVar 11) [11]) (mLst true mNil)) (mVar 10) [10] [e0, e1, e2, some wdsM, some (.ref q), e5, e6, e7, e8, e9, none, none] t = .ok (.lst ((zs.filter fun y => !(y.2.all fun w => decide (w ∈ wds))).map (·.1))) t := by
  have hq := (List.getElem?_eq_some_iff.mp S.sq).1
  refine lc_map (f := fun y : MV × List Str => y.1) (ok := fun u => u[q]? = some (.lst (zs.map (·.1)))) _ _ ?_ ?_ ?_ ?_ ?_
  · simp [miSeq, M.bnd, it_ref S.sq]
  · intro y hy a
    have R := (S.rs y hy).more [.lst a]
    refine ⟨[e0, e1, e2, some wdsM, some (.ref q), e5, e6, e7, e8, e9, some y.1, none], by simp [wipeM], ?_, fun _ => ?_⟩
    · have v10 : mVar 10 [e0, e1, e2, some wdsM, some (.ref q), e5, e6, e7, e8, e9, some y.1, none] (t ++ [Cell.lst a]) = .ok y.1 (t ++ [Cell.lst a]) := mVar_ok rfl (fun e => by rw [R.ne] at e; exact e)
      have hit : ∃ ok : Sto → Prop, itOf (t ++ [Cell.lst a]) y.1 = some ⟨y.2.map .str, ok⟩ ∧ ∀ b, ok ((t ++ [Cell.lst a]) ++ [.lst b]) := by
        rcases R.1 with h1 | ⟨p, e, n, g⟩
        · exact ⟨fun _ => True, by rw [h1]; rfl, fun _ => trivial⟩
        · rw [e]
          exact ⟨_, it_ref g, fun b => by rw [List.getElem?_append_left (List.getElem?_eq_some_iff.mp g).1]; exact g⟩
      obtain ⟨ok, hit, hok⟩ := hit
      have inner := lc_map (f := fun w : Str => MV.str w) (ys := y.2) (ok := ok) (mi := miSeq (mVar 10)) (g := tgName 11) (mt := mCmp cNin (mVar 11) (mVar 3)) (me := mVar 11) (vs := [11]) (env := [e0, e1, e2, some wdsM, some (.ref q), e5, e6, e7, e8, e9, some y.1, none]) (s := t ++ [Cell.lst a]) (fun w => !decide (w ∈ wds)) (fun w => .str w) (by unfold miSeq M.bnd; rw [v10]; simp [hit]) (fun w hw b => ⟨[e0, e1, e2, some wdsM, some (.ref q), e5, e6, e7, e8, e9, some y.1, some (.str w)], by simp [wipeM], by
        simp [nin_wds ((S.rs y hy).2.1 w hw)], fun _ => by simp⟩) hok (by have := (S.rs y hy).2.2; simp; omega) (fun w hw _ b => by rfl)
      have hws : ∀ w ∈ y.2.filter (fun w => !decide (w ∈ wds)), sok w = true := fun w hw => (S.rs y hy).2.1 w (List.mem_filter.mp hw).1
      have hne := eq_pl (s := t ++ [Cell.lst a]) (x := rowM (y.2.filter fun w => !decide (w ∈ wds))) (y := .lst []) (pl_row hws) rfl
      rw [mCmp_run, inner]
      simp only [mLst_run, mNil_run]
      show M.opt (cNe (t ++ [Cell.lst a]) (rowM (y.2.filter fun w => !decide (w ∈ wds))) (.lst [])) (t ++ [Cell.lst a]) = _
      unfold cNe
      rw [hne]
      simp only [Option.map_some, opt_some]
      congr 2
      rw [Bool.eq_iff_iff, decide_eq_true_iff, List.all_eq_true]
      constructor
      · intro e w hw
        have e2 : (y.2.filter fun w => !decide (w ∈ wds)).map MV.str = [] := by simpa [rowM] using e
        have := List.filter_eq_nil_iff.mp (List.map_eq_nil_iff.mp e2) w hw
        simpa using this
      · intro e
        have e2 : (y.2.filter fun w => !decide (w ∈ wds)) = [] := List.filter_eq_nil_iff.mpr fun w hw => by simpa using e w hw
        rw [e2]; rfl
    · exact mVar_ok rfl (fun e => by rw [R.ne] at e; exact e)
  · intro a
    show (t ++ _)[q]? = _
    rw [List.getElem?_append_left hq]; exact S.sq
  · simp; have := S.few; omega
  · intro y hy _ a
    exact (S.rs y hy).frz a
def gInv (q r rows columns : Nat) (e : Ev) (t : Sto) : Prop := ∃ (zs : List (MV × List Str)) (e5 e6 : Option MV), Sq q r zs t ∧ zs.length = rows ∧ e = [some (.ref r), some (.int rows), some (.int columns), some wdsM, some (.ref q), e5, e6, none, none, none, none, none]
theorem grid_wp {st : Sto} {r : Nat} {Q : MV → Sto → Prop} (h : Has st [(r, SrcC)]) (k : ∀ (zs : List (MV × List Str)) (q : Nat) (t : Sto), Sq q r zs t → Q (.tup [.int zs.length, .ref q, gdDue zs]) t) : Wp Q noX (m_ulaw_grid [.ref r] st) := by
  unfold m_ulaw_grid
  simp -dsimp [-sIf_run]
  refine pick_wp h (.head _) (by omega) (by decide) fun n1 t a1 b1 h F1 => ?_
  simp -dsimp [-sIf_run]
  refine pick_wp h (.head _) (by omega) (by decide) fun n2 t a2 b2 h F1 => ?_
  simp -dsimp [-sIf_run]
  refine pick_wp h (.head _) (by omega) (by decide) fun n3 t a3 b3 h F1 => ?_
  refine wpo_any (by omega) (by simpa using b3) (fun v => ∃ n : Nat, v = .int n ∧ n < 8) ?_ ?_
  · simp
    exact ⟨⟨(1 + n1).toNat, by omega, by omega⟩, ⟨5, rfl, by omega⟩, ⟨n2.toNat, by omega, by omega⟩⟩
  rintro _ ⟨rows, rfl, hrows⟩
  simp -dsimp [-sIf_run]
  refine pick_wp h (.head _) (by omega) (by decide) fun n1 t a1 b1 h F1 => ?_
  simp -dsimp [-sIf_run]
  refine pick_wp h (.head _) (by omega) (by decide) fun n2 t a2 b2 h F1 => ?_
  simp -dsimp [-sIf_run]
  refine pick_wp h (.head _) (by omega) (by decide) fun n3 t a3 b3 h F1 => ?_
  refine wpo_any (by omega) (by simpa using b3) (fun v => ∃ n : Nat, v = .int n ∧ n < 8) ?_ ?_
  · simp
    exact ⟨⟨(1 + n1).toNat, by omega, by omega⟩, ⟨5, rfl, by omega⟩, ⟨n2.toNat, by omega, by omega⟩⟩
  rintro _ ⟨columns, rfl, hcols⟩
  simp -dsimp [-sIf_run]
  refine wp_drawsC ⟨intsM 0 rows, fun _ => True⟩ ?_ h (.head _) (fun _ => trivial) (by rw [ints_len]; omega) (fun y => ∃ ws : List Str, y = rowM ws ∧ (∀ w ∈ ws, sok w = true) ∧ ws.length = columns) ?_ ?_
  · have : small (rows : Int) = true := by simp; omega
    simp [this]
  · intro x hx t h
    obtain ⟨i, rfl⟩ : ∃ i : Int, x = .int i := by
      obtain ⟨i, _, rfl⟩ := List.mem_map.mp hx
      exact ⟨_, rfl⟩
    simp -dsimp [-sIf_run, wipeM]
    refine wp_draws ⟨intsM 0 columns, fun _ => True⟩ ?_ h (.head _) srcB (fun _ => trivial) (by rw [ints_len]; omega) (fun y => ∃ w : Str, y = .str w ∧ sok w = true) ?_ ?_ ?_
    · have : small (columns : Int) = true := by simp; omega
      simp [this]
    · rintro y ⟨w, rfl, hw⟩
      simpa [Pl, plB] using hw
    · intro x hx t h
      obtain ⟨i, rfl⟩ : ∃ i : Int, x = .int i := by
        obtain ⟨i, _, rfl⟩ := List.mem_map.mp hx
        exact ⟨_, rfl⟩
      simp -dsimp [-sIf_run, wipeM]
      refine pick_wp h (.head _) (by omega) (by decide) fun v t a b h F => ?_
      refine wpo_any (by omega) (by simpa using b) (fun v => ∃ w : Str, v = .str w ∧ sok w = true) ?_ ?_
      · simp
        decide +kernel
      · rintro _ ⟨w, rfl, hw⟩
        exact ⟨⟨w, rfl, hw⟩, h, F⟩
    · intro ys t hl hy h F
      obtain ⟨ws, rfl, hws⟩ := exists_map hy
      exact ⟨⟨ws, rfl, hws, by rw [List.length_map, ints_len] at hl; omega⟩, h, F⟩
  · intro ys t1 hl hy h hlen
    obtain ⟨rs, rfl, hrs⟩ := exists_map hy
    rw [List.length_map, ints_len] at hl
    generalize hq : t.length = q at h ⊢
    have S : Sq q r (rs.map fun w => (rowM w, w)) t1 := ⟨by rw [h.ls (.head _)]; simp, fun z hz => by
      obtain ⟨w, hw, rfl⟩ := List.mem_map.mp hz
      exact ⟨.inl rfl, (hrs w hw).1, by have := (hrs w hw).2; simp; omega⟩, fun z hz => by
      obtain ⟨w, hw, rfl⟩ := List.mem_map.mp hz
      simp [rowM], h.tail, fun e => h.ne0 (j := r) (D := SrcC) (.head _) e.symm, by simp; omega⟩
    have hin : ∀ z ∈ (rs.map fun w => (rowM w, w)), z.1 = rowM z.2 := fun z hz => by
      obtain ⟨w, hw, rfl⟩ := List.mem_map.mp hz
      rfl
    generalize hzs : (rs.map fun w => (rowM w, w)) = zs at S hin
    have hcl : ∀ z ∈ zs, z.2.length = columns := fun z hz => by
      rw [← hzs] at hz
      obtain ⟨w, hw, rfl⟩ := List.mem_map.mp hz
      exact (hrs w hw).2
    have hzl : zs.length = rows := by rw [← hzs]; simp [hl]
    clear h
    simp -dsimp [-sIf_run]
    refine WpS.cut (gInv q r rows columns) ?_ ?_
    · simp -dsimp [-sIf_run, wps_sif]
      refine ⟨fun h0 => ?_, fun h0 => ⟨zs, _, _, S, hzl, rfl⟩⟩
      refine pick_wp S.src (.head _) (by omega) (by decide) fun c t2 a b h F => ?_
      have S := S.fr F h
      simp -dsimp [-sIf_run]
      refine ⟨fun hc => ?_, fun hc => ⟨zs, _, _, S, hzl, rfl⟩⟩
      refine pick_wp S.src (.head _) (by omega) (nb31 (by omega) (by omega)) fun at_ t2 a b h F => ?_
      have S := S.fr F h
      obtain ⟨z, hz, mz⟩ := get_some (xs := zs) (i := at_.toNat) (by omega)
      simp -dsimp [-sIf_run, wps_sif]
      refine pick_wp S.src (.head _) (by omega) (by decide) fun d t2 a4 b4 h F => ?_
      have S := S.fr F h
      simp -dsimp [-sIf_run]
      have hat : ixF t2 (.ref q) (.int at_) = some z.1 := by
        rw [Z.ix_ref S.sq, ix_m1 _ _ a, List.getElem?_map, hz]; rfl
      have fin : ∀ (t' : Sto) (w : MV × List Str), t'[q]? = some (.lst ((zs.set at_.toNat w).map (·.1))) → Rw q t' w → w.1 ≠ .ref r → Has t' [(r, SrcC)] → (∀ p, p < t2.length → p ≠ q → t'[p]? = t2[p]?) → gInv q r rows columns [some (.ref r), some (.int rows), some (.int columns), some wdsM, some (.ref q), some (.int at_), none, none, none, none, none, none] t' := fun t' w h1 h2 h3 h4 h5 => by
        refine ⟨zs.set at_.toNat w, _, _, ⟨h1, fun y hy => ?_, fun y hy => ?_, h4, S.ne, by simp; exact S.few⟩, by simp [hzl], rfl⟩
        · rcases List.mem_or_eq_of_mem_set hy with hy | rfl
          · exact (S.rs y hy).of fun p _ np g => h5 p (List.getElem?_eq_some_iff.mp g).1 np
          · exact h2
        · rcases List.mem_or_eq_of_mem_set hy with hy | rfl
          · exact S.nr y hy
          · exact h3
      have Rz := S.rs z mz
      have hz1 := hin z mz
      refine ⟨fun hd => ⟨fun hc => ?_, fun hc => ?_⟩, fun hd => ?_⟩
      · simp -dsimp [-sIf_run, hat, Rz.fl]
        have hq2 := (List.getElem?_eq_some_iff.mp S.sq).1
        have hzw := hcl z mz
        generalize hp : t2.length = p at hq2 ⊢
        have e1 : (t2 ++ [Cell.lst (z.2.map .str)])[q]? = some (.lst (zs.map (·.1))) := by rw [List.getElem?_append_left (by omega)]; exact S.sq
        have hqs : q < (t2 ++ [Cell.lst (z.2.map .str)]).length := (List.getElem?_eq_some_iff.mp e1).1
        have e2 : (t2 ++ [Cell.lst (z.2.map .str)])[p]? = some (.lst (z.2.map .str)) := by rw [← hp]; simp
        have hps : p < (t2 ++ [Cell.lst (z.2.map .str)]).length := (List.getElem?_eq_some_iff.mp e2).1
        rw [Z.setL_ref e1 a (by simp; omega)]
        have e3 : ((t2 ++ [Cell.lst (z.2.map .str)]).set q (.lst ((zs.map (·.1)).set at_.toNat (.ref p))))[q]? = some (.lst ((zs.map (·.1)).set at_.toNat (.ref p))) := List.getElem?_set_self hqs
        have e4 : ((t2 ++ [Cell.lst (z.2.map .str)]).set q (.lst ((zs.map (·.1)).set at_.toNat (.ref p))))[p]? = some (.lst (z.2.map .str)) := by rw [List.getElem?_set_ne (by omega)]; exact e2
        have hps2 := (List.getElem?_eq_some_iff.mp e4).1
        have e5 : ixF ((t2 ++ [Cell.lst (z.2.map .str)]).set q (.lst ((zs.map (·.1)).set at_.toNat (.ref p)))) (.ref q) (.int at_) = some (.ref p) := by
          rw [Z.ix_ref e3, ix_m1 _ _ a, List.getElem?_set_self (by simp; omega)]
        obtain ⟨y, hy⟩ : ∃ y, (z.2.map MV.str).getLast? = some y := by
          cases hz2 : z.2 with
          | nil => rw [hz2] at hzw; simp at hzw; omega
          | cons w ws => exact ⟨_, List.getLast?_cons⟩
        simp -dsimp [-sIf_run, e5, isLs_ref e4, pop_ref e4 hy]
        have hr2 : r < t2.length := S.src.lt (.head _)
        have hrq : q ≠ r := S.ne
        refine fin _ (.ref p, z.2.dropLast) ?_ ⟨.inr ⟨p, rfl, by omega, ?_⟩, fun w hw => Rz.2.1 w (List.dropLast_subset _ hw), by simp; have := Rz.2.2; omega⟩ ?_ (S.src.eq fun x hx => ?_) ?_
        · rw [List.getElem?_set_ne (by omega), e3, List.map_set]
        · rw [List.getElem?_set_self hps2, List.map_dropLast]
        · simp; omega
        · rw [List.mem_singleton.mp hx]
          show (List.set _ _ _)[r]? = _
          rw [List.getElem?_set_ne (by omega), List.getElem?_set_ne (by omega), List.getElem?_append_left (by omega)]
        · intro i hi hne
          rw [List.getElem?_set_ne (by omega), List.getElem?_set_ne (by omega), List.getElem?_append_left (by omega)]
      all_goals
        simp -dsimp [-sIf_run, hat, hz1, rowM]
        rw [cat_l (by simp; have := Rz.2.2; omega)]
        simp -dsimp [-sIf_run, Z.setL_ref S.sq a (by simp; omega)]
        have hr2 : r < t2.length := S.src.lt (.head _)
        have hq2 := (List.getElem?_eq_some_iff.mp S.sq).1
        have hrq : q ≠ r := S.ne
        refine fin _ (rowM (z.2 ++ [("bar" : Str)]), z.2 ++ [("bar" : Str)]) ?_ ⟨.inl rfl, fun w hw => ?_, by simp; have := hcl z mz; omega⟩ (by simp [rowM]) (S.src.eq fun x hx => ?_) ?_
        · rw [List.getElem?_set_self hq2, List.map_set]; simp [rowM]
        · rcases List.mem_append.mp hw with hw | hw
          · exact Rz.2.1 w hw
          · rw [List.mem_singleton.mp hw]; decide +kernel
        · rw [List.mem_singleton.mp hx]
          show (List.set _ _ _)[r]? = _
          rw [List.getElem?_set_ne (by omega)]
        · intro i hi hne
          rw [List.getElem?_set_ne (by omega)]
    · rintro _ t ⟨zs, e5, e6, S, hzl, rfl⟩
      clear hin hcl
      simp -dsimp [-sIf_run]
      refine WpS.cut (gInv q r rows columns) ?_ ?_
      · simp -dsimp [-sIf_run, wps_sif]
        refine ⟨fun h0 => ?_, fun h0 => ⟨zs, _, _, S, hzl, rfl⟩⟩
        refine pick_wp S.src (.head _) (by omega) (by decide) fun c t2 a b h F => ?_
        have S := S.fr F h
        simp -dsimp [-sIf_run]
        refine ⟨fun hc => ?_, fun hc => ⟨zs, _, _, S, hzl, rfl⟩⟩
        refine pick_wp S.src (.head _) (by omega) (nb31 (by omega) (by omega)) fun at_ t2 a b h F => ?_
        have S := S.fr F h
        obtain ⟨z, hz, mz⟩ := get_some (xs := zs) (i := at_.toNat) (by omega)
        have hat : ∀ t, t[q]? = some (.lst (zs.map (·.1))) → ixF t (.ref q) (.int at_) = some z.1 := fun t h => by
          rw [Z.ix_ref h, ix_m1 _ _ a, List.getElem?_map, hz]; rfl
        simp -dsimp [-sIf_run]
        refine pick_wp S.src (.head _) (by omega) (by decide) fun d t2 a4 b4 h F => ?_
        have S := S.fr F h
        have Rz := S.rs z mz
        refine wpo_any (by omega) (by simpa using b4) (fun v => ∃ w : Str, v = .str w ∧ sok w = true) ?_ ?_
        · simp
          decide +kernel
        rintro _ ⟨w, rfl, hw⟩
        simp -dsimp [-sIf_run, hat _ S.sq, Rz.ne, Rz.slice]
        rw [cat_l (by simp; have := Rz.2.2; omega)]
        simp -dsimp [-sIf_run, Z.setL_ref S.sq a (by simp; omega)]
        have hr2 : r < t2.length := S.src.lt (.head _)
        have hq2 := (List.getElem?_eq_some_iff.mp S.sq).1
        have hrq : q ≠ r := S.ne
        refine ⟨zs.set at_.toNat (rowM (w :: z.2.drop 1), w :: z.2.drop 1), _, _, ⟨?_, fun y hy => ?_, fun y hy => ?_, S.src.eq fun x hx => ?_, S.ne, by simp; exact S.few⟩, by simp [hzl], rfl⟩
        · rw [List.getElem?_set_self hq2, List.map_set]; simp [rowM]
        · rcases List.mem_or_eq_of_mem_set hy with hy | rfl
          · exact (S.rs y hy).of fun p _ np g => List.getElem?_set_ne (by omega)
          · refine ⟨.inl rfl, fun w' hw' => ?_, by simp; have := Rz.2.2; omega⟩
            rcases List.mem_cons.mp hw' with rfl | hw'
            · exact hw
            · exact Rz.2.1 w' (List.mem_of_mem_drop hw')
        · rcases List.mem_or_eq_of_mem_set hy with hy | rfl
          · exact S.nr y hy
          · simp [rowM]
        · rw [List.mem_singleton.mp hx]
          show (List.set _ _ _)[r]? = _
          rw [List.getElem?_set_ne (by omega)]
      · rintro _ t ⟨zs, e5, e6, S, hzl, rfl⟩
        subst hzl
        simp -dsimp [-sIf_run]
        refine WpS.cut (fun e u => Seal (u = t ∧ e = [some (.ref r), some (.int zs.length), some (.int columns), some wdsM, some (.ref q), e5, e6, some (gdDue zs), none, none, none, none]) ()) ?_ ?_
        · simp -dsimp [-sIf_run, wps_sif]
          refine ⟨fun c1 => ?_, fun c1 => ⟨fun c2 => ?_, fun c2 => ?_⟩⟩
          · have : zs.length < 1 := by omega
            exact sl ⟨rfl, by rw [gdDue, if_pos (.inl this)]⟩
          · have : 5 < zs.length := by omega
            exact sl ⟨rfl, by rw [gdDue, if_pos (.inr (.inl this))]⟩
          · obtain ⟨z, hz, mz⟩ := get_some (xs := zs) (i := 0) (by omega)
            have hix : ixF t (.ref q) (.int 0) = some z.1 := by
              rw [Z.ix_ref S.sq, ix_m1 _ _ (by omega), List.getElem?_map]
              show Option.map _ zs[0]? = _
              rw [hz]; rfl
            have Rz := S.rs z mz
            have hd : zs.head? = some z := by rw [← hz]; exact List.head?_eq_getElem?
            have n1 : ¬ zs.length < 1 := by omega
            have n2 : ¬ 5 < zs.length := by omega
            simp -dsimp [-sIf_run, hix, Rz.len]
            refine ⟨fun c3 => ?_, fun c3 => ?_⟩
            · exact sl ⟨rfl, by rw [gdDue, if_pos (.inr (.inr (.inl (by rw [hd]; simp only [Option.map_some]; congr 1; omega))))]⟩
            refine ⟨fun c4 => ?_, fun c4 => ?_⟩
            · exact sl ⟨rfl, by rw [gdDue, if_pos (.inr (.inr (.inr (by rw [hd]; simp; omega))))]⟩
            have n3 : ¬ (zs.length < 1 ∨ 5 < zs.length ∨ (zs.head?.map fun z => z.2.length) = some 0 ∨ (zs.head?.any fun z => decide (5 < z.2.length)) = true) := by
              simp only [hd, Option.map_some, Option.any_some, Option.some.injEq, decide_eq_true_eq]
              omega
            simp -dsimp [-sIf_run, wps_sif]
            rw [gd_comp1 S hz]
            simp -dsimp [-sIf_run]
            refine ne_rows (fun y hy => S.rs y (List.mem_filter.mp hy).1) (fun c5 => ?_) (fun c5 => ?_)
            · have n4 : ¬ (zs.all fun y => decide (some y.2.length = zs.head?.map fun z => z.2.length)) = false := by
                rw [hd]
                simp
                intro a b hab
                have := List.filter_eq_nil_iff.mp c5 (a, b) hab
                simpa using this
              simp -dsimp [-sIf_run, wps_sif]
              rw [gd_comp2 S]
              simp -dsimp [-sIf_run]
              refine ne_rows (fun y hy => S.rs y (List.mem_filter.mp hy).1) (fun c6 => ?_) (fun c6 => ?_)
              · simp -dsimp [-sIf_run]
                refine sl ⟨rfl, ?_⟩
                rw [gdDue, if_neg n3, if_neg n4, if_neg]
                simp
                intro a b hab w hw
                have := List.filter_eq_nil_iff.mp c6 (a, b) hab
                simp at this
                exact this w hw
              · simp -dsimp [-sIf_run]
                refine sl ⟨rfl, ?_⟩
                rw [gdDue, if_neg n3, if_neg n4, if_pos]
                obtain ⟨y, hy⟩ := List.exists_mem_of_ne_nil _ c6
                have := List.mem_filter.mp hy
                simp at this ⊢
                exact ⟨y.1, y.2, this.1, this.2⟩
            · simp -dsimp [-sIf_run]
              refine sl ⟨rfl, ?_⟩
              rw [gdDue, if_neg n3, if_pos]
              obtain ⟨y, hy⟩ := List.exists_mem_of_ne_nil _ c5
              have := List.mem_filter.mp hy
              rw [hd]
              simp at this ⊢
              exact ⟨y.1, y.2, this.1, this.2⟩
        · rintro _ t ⟨rfl, rfl⟩
          simp -dsimp [-sIf_run, gdDue_ne]
          exact k zs q t S
end K43

namespace K43
open PySem L2 Z
/-! ### making them -/
theorem pl_pr (p : Int × Int) (k : Nat) : plB (k + 2) (prM p) = true := by simp [prM, plB]
theorem pl_prs (ps : List (Int × Int)) {k : Nat} : plB (k + 3) (.tup (ps.map prM)) = true := pl_maps fun p _ => pl_pr p _
theorem edges_made {st : Sto} {parts : MV} {size : Int} {ps : List (Int × Int)} {Q : MV → Sto → Prop} {X : Nat → List (Nat × MV) → Sto → Prop} {ok : Sto → Prop} (hi : ∀ e, itOf (st ++ e) parts = some ⟨ps.map prM, ok⟩) (ho : ∀ e, ok (st ++ e)) (hx : parts ≠ .exc) (hl : ps.length < 1000)
    (k1 : edDue size ps = .non → Q (.ins 30 [.int size, .tup (ps.map prM)]) st) (k0 : edDue size ps ≠ .non → X 9 [(1, edDue size ps)] st) : Wp Q X (mPure (newC 30 m_Edges___init__) [.int size, parts] st) := by
  refine wp_make ?_
  unfold m_Edges___init__
  have F : fieldsOf 30 = [25, 26] := by decide
  simp -dsimp [-sIf_run, set_new, F, putN]
  have c1 := lc_all (env := [some (.ref st.length), some (.int size), some parts, none, none, none]) (s := st ++ [.ins 30 [(25, .int size)]]) (f := prM) (ys := ps) (ok := ok) (mi := miSeq (mVar 2)) (g := tgName 3) (me := mCallF fTuple (mCons (mVar 3) mNil)) (vs := [3]) prM
    (by unfold miSeq M.bnd; rw [mVar_ok rfl hx]; simp [hi]) (fun y hy a => ⟨[some (.ref st.length), some (.int size), some parts, some (prM y), none, none], by simp [wipeM], by simp [prM]⟩) (fun a => by rw [List.append_assoc]; exact ho _) (by omega) (fun y _ a => pl_frz40 (pl_pr y _))
  rw [c1]
  have sm1 : smM (.str ("size" : Str)) = true := by decide +kernel
  have sm2 : smM (.str ("pairs" : Str)) = true := by decide +kernel
  simp -dsimp [-sIf_run, set_new, F, putN, wps_sif, sm1]
  have e1 : size < 1 ∨ 12 < size → edDue size ps = .str ("size" : Str) := fun h => by rw [edDue, if_pos h]
  have e2 : ¬ (size < 1 ∨ 12 < size) → (40 < ps.length ∨ ps.filter (edBad size) ≠ []) → edDue size ps = .str ("pairs" : Str) := fun h h2 => by rw [edDue, if_neg h, if_pos h2]
  have e3 : ¬ (size < 1 ∨ 12 < size) → ¬ (40 < ps.length ∨ ps.filter (edBad size) ≠ []) → edDue size ps = .non := fun h h2 => by rw [edDue, if_neg h, if_neg h2]
  have r1 : edDue size ps = .str ("size" : Str) → X 9 [(1, .str ("size" : Str))] st := fun h => by rw [← h]; exact k0 (by rw [h]; simp)
  have r2 : edDue size ps = .str ("pairs" : Str) → X 9 [(1, .str ("pairs" : Str))] st := fun h => by rw [← h]; exact k0 (by rw [h]; simp)
  refine ⟨fun h1 => ⟨fun h2 => r1 (e1 (.inr h2)), fun h2 => ?_⟩, fun h1 => r1 (e1 (.inl h1))⟩
  have hs : ¬ (size < 1 ∨ 12 < size) := by omega
  simp -dsimp [-sIf_run, get_new, lookN, set_new, sm2]
  refine ⟨fun h3 => r2 (e2 hs (.inl (by omega))), fun h3 => ?_⟩
  have c2 := lc_all (env := [some (.ref st.length), some (.int size), some parts, none, none, none]) (s := st ++ [.ins 30 [(25, .int size), (26, .tup (ps.map prM))]]) (f := prM) (ys := ps) (ok := fun _ => True) (mi := miSeq (mFld 26 (mVar 0))) (g := tgTup 2 (tgCons (tgName 4) (tgCons (tgName 5) tgNil))) (me := mV (mChain3 cLe cLt cLt (mC (.int 0)) (mVar 4) (mVar 5) (mVar 1))) (vs := [4, 5]) (fun p => .bl (!edBad size p))
    (by simp [miSeq, M.bnd, get_new, lookN]) (fun y hy a => ⟨[some (.ref st.length), some (.int size), some parts, none, some (.int y.1), some (.int y.2)], by simp [wipeM, prM, tgTup, tgCons, tgNil], by
      by_cases q1 : 0 ≤ y.1 <;> by_cases q2 : y.1 < y.2 <;> by_cases q3 : y.2 < size <;> simp [edBad, q1, q2, q3]⟩) (fun a => trivial) (by omega) (fun y _ a => rfl)
  simp -dsimp [-sIf_run, wps_sif]
  rw [c2]
  simp -dsimp [-sIf_run, all_map, sm2]
  have hb : (ps.filter (edBad size) ≠ []) ↔ ∃ x ∈ ps, edBad size x = true := by
    rw [ne_eq, List.filter_eq_nil_iff]
    simp
  refine ⟨fun a b hab hh => r2 (e2 hs (.inr (hb.mpr ⟨(a, b), hab, hh⟩))), fun hall => ?_⟩
  rw [frz_new (by simp [F]) (by
    intro v hv
    simp at hv
    rcases hv with rfl | rfl
    · rfl
    · exact pl_frz39 (pl_prs ps))]
  exact k1 (e3 hs fun z => by
    rcases z with z | z
    · omega
    · obtain ⟨x, hx, hh⟩ := hb.mp z
      have := hall x.1 x.2 hx
      rw [hh] at this; cases this)
/-! bodies -/
theorem pl_b6t (ps : List B6) {k : Nat} : plB (k + 3) (.tup (ps.map b6)) = true := pl_maps fun p _ => pl_b6 p _
theorem fits_ok {s : Sto} {size : Int} {p : B6} : m_ufits [b6 p, .int size] s = .ok (.bl (bdFit size p)) s := by
  have q : Wp (fun v t => v = .bl (bdFit size p) ∧ t = s) noX (m_ufits [b6 p, .int size] s) := by
    unfold m_ufits
    simp -dsimp [-sIf_run, b6, slF, cutM]
    refine ⟨fun h1 => ⟨fun h2 => ⟨fun h3 => ⟨fun h4 => ?_, fun h4 => ?_⟩, fun h3 => ?_⟩, fun h2 => ?_⟩, fun h1 => ?_⟩
    · by_cases h5 : p.a = p.b
      · refine .inl ⟨h5, ?_⟩
        unfold bdFit; apply decide_eq_false; omega
      · refine .inr ⟨h5, ?_⟩
        rw [show (1 : Int) = ((1 : Nat) : Int) from rfl]
        refine wpo_ne (by simp [Pl, plB, HT.sIx]) (by simp [Pl, plB, HT.sIx]) (fun e => ?_) (fun e => ?_)
        · simp [HT.sIx] at e
          simp -dsimp [-sIf_run]
          unfold bdFit; apply decide_eq_false; omega
        · simp [HT.sIx] at e
          simp -dsimp [-sIf_run]
          unfold bdFit; apply decide_eq_true
          refine ⟨h1, h2, h3, h4, h5, fun z => e z.1 z.2⟩
    all_goals (unfold bdFit; apply decide_eq_false; omega)
  obtain ⟨v, t, e, rfl, rfl⟩ := q.out
  exact e
theorem bodies_made {st : Sto} {parts : MV} {size : Int} {ps : List B6} {Q : MV → Sto → Prop} {X : Nat → List (Nat × MV) → Sto → Prop} {ok : Sto → Prop} (hi : ∀ e, itOf (st ++ e) parts = some ⟨ps.map b6, ok⟩) (ho : ∀ e, ok (st ++ e)) (hx : parts ≠ .exc) (hl : ps.length < 1000)
    (k1 : bdDue size ps.length ps = .non → Q (.ins 31 [.int size, .tup (ps.map b6)]) st) (k0 : bdDue size ps.length ps ≠ .non → X 10 [(1, bdDue size ps.length ps)] st) : Wp Q X (mPure (newC 31 m_Bodies___init__) [.int size, parts] st) := by
  refine wp_make ?_
  unfold m_Bodies___init__
  have F : fieldsOf 31 = [25, 5] := by decide
  simp -dsimp [-sIf_run, set_new, F, putN]
  have c1 := lc_all (env := [some (.ref st.length), some (.int size), some parts, none]) (s := st ++ [.ins 31 [(25, .int size)]]) (f := b6) (ys := ps) (ok := ok) (mi := miSeq (mVar 2)) (g := tgName 3) (me := mCallF fTuple (mCons (mVar 3) mNil)) (vs := [3]) b6
    (by unfold miSeq M.bnd; rw [mVar_ok rfl hx]; simp [hi]) (fun y hy a => ⟨[some (.ref st.length), some (.int size), some parts, some (b6 y)], by simp [wipeM], by simp [b6]⟩) (fun a => by rw [List.append_assoc]; exact ho _) (by omega) (fun y _ a => pl_frz40 (pl_b6 y _))
  rw [c1]
  have sm1 : smM (.str ("size" : Str)) = true := by decide +kernel
  have sm2 : smM (.str ("rods" : Str)) = true := by decide +kernel
  simp -dsimp [-sIf_run, set_new, F, putN, wps_sif, sm1]
  have e1 : size < 1 ∨ 7 < size → bdDue size ps.length ps = .str ("size" : Str) := fun h => by rw [bdDue, if_pos h]
  have e2 : ¬ (size < 1 ∨ 7 < size) → (30 < ps.length ∨ ¬ ps.all (bdFit size) = true) → bdDue size ps.length ps = .str ("rods" : Str) := fun h h2 => by
    rw [bdDue, if_neg h]
    by_cases h3 : 30 < ps.length
    · rw [if_pos h3]
    · rw [if_neg h3, if_neg (h2.resolve_left h3)]
  have e3 : ¬ (size < 1 ∨ 7 < size) → ¬ 30 < ps.length → ps.all (bdFit size) = true → bdDue size ps.length ps = .non := fun h h2 h3 => by rw [bdDue, if_neg h, if_neg h2, if_pos h3]
  have r1 : bdDue size ps.length ps = .str ("size" : Str) → X 10 [(1, .str ("size" : Str))] st := fun h => by rw [← h]; exact k0 (by rw [h]; simp)
  have r2 : bdDue size ps.length ps = .str ("rods" : Str) → X 10 [(1, .str ("rods" : Str))] st := fun h => by rw [← h]; exact k0 (by rw [h]; simp)
  refine ⟨fun h1 => ⟨fun h2 => r1 (e1 (.inr h2)), fun h2 => ?_⟩, fun h1 => r1 (e1 (.inl h1))⟩
  have hs : ¬ (size < 1 ∨ 7 < size) := by omega
  simp -dsimp [-sIf_run, get_new, lookN, set_new, sm2, wps_sif]
  refine ⟨fun h3 => r2 (e2 hs (.inl (by omega))), fun h3 => ?_⟩
  have c2 := lc_all (env := [some (.ref st.length), some (.int size), some parts, none]) (s := st ++ [.ins 31 [(25, .int size), (5, .tup (ps.map b6))]]) (f := b6) (ys := ps) (ok := fun _ => True) (mi := miSeq (mFld 5 (mVar 0))) (g := tgName 3) (me := mCall m_ufits (mCons (mVar 3) (mCons (mVar 1) mNil))) (vs := [3]) (fun p => .bl (bdFit size p))
    (by simp [miSeq, M.bnd, get_new, lookN]) (fun y hy a => ⟨[some (.ref st.length), some (.int size), some parts, some (b6 y)], by simp [wipeM], by
      rw [mCall_run, mCons_run, mVar_ok rfl (b6_ne y)]
      simp [fits_ok]⟩) (fun a => trivial) (by omega) (fun y _ a => rfl)
  rw [c2]
  simp -dsimp [-sIf_run, all_map, sm2]
  refine ⟨fun x hx hh => r2 (e2 hs (.inr fun z => by rw [List.all_eq_true] at z; rw [z x hx] at hh; cases hh)), fun hall => ?_⟩
  rw [frz_new (by simp [F]) (by
    intro v hv
    simp at hv
    rcases hv with rfl | rfl
    · rfl
    · exact pl_frz39 (pl_b6t ps))]
  exact k1 (e3 hs (by omega) (List.all_eq_true.mpr hall))
/-! grids -/
theorem words_eq : gc_WORDS.map Gc.m = wds.map .str := rfl
def rowT (z : MV × List Str) : MV := .tup (z.2.map .str)
theorem pl_rowT {z : MV × List Str} (h : ∀ w ∈ z.2, sok w = true) {k : Nat} : plB (k + 2) (rowT z) = true := pl_maps fun w hw => by simpa [plB] using h w hw
theorem rowT_ne (z : MV × List Str) : rowT z ≠ .exc := by simp [rowT]
open Classical in
theorem in_wds {s : Sto} {w : Str} (h : sok w = true) : cIn s (.str w) (.tup (gc_WORDS.map Gc.m)) = some (decide (w ∈ wds)) := by
  rw [in_pl (ys := wds.map .str) rfl (by simpa [Pl, plB] using h) fun z hz => by
    obtain ⟨x, hx, rfl⟩ := List.mem_map.mp hz
    have : ∀ x ∈ wds, sok x = true := by decide +kernel
    simpa [Pl, plB] using this x hx]
  have e : (MV.str w ∈ wds.map MV.str) ↔ w ∈ wds := by
    rw [List.mem_map]
    exact ⟨fun ⟨a, ha, e⟩ => by cases e; exact ha, fun h => ⟨w, h, rfl⟩⟩
  by_cases hw : w ∈ wds
  · have := e.mpr hw
    simp [this, hw]
  · have : ¬ (MV.str w ∈ wds.map MV.str) := fun z => hw (e.mp z)
    simp [this, hw]
open Classical in
theorem grid_made {st : Sto} {parts : MV} {zs : List (MV × List Str)} {Q : MV → Sto → Prop} {X : Nat → List (Nat × MV) → Sto → Prop} {ok : Sto → Prop} (hi : ∀ e, itOf (st ++ e) parts = some ⟨zs.map (·.1), ok⟩) (ho : ∀ e, ok (st ++ e)) (hx : parts ≠ .exc)
    (hz : ∀ z ∈ zs, z.1 ≠ .exc ∧ (∀ e, fTuple (st ++ e) [z.1] = some (rowT z)) ∧ (∀ w ∈ z.2, sok w = true) ∧ z.2.length < 200) (hl : zs.length < 100)
    (k1 : gdDue zs = .non → Q (.ins 32 [.tup (zs.map rowT)]) st) (k0 : gdDue zs ≠ .non → X 11 [(1, gdDue zs)] st) : Wp Q X (mPure (newC 32 m_Grid___init__) [parts] st) := by
  refine wp_make ?_
  unfold m_Grid___init__
  have F : fieldsOf 32 = [27] := by decide
  simp -dsimp [-sIf_run, set_new, F, putN]
  have c1 := lc_all (env := [some (.ref st.length), some parts, none, none]) (s := st ++ [.ins 32 []]) (f := fun z : MV × List Str => z.1) (ys := zs) (ok := ok) (mi := miSeq (mVar 1)) (g := tgName 2) (me := mCallF fTuple (mCons (mVar 2) mNil)) (vs := [2]) rowT
    (by unfold miSeq M.bnd; rw [mVar_ok rfl hx]; simp [hi]) (fun y hy a => ⟨[some (.ref st.length), some parts, some y.1, none], by simp [wipeM], by
      rw [mCallF_run, mCons_run, mVar_ok rfl (hz y hy).1]
      simp [(hz y hy).2.1]⟩) (fun a => by rw [List.append_assoc]; exact ho _) (by omega) (fun y hy a => pl_frz40 (pl_rowT (hz y hy).2.2.1))
  rw [c1]
  have sm1 : smM (.str ("size" : Str)) = true := by decide +kernel
  have sm2 : smM (.str ("squares" : Str)) = true := by decide +kernel
  have r1 : gdDue zs = .str ("size" : Str) → X 11 [(1, .str ("size" : Str))] st := fun h => by rw [← h]; exact k0 (by rw [h]; simp)
  have r2 : gdDue zs = .str ("squares" : Str) → X 11 [(1, .str ("squares" : Str))] st := fun h => by rw [← h]; exact k0 (by rw [h]; simp)
  simp -dsimp [-sIf_run, set_new, F, putN, wps_sif, sm1, get_new, lookN]
  refine ⟨fun h1 => ⟨fun h2 => ?_, fun h2 => ?_⟩, fun h1 => ?_⟩
  · exact r1 (by rw [gdDue, if_pos (.inr (.inl (by omega)))])
  · obtain ⟨z, hz0, mz⟩ := get_some (xs := zs) (i := 0) (by omega)
    have hd : zs.head? = some z := by rw [← hz0]; exact List.head?_eq_getElem?
    have hix : ∀ s : Sto, ixF s (.tup (zs.map rowT)) (.int 0) = some (rowT z) := fun s => by
      rw [Z.ix_tup, ix_m1 _ _ (by omega), List.getElem?_map]
      show Option.map _ zs[0]? = _
      rw [hz0]; rfl
    have hlen : ∀ (s : Sto) (z : MV × List Str), fLen s [rowT z] = some (.int z.2.length) := fun s z => by simp [rowT]
    simp -dsimp [-sIf_run, set_new, F, putN, wps_sif, sm1, get_new, lookN, hix, hlen]
    refine ⟨fun h3 => ⟨fun h4 => ?_, fun h4 => ?_⟩, fun h3 => ?_⟩
    · exact r1 (by rw [gdDue, if_pos (.inr (.inr (.inr (by rw [hd]; simp; omega))))])
    · have n3 : ¬ (zs.length < 1 ∨ 5 < zs.length ∨ (zs.head?.map fun z => z.2.length) = some 0 ∨ (zs.head?.any fun z => decide (5 < z.2.length)) = true) := by
        simp only [hd, Option.map_some, Option.any_some, Option.some.injEq, decide_eq_true_eq]
        omega
      have c2 := lc_allW (env := [some (.ref st.length), some parts, none, none]) (s := st ++ [.ins 32 [(27, .tup (zs.map rowT))]]) (f := rowT) (ys := zs) (ok := fun _ => True) (mi := miSeq (mFld 27 (mVar 0))) (g := tgName 2) (me := mV (mCmp cEq (mCallF fLen (mCons (mVar 2) mNil)) (mCallF fLen (mCons (mIx (mFld 27 (mVar 0)) (mC (.int 0))) mNil)))) (vs := [2]) (fun y => .bl (decide (y.2.length = z.2.length)))
        (by simp [miSeq, M.bnd, get_new, lookN]) (fun y hy a => by
          have g : fldOf (st ++ [Cell.ins 32 [(27, .tup (zs.map rowT))], Cell.lst a]) 27 (.ref st.length) = some (.tup (zs.map rowT)) := by
            simp [fldOf, lookN]
          simp -dsimp [-sIf_run, wipeM, rowT_ne, hlen, g, hix, Int.ofNat_inj]) (fun a => trivial) (by omega) (fun y _ a => rfl)
      rw [c2]
      simp -dsimp [-sIf_run, all_map, sm1]
      have n5 : (∀ (a : MV) (b : List Str), (a, b) ∈ zs → b.length = z.2.length) → ¬ (zs.all fun y => decide (some y.2.length = zs.head?.map fun z => z.2.length)) = false := fun hall => by
        rw [hd]
        simp
        exact hall
      refine ⟨fun x y hxy hne => r1 (by
        rw [gdDue, if_neg n3, if_pos]
        rw [hd]
        simp
        exact ⟨x, y, hxy, hne⟩), fun hall => ?_⟩
      have n4 := n5 hall
      simp -dsimp [-sIf_run, get_new, lookN]
      refine wp_forM (fun d e t => Seal (∃ e2 e3, t = st ++ [.ins 32 [(27, .tup (zs.map rowT))]] ∧ (∀ y ∈ d, ∀ w ∈ y.2, w ∈ wds) ∧ e = [some (.ref st.length), some parts, e2, e3]) ()) ⟨_, _, rfl, (fun _ h => by cases h), rfl⟩ (fun _ _ _ _ => trivial) ?_ ?_
      · rintro d x rest _ _ hdx ⟨e2, e3, rfl, hdd, rfl⟩
        simp -dsimp [-sIf_run, wps_sif, rowT_ne]
        have mx : x ∈ zs := by rw [hdx]; simp
        have c3 := lc_allW (env := [some (.ref st.length), some parts, some (rowT x), e3]) (s := st ++ [.ins 32 [(27, .tup (zs.map rowT))]]) (f := fun w : Str => MV.str w) (ys := x.2) (ok := fun _ => True) (mi := miSeq (mVar 2)) (g := tgName 3) (me := mV (mCmp cIn (mVar 3) (mC (.tup (gc_WORDS.map Gc.m))))) (vs := [3]) (fun w => .bl (decide (w ∈ wds)))
          (by unfold miSeq M.bnd; rw [mVar_ok rfl (rowT_ne x)]; rfl) (fun w hw a => by
            simp -dsimp [-sIf_run, wipeM, in_wds ((hz x mx).2.2.1 w hw)]) (fun a => trivial) (by have := (hz x mx).2.2.2; omega) (fun y _ a => rfl)
        rw [c3]
        simp -dsimp [-sIf_run, all_map, sm2]
        refine ⟨fun w hw hnw => r2 ?_, fun hw => sl ⟨_, _, rfl, fun y hy => ?_, rfl⟩⟩
        · rw [gdDue, if_neg n3, if_neg n4, if_pos]
          simp
          exact ⟨x.1, x.2, mx, w, hw, hnw⟩
        · rcases List.mem_append.mp hy with hy | hy
          · exact hdd y hy
          · rw [List.mem_singleton.mp hy]; exact hw
      · rintro _ _ ⟨e2, e3, rfl, hdd, rfl⟩
        simp -dsimp [-sIf_run]
        rw [frz_new (by simp [F]) (by
          intro v hv
          simp at hv
          rw [hv]
          exact pl_frz39 (pl_maps fun y hy => pl_rowT (hz y hy).2.2.1))]
        refine k1 ?_
        rw [gdDue, if_neg n3, if_neg n4, if_neg]
        simp
        exact fun a b hab w hw => hdd (a, b) hab w hw
    · exact r1 (by rw [gdDue, if_pos (.inr (.inr (.inl (by rw [hd]; simp only [Option.map_some]; congr 1; omega))))])
  · exact r1 (by rw [gdDue, if_pos (.inl (by omega))])
end K43

namespace K43
open PySem L2 Z
section
variable {st : Sto} {parts : MV} {size : Int} {ps : List (Int × Int)} {bs : List B6} {zs : List (MV × List Str)} {Q : MV → Sto → Prop} {X : Nat → List (Nat × MV) → Sto → Prop} {ok : Sto → Prop}
theorem made0 (hi : ∀ e, itOf (st ++ e) parts = some ⟨ps.map prM, ok⟩) (ho : ∀ e, ok (st ++ e)) (hx : parts ≠ .exc) (hl : ps.length < 1000)
    (k1 : edDue size ps = .non → Q (.ins 30 [.int size, .tup (ps.map prM)]) st) (k0 : edDue size ps ≠ .non → X 9 [(1, edDue size ps)] st) : Wp Q X (m_ulaw_made [.int 0, .int size, parts] st) := by
  unfold m_ulaw_made
  simp -dsimp [-sIf_run, wps_sif, hx]
  exact edges_made hi ho hx hl k1 k0
theorem made1 (hi : ∀ e, itOf (st ++ e) parts = some ⟨bs.map b6, ok⟩) (ho : ∀ e, ok (st ++ e)) (hx : parts ≠ .exc) (hl : bs.length < 1000)
    (k1 : bdDue size bs.length bs = .non → Q (.ins 31 [.int size, .tup (bs.map b6)]) st) (k0 : bdDue size bs.length bs ≠ .non → X 10 [(1, bdDue size bs.length bs)] st) : Wp Q X (m_ulaw_made [.int 1, .int size, parts] st) := by
  unfold m_ulaw_made
  simp -dsimp [-sIf_run, wps_sif, hx]
  exact bodies_made hi ho hx hl k1 k0
theorem made2 (hi : ∀ e, itOf (st ++ e) parts = some ⟨zs.map (·.1), ok⟩) (ho : ∀ e, ok (st ++ e)) (hx : parts ≠ .exc)
    (hz : ∀ z ∈ zs, z.1 ≠ .exc ∧ (∀ e, fTuple (st ++ e) [z.1] = some (rowT z)) ∧ (∀ w ∈ z.2, sok w = true) ∧ z.2.length < 200) (hl : zs.length < 100)
    (k1 : gdDue zs = .non → Q (.ins 32 [.tup (zs.map rowT)]) st) (k0 : gdDue zs ≠ .non → X 11 [(1, gdDue zs)] st) : Wp Q X (m_ulaw_made [.int 2, .int size, parts] st) := by
  unfold m_ulaw_made
  simp -dsimp [-sIf_run, wps_sif, hx]
  exact grid_made hi ho hx hz hl k1 k0
theorem edDue_ne (size : Int) (ps : List (Int × Int)) : (edDue size ps = .exc) = False := by
  unfold edDue
  repeat' split
  all_goals simp
theorem pl_due (size : Int) (ps : List (Int × Int)) {k : Nat} {x : Str} (h : sok x = true := by decide +kernel) : plB (k + 3) (.lst [edDue size ps, .lst [.str x]]) = true := by
  have h1 : sok ("size" : Str) = true := by decide +kernel
  have h2 : sok ("pairs" : Str) = true := by decide +kernel
  unfold edDue
  repeat' split
  all_goals simp [plB, h, h1, h2]
def bname (k : Nat) : Str := if k = 9 then "BadEdges" else if k = 10 then "BadBodies" else "BadGrid"
theorem names_wp {k : Nat} {fs : List (Nat × MV)} (hk : k = 9 ∨ k = 10 ∨ k = 11) (h : Q (.ref st.length) (st ++ [.lst [.str (bname k)]])) : Wp Q X (m_ulaw_names k fs st) := by
  unfold m_ulaw_names
  rw [wp_mFunX]
  have e0 : (st ++ [Cell.lst []])[st.length]? = some (.lst []) := by simp
  have e1 : ∀ x, (st ++ [Cell.lst [x]])[st.length]? = some (.lst [x]) := fun x => by simp
  rcases hk with rfl | rfl | rfl
  all_goals
    simp -dsimp [-sIf_run, wps_sif, subX, isLs_ref e0, append_ref e0]
    exact h
theorem told0 (hi : ∀ e, itOf (st ++ e) parts = some ⟨ps.map prM, ok⟩) (ho : ∀ e, ok (st ++ e)) (hx : parts ≠ .exc) (hl : ps.length < 1000)
    (k1 : edDue size ps = .non → Q (.tup [.str ("made" : Str), .ins 30 [.int size, .tup (ps.map prM)]]) st) (k0 : edDue size ps ≠ .non → Q (.tup [.str ("refused" : Str), .lst [edDue size ps, .ref st.length]]) (st ++ [.lst [.str (bname 9)]])) : Wp Q X (m_ulaw_told [.int 0, .int size, parts] st) := by
  unfold m_ulaw_told
  simp -dsimp [-sIf_run, hx]
  refine made0 hi ho hx hl (fun h => ?_) (fun h => ?_)
  · simp -dsimp [-sIf_run]
    exact k1 h
  · simp -dsimp [-sIf_run, WpH, subX, lookN]
    exact names_wp (.inl rfl) (by simp -dsimp [-sIf_run]; exact k0 h)
theorem told1 (hi : ∀ e, itOf (st ++ e) parts = some ⟨bs.map b6, ok⟩) (ho : ∀ e, ok (st ++ e)) (hx : parts ≠ .exc) (hl : bs.length < 1000)
    (k1 : bdDue size bs.length bs = .non → Q (.tup [.str ("made" : Str), .ins 31 [.int size, .tup (bs.map b6)]]) st) (k0 : bdDue size bs.length bs ≠ .non → Q (.tup [.str ("refused" : Str), .lst [bdDue size bs.length bs, .ref st.length]]) (st ++ [.lst [.str (bname 10)]])) : Wp Q X (m_ulaw_told [.int 1, .int size, parts] st) := by
  unfold m_ulaw_told
  simp -dsimp [-sIf_run, hx]
  refine made1 hi ho hx hl (fun h => ?_) (fun h => ?_)
  · simp -dsimp [-sIf_run]
    exact k1 h
  · simp -dsimp [-sIf_run, WpH, subX, lookN]
    exact names_wp (.inr (.inl rfl)) (by simp -dsimp [-sIf_run]; exact k0 h)
theorem told2 (hi : ∀ e, itOf (st ++ e) parts = some ⟨zs.map (·.1), ok⟩) (ho : ∀ e, ok (st ++ e)) (hx : parts ≠ .exc)
    (hz : ∀ z ∈ zs, z.1 ≠ .exc ∧ (∀ e, fTuple (st ++ e) [z.1] = some (rowT z)) ∧ (∀ w ∈ z.2, sok w = true) ∧ z.2.length < 200) (hl : zs.length < 100)
    (k1 : gdDue zs = .non → Q (.tup [.str ("made" : Str), .ins 32 [.tup (zs.map rowT)]]) st) (k0 : gdDue zs ≠ .non → Q (.tup [.str ("refused" : Str), .lst [gdDue zs, .ref st.length]]) (st ++ [.lst [.str (bname 11)]])) : Wp Q X (m_ulaw_told [.int 2, .int size, parts] st) := by
  unfold m_ulaw_told
  simp -dsimp [-sIf_run, hx]
  refine made2 hi ho hx hz hl (fun h => ?_) (fun h => ?_)
  · simp -dsimp [-sIf_run]
    exact k1 h
  · simp -dsimp [-sIf_run, WpH, subX, lookN]
    exact names_wp (.inr (.inr rfl)) (by simp -dsimp [-sIf_run]; exact k0 h)
end
/-! ### right: edges -/
abbrev ins0 (size : Int) (ps : List (Int × Int)) : MV := .ins 30 [.int size, .tup (ps.map prM)]
theorem prM_inj {a b : Int × Int} (h : prM a = prM b) : a = b := by
  obtain ⟨a1, a2⟩ := a; obtain ⟨b1, b2⟩ := b
  simpa [prM] using h
theorem map_inj {α β : Type} {f : α → β} (h : ∀ a b, f a = f b → a = b) : ∀ {xs ys : List α}, xs.map f = ys.map f → xs = ys
  | [], [], _ => rfl
  | [], y :: ys, e => by simp at e
  | x :: xs, [], e => by simp at e
  | x :: xs, y :: ys, e => by
    rw [List.map_cons, List.map_cons, List.cons.injEq] at e
    rw [h x y e.1, map_inj h e.2]
theorem eq0 {s : Sto} {a b : Int} {ps qs : List (Int × Int)} : m_Edges___eq__ [ins0 a ps, ins0 b qs] s = .ok (.bl (decide (a = b ∧ ps = qs))) s := by
  have q : Wp (fun v t => v = .bl (decide (a = b ∧ ps = qs)) ∧ t = s) noX (m_Edges___eq__ [ins0 a ps, ins0 b qs] s) := by
    unfold m_Edges___eq__
    have F : fieldsOf 30 = [25, 26] := by decide
    simp -dsimp [-sIf_run, F, zipLook]
    refine ⟨fun h => ?_, fun h => by simp [h]⟩
    refine wpo_eq (pl_prs ps) (pl_prs qs) (fun e => ?_) (fun e => ?_)
    · have : ps = qs := map_inj (fun _ _ => prM_inj) (by simpa using e)
      simp -dsimp [-sIf_run]
      exact ⟨h, this⟩
    · have : ps ≠ qs := fun z => e (by rw [z])
      simp -dsimp [-sIf_run]
      exact fun _ => this
  obtain ⟨v, t, e, rfl, rfl⟩ := q.out
  exact e
theorem has0 {s : Sto} {size : Int} {ps : List (Int × Int)} {parts : MV} (hx : parts ≠ .exc) (h : fTuple s [parts] = some (.tup (ps.map prM))) : m_ulaw_has [.int 0, ins0 size ps, .int size, parts] s = .ok (.bl true) s := by
  have q : Wp (fun v t => v = .bl true ∧ t = s) noX (m_ulaw_has [.int 0, ins0 size ps, .int size, parts] s) := by
    unfold m_ulaw_has
    have F : fieldsOf 30 = [25, 26] := by decide
    simp -dsimp [-sIf_run, wps_sif, F, zipLook, hx, h]
    refine wpo_eq (pl_prs ps) (pl_prs ps) (fun e => ?_) (fun e => absurd rfl e)
    simp -dsimp [-sIf_run]
  obtain ⟨v, t, e, rfl, rfl⟩ := q.out
  exact e
theorem ed_non {size : Int} {ps : List (Int × Int)} : edDue size ps = .non ↔ (1 ≤ size ∧ size ≤ 12) ∧ ps.length ≤ 40 ∧ ∀ p ∈ ps, 0 ≤ p.1 ∧ p.1 < p.2 ∧ p.2 < size := by
  unfold edDue
  have hb : (ps.filter (edBad size) ≠ []) ↔ ∃ x ∈ ps, edBad size x = true := by
    rw [ne_eq, List.filter_eq_nil_iff]
    simp
  have hx : ∀ p : Int × Int, edBad size p = true ↔ ¬ (0 ≤ p.1 ∧ p.1 < p.2 ∧ p.2 < size) := fun p => by
    simp only [edBad, Bool.not_eq_true', Bool.and_eq_false_iff, decide_eq_false_iff_not]
    omega
  by_cases h1 : size < 1 ∨ 12 < size
  · rw [if_pos h1]
    exact ⟨fun h => (by cases h), fun h => (by omega)⟩
  · rw [if_neg h1]
    by_cases h2 : 40 < ps.length ∨ ps.filter (edBad size) ≠ []
    · rw [if_pos h2]
      refine ⟨fun h => (by cases h), fun h => ?_⟩
      rcases h2 with h2 | h2
      · omega
      · obtain ⟨x, hx1, hx2⟩ := hb.mp h2
        exact absurd (h.2.2 x hx1) ((hx x).mp hx2)
    · rw [if_neg h2]
      refine ⟨fun _ => ⟨by omega, by omega, fun p hp => ?_⟩, fun _ => rfl⟩
      by_cases hc : 0 ≤ p.1 ∧ p.1 < p.2 ∧ p.2 < size
      · exact hc
      · exact absurd (.inr (hb.mpr ⟨p, hp, (hx p).mpr hc⟩)) h2
theorem ed_up {size : Int} {ps : List (Int × Int)} (h : edDue size ps = .non) (hs : size < 7) : edDue (size + 1) ps = .non := by
  rw [ed_non] at h ⊢
  exact ⟨by omega, h.2.1, fun p hp => by have := h.2.2 p hp; omega⟩
theorem ed_drop {size : Int} {ps : List (Int × Int)} (h : edDue size ps = .non) : edDue size ps.tail = .non := by
  rw [← List.drop_one]
  rw [ed_non] at h ⊢
  exact ⟨h.1, by simp; omega, fun p hp => h.2.2 p (List.mem_of_mem_drop hp)⟩
theorem drop_ne {α : Type} {ps : List α} (h : ps ≠ []) : ¬ ps = ps.tail := fun z => by
  rw [← List.drop_one] at z
  have := congrArg List.length z
  rw [List.length_drop] at this
  have : 0 < ps.length := List.length_pos_iff.mpr h
  omega
theorem right0 {st : Sto} {r : Nat} (h : Has st [(r, SrcC)]) : Wp (fun v _ => v = .bl true) noX (m_ulaw_right [.int 0, .ref r] st) := by
  unfold m_ulaw_right
  simp -dsimp [-sIf_run, wps_sif]
  obtain ⟨size, ps, q, t, e, _, hq, _, s1, s2, hl⟩ := edges_ok (src_of h (.head _))
  refine Wp.of e ?_
  simp -dsimp [-sIf_run, edDue_ne]
  rw [list_ref hq]
  simp -dsimp [-sIf_run, wps_sif]
  have hq2 : q < t.length := (List.getElem?_eq_some_iff.mp hq).1
  have hq' : ∀ e, (t ++ e)[q]? = some (.lst (ps.map prM)) := fun e => by rw [List.getElem?_append_left hq2]; exact hq
  have hH : ∀ e, ((t ++ [Cell.lst (ps.map prM)]) ++ e)[t.length]? = some (.lst (ps.map prM)) := fun e => by simp
  refine told0 (ps := ps) (ok := fun u => u[t.length]? = some (.lst (ps.map prM))) (fun e => it_ref (hH e)) hH (by simp) (by omega) (fun hd => ?_) (fun hd => ?_)
  · simp -dsimp [-sIf_run, wps_sif, hd, has0 (size := size) (ps := ps) (parts := .ref q) (by simp) (tuple_ref (hq' _))]
    have hlen : (ps.map prM).length < 100000 := by simp; omega
    have hset : (t ++ [Cell.lst (ps.map prM)]).set t.length (.lst (ps.map prM ++ [.tup [.int 0, .int 1]])) = t ++ [Cell.lst (ps.map prM ++ [.tup [.int 0, .int 1]])] := by simp
    refine ⟨by have := isLs_ref (hH []); simpa using this, ?_⟩
    have ha := append_ref (y := .tup [.int 0, .int 1]) (hH []) hlen
    rw [List.append_nil, hset] at ha
    rw [ha]
    generalize hu : t ++ [Cell.lst (ps.map prM ++ [.tup [.int 0, .int 1]])] = u
    have hqu : ∀ e, (u ++ e)[q]? = some (.lst (ps.map prM)) := fun e => by rw [← hu, List.append_assoc]; exact hq' _
    have hqu0 : u[q]? = some (.lst (ps.map prM)) := by have := hqu []; simpa using this
    simp -dsimp [-sIf_run]
    rw [lc_allW (f := prM) (ys := ps) (ok := fun w => w[q]? = some (.lst (ps.map prM))) prM (by simp [miSeq, M.bnd, it_ref hqu0]) (fun y hy a => by simp -dsimp [-sIf_run, wipeM, prM]) (fun a => hqu _) (by omega) (fun y _ a => pl_frz40 (pl_pr y _))]
    simp -dsimp [-sIf_run]
    refine made0 (ps := ps) (ok := fun _ => True) (fun _ => rfl) (fun _ => trivial) (by simp) (by omega) (fun _ => ?_) (fun z => absurd hd z)
    simp -dsimp [-sIf_run, wps_sif, has0 (size := size) (ps := ps) (parts := .ref q) (s := u) (by simp) (tuple_ref hqu0), eq0]
    intro hs7
    rw [list_ref hqu0]
    simp -dsimp [-sIf_run]
    refine made0 (ps := ps) (ok := fun _ => True) (fun _ => rfl) (fun _ => trivial) (by simp) (by omega) (fun _ => ?_) (fun z => absurd (ed_up hd hs7) z)
    simp -dsimp [-sIf_run, eq0]
    refine ⟨fun z => absurd z (by omega), fun _ => ?_⟩
    refine wpo_neR hqu0 (pl_mapsL fun p _ => pl_pr p _) rfl (fun e => ?_) (fun e => ?_)
    · simp -dsimp [-sIf_run, wps_sif]
    · simp -dsimp [-sIf_run]
      rw [list_ref hqu0]
      simp -dsimp [-sIf_run, cut_loI, ← List.map_tail]
      refine made0 (ps := ps.tail) (ok := fun _ => True) (fun _ => rfl) (fun _ => trivial) (by simp) (by simp; omega) (fun _ => ?_) (fun z => absurd (ed_drop hd) z)
      have hne : ¬ ps = ps.tail := drop_ne fun z2 => e (by rw [z2]; rfl)
      generalize ps.tail = qs at hne ⊢
      simp -dsimp [-sIf_run, wps_sif, eq0, hne]
  · have hn : isN (edDue size ps) = false := by
      cases e : edDue size ps <;> first | rfl | exact absurd e hd
    simp -dsimp [-sIf_run, wps_sif, edDue_ne, hn]
    refine wpo_eqP (x' := .lst [edDue size ps, .lst [.str (bname 9)]]) (y' := .lst [edDue size ps, .lst [.str (bname 9)]]) (pl_due size ps) (pl_due size ps) (toPy_l2 rfl (toPy_refK (by simp))) rfl rfl (fun _ => rfl) (fun z => absurd rfl z)
/-! ### right: bodies -/
abbrev ins1 (size : Int) (ps : List B6) : MV := .ins 31 [.int size, .tup (ps.map b6)]
theorem b6_inj {a b : B6} (h : b6 a = b6 b) : a = b := by
  cases a; cases b
  simpa [b6] using h
theorem eq1 {s : Sto} {a b : Int} {ps qs : List B6} : m_Bodies___eq__ [ins1 a ps, ins1 b qs] s = .ok (.bl (decide (a = b ∧ ps = qs))) s := by
  have q : Wp (fun v t => v = .bl (decide (a = b ∧ ps = qs)) ∧ t = s) noX (m_Bodies___eq__ [ins1 a ps, ins1 b qs] s) := by
    unfold m_Bodies___eq__
    have F : fieldsOf 31 = [25, 5] := by decide
    simp -dsimp [-sIf_run, F, zipLook]
    refine ⟨fun h => ?_, fun h => by simp [h]⟩
    refine wpo_eq (pl_b6t ps) (pl_b6t qs) (fun e => ?_) (fun e => ?_)
    · have : ps = qs := map_inj (fun _ _ => b6_inj) (by simpa using e)
      simp -dsimp [-sIf_run]
      exact ⟨h, this⟩
    · have : ps ≠ qs := fun z => e (by rw [z])
      simp -dsimp [-sIf_run]
      exact fun _ => this
  obtain ⟨v, t, e, rfl, rfl⟩ := q.out
  exact e
theorem has1 {s : Sto} {size : Int} {ps : List B6} {parts : MV} (hx : parts ≠ .exc) (h : fTuple s [parts] = some (.tup (ps.map b6))) : m_ulaw_has [.int 1, ins1 size ps, .int size, parts] s = .ok (.bl true) s := by
  have q : Wp (fun v t => v = .bl true ∧ t = s) noX (m_ulaw_has [.int 1, ins1 size ps, .int size, parts] s) := by
    unfold m_ulaw_has
    have F : fieldsOf 31 = [25, 5] := by decide
    simp -dsimp [-sIf_run, wps_sif, F, zipLook, hx, h]
    refine wpo_eq (pl_b6t ps) (pl_b6t ps) (fun e => ?_) (fun e => absurd rfl e)
    simp -dsimp [-sIf_run]
  obtain ⟨v, t, e, rfl, rfl⟩ := q.out
  exact e
theorem bd_non {size : Int} {n : Nat} {ps : List B6} : bdDue size n ps = .non ↔ (1 ≤ size ∧ size ≤ 7) ∧ n ≤ 30 ∧ ∀ p ∈ ps, bdFit size p = true := by
  unfold bdDue
  by_cases h1 : size < 1 ∨ 7 < size
  · rw [if_pos h1]
    exact ⟨fun h => (by cases h), fun h => (by omega)⟩
  · rw [if_neg h1]
    by_cases h2 : 30 < n
    · rw [if_pos h2]
      exact ⟨fun h => (by cases h), fun h => (by omega)⟩
    · rw [if_neg h2]
      by_cases h3 : ps.all (bdFit size) = true
      · rw [if_pos h3]
        exact ⟨fun _ => ⟨by omega, by omega, List.all_eq_true.mp h3⟩, fun _ => rfl⟩
      · rw [if_neg h3]
        exact ⟨fun h => (by cases h), fun h => absurd (List.all_eq_true.mpr h.2.2) h3⟩
theorem bd_up {size : Int} {n : Nat} {ps : List B6} (h : bdDue size n ps = .non) (hs : size < 7) : bdDue (size + 1) n ps = .non := by
  rw [bd_non] at h ⊢
  refine ⟨by omega, h.2.1, fun p hp => ?_⟩
  have := of_decide_eq_true (h.2.2 p hp)
  unfold bdFit
  exact decide_eq_true ⟨this.1, by omega, this.2.2.1, by omega, this.2.2.2.2⟩
theorem bd_drop {size : Int} {ps : List B6} (h : bdDue size ps.length ps = .non) : bdDue size ps.tail.length ps.tail = .non := by
  rw [← List.drop_one]
  rw [bd_non] at h ⊢
  exact ⟨h.1, by simp; omega, fun p hp => h.2.2 p (List.mem_of_mem_drop hp)⟩
theorem pl_dueB (size : Int) (n : Nat) (ps : List B6) {k : Nat} {x : Str} (h : sok x = true := by decide +kernel) : plB (k + 3) (.lst [bdDue size n ps, .lst [.str x]]) = true := by
  have h1 : sok ("size" : Str) = true := by decide +kernel
  have h2 : sok ("rods" : Str) = true := by decide +kernel
  unfold bdDue
  repeat' split
  all_goals simp [plB, h, h1, h2]
theorem right1 {st : Sto} {r : Nat} (h : Has st [(r, SrcC)]) : Wp (fun v _ => v = .bl true) noX (m_ulaw_right [.int 1, .ref r] st) := by
  unfold m_ulaw_right
  simp -dsimp [-sIf_run, wps_sif]
  refine (bodies_wp h fun size ps q t hq s1 s2 hl => (?_ : _)).imp fun _ _ z => z
  simp -dsimp [-sIf_run, bdDue_ne]
  rw [list_ref hq]
  simp -dsimp [-sIf_run, wps_sif]
  have hq2 : q < t.length := (List.getElem?_eq_some_iff.mp hq).1
  have hq' : ∀ e, (t ++ e)[q]? = some (.lst (ps.map b6)) := fun e => by rw [List.getElem?_append_left hq2]; exact hq
  have hH : ∀ e, ((t ++ [Cell.lst (ps.map b6)]) ++ e)[t.length]? = some (.lst (ps.map b6)) := fun e => by simp
  refine told1 (bs := ps) (ok := fun u => u[t.length]? = some (.lst (ps.map b6))) (fun e => it_ref (hH e)) hH (by simp) (by omega) (fun hd => ?_) (fun hd => ?_)
  · simp -dsimp [-sIf_run, wps_sif, hd, has1 (size := size) (ps := ps) (parts := .ref q) (by simp) (tuple_ref (hq' _))]
    have hlen : (ps.map b6).length < 100000 := by simp; omega
    have hset : (t ++ [Cell.lst (ps.map b6)]).set t.length (.lst (ps.map b6 ++ [.tup [.int 0, .int 1]])) = t ++ [Cell.lst (ps.map b6 ++ [.tup [.int 0, .int 1]])] := by simp
    refine ⟨by have := isLs_ref (hH []); simpa using this, ?_⟩
    have ha := append_ref (y := .tup [.int 0, .int 1]) (hH []) hlen
    rw [List.append_nil, hset] at ha
    rw [ha]
    generalize hu : t ++ [Cell.lst (ps.map b6 ++ [.tup [.int 0, .int 1]])] = u
    have hqu : ∀ e, (u ++ e)[q]? = some (.lst (ps.map b6)) := fun e => by rw [← hu, List.append_assoc]; exact hq' _
    have hqu0 : u[q]? = some (.lst (ps.map b6)) := by have := hqu []; simpa using this
    simp -dsimp [-sIf_run]
    rw [lc_allW (f := b6) (ys := ps) (ok := fun w => w[q]? = some (.lst (ps.map b6))) b6 (by simp [miSeq, M.bnd, it_ref hqu0]) (fun y hy a => by simp -dsimp [-sIf_run, wipeM, b6]) (fun a => hqu _) (by omega) (fun y _ a => pl_frz40 (pl_b6 y _))]
    simp -dsimp [-sIf_run]
    refine made1 (bs := ps) (ok := fun _ => True) (fun _ => rfl) (fun _ => trivial) (by simp) (by omega) (fun _ => ?_) (fun z => absurd hd z)
    simp -dsimp [-sIf_run, wps_sif, has1 (size := size) (ps := ps) (parts := .ref q) (s := u) (by simp) (tuple_ref hqu0), eq1]
    intro hs7
    rw [list_ref hqu0]
    simp -dsimp [-sIf_run]
    refine made1 (bs := ps) (ok := fun _ => True) (fun _ => rfl) (fun _ => trivial) (by simp) (by omega) (fun _ => ?_) (fun z => absurd (bd_up hd hs7) z)
    simp -dsimp [-sIf_run, eq1]
    refine ⟨fun z => absurd z (by omega), fun _ => ?_⟩
    refine wpo_neR hqu0 (pl_mapsL fun p _ => pl_b6 p _) rfl (fun e => ?_) (fun e => ?_)
    · simp -dsimp [-sIf_run, wps_sif]
    · simp -dsimp [-sIf_run]
      rw [list_ref hqu0]
      simp -dsimp [-sIf_run, cut_loI, ← List.map_tail]
      refine made1 (bs := ps.tail) (ok := fun _ => True) (fun _ => rfl) (fun _ => trivial) (by simp) (by simp; omega) (fun _ => ?_) (fun z => absurd (bd_drop hd) z)
      have hne : ¬ ps = ps.tail := drop_ne fun z2 => e (by rw [z2]; rfl)
      generalize ps.tail = qs at hne ⊢
      simp -dsimp [-sIf_run, wps_sif, eq1, hne]
  · have hn : isN (bdDue size ps.length ps) = false := by
      cases e : bdDue size ps.length ps <;> first | rfl | exact absurd e hd
    simp -dsimp [-sIf_run, wps_sif, bdDue_ne, hn]
    refine wpo_eqP (x' := .lst [bdDue size ps.length ps, .lst [.str (bname 10)]]) (y' := .lst [bdDue size ps.length ps, .lst [.str (bname 10)]]) (pl_dueB size ps.length ps) (pl_dueB size ps.length ps) (toPy_l2 rfl (toPy_refK (by simp))) rfl rfl (fun _ => rfl) (fun z => absurd rfl z)
end K43

namespace K43
open PySem L2 Z
/-! ### right: grids -/
abbrev Row : Type := MV × List Str
def refsOf (n : Nat) (zs : List Row) : List MV := (zs.zipIdx (n + 1)).map fun p => MV.ref p.2
def cellOf (z : Row) : Cell := .lst (z.2.map .str)
/-- a copy, row by row -/
def cpy (u : Sto) (zs : List Row) : Sto := u ++ Cell.lst (refsOf u.length zs) :: zs.map cellOf
theorem refs_app (n : Nat) (a b : List Row) : refsOf n (a ++ b) = refsOf n a ++ refsOf (n + a.length) b := by
  unfold refsOf
  rw [List.zipIdx_append, List.map_append]
  congr 3
  omega
theorem refs_one (n : Nat) (z : Row) : refsOf n [z] = [.ref (n + 1)] := rfl
theorem refs_len (n : Nat) (a : List Row) : (refsOf n a).length = a.length := by simp [refsOf]
theorem cpy_low {u : Sto} {zs : List Row} {i : Nat} (h : i < u.length) : (cpy u zs)[i]? = u[i]? := List.getElem?_append_left h
theorem cpy_at {u : Sto} {zs : List Row} : (cpy u zs)[u.length]? = some (.lst (refsOf u.length zs)) := by
  unfold cpy
  rw [List.getElem?_append_right (Nat.le_refl _), Nat.sub_self]; rfl
theorem cpy_row {u : Sto} {zs : List Row} {i : Nat} {z : Row} (h : zs[i]? = some z) : (cpy u zs)[u.length + 1 + i]? = some (cellOf z) := by
  unfold cpy
  rw [List.getElem?_append_right (by omega), show u.length + 1 + i - u.length = i + 1 by omega, List.getElem?_cons_succ, List.getElem?_map, h]
  rfl
theorem cpy_len {u : Sto} {zs : List Row} : (cpy u zs).length = u.length + 1 + zs.length := by
  unfold cpy
  simp; omega
/-- the rows that the copy has -/
def zsOf (n : Nat) (zs : List Row) : List Row := (zs.zipIdx (n + 1)).map fun p => (MV.ref p.2, p.1.2)
theorem zsOf_fst (n : Nat) (zs : List Row) : (zsOf n zs).map (·.1) = refsOf n zs := by simp [zsOf, refsOf]
theorem zsOf_snd (n : Nat) (zs : List Row) : (zsOf n zs).map (·.2) = zs.map (·.2) := by
  unfold zsOf
  rw [List.map_map]
  have : ((fun x : Row => x.2) ∘ fun p : Row × Nat => (MV.ref p.2, p.1.2)) = (fun z : Row => z.2) ∘ Prod.fst := rfl
  rw [this, ← List.map_map, List.zipIdx_map_fst]
theorem zsOf_mem {n : Nat} {zs : List Row} {z : Row} (h : z ∈ zsOf n zs) : ∃ i y, zs[i]? = some y ∧ z = (.ref (n + 1 + i), y.2) := by
  obtain ⟨p, hp, rfl⟩ := List.mem_map.mp h
  obtain ⟨y, j⟩ := p
  have := List.mem_zipIdx hp
  exact ⟨j - (n + 1), y, by rw [List.getElem?_eq_getElem (by omega)]; exact congrArg some this.2.2.symm, by rw [show n + 1 + (j - (n + 1)) = j by omega]⟩
theorem gdDue_snd {a b : List Row} (h : a.map (·.2) = b.map (·.2)) : gdDue a = gdDue b := by
  have hl : a.length = b.length := by simpa using congrArg List.length h
  have hh : ∀ {β : Type} (f : List Str → β), a.head?.map (fun z => f z.2) = b.head?.map (fun z => f z.2) := fun f => by
    have := congrArg (fun l => (List.map f l).head?) h
    simpa [List.map_map, List.head?_map, Function.comp_def] using this
  have ha : ∀ f : List Str → Bool, a.all (fun z => f z.2) = b.all (fun z => f z.2) := fun f => by
    have := congrArg (fun l => List.all l f) h
    simpa [List.all_map, Function.comp_def] using this
  have hany : a.head?.any (fun z => decide (5 < z.2.length)) = b.head?.any (fun z => decide (5 < z.2.length)) := by
    have := hh (fun l => decide (5 < l.length))
    cases ea : a.head? <;> cases eb : b.head? <;> simp [ea, eb] at this ⊢
    exact this
  unfold gdDue
  rw [hl, hh (fun l => l.length), hany, ha (fun l => decide (some l.length = b.head?.map fun z => z.2.length)), ha (fun l => l.all fun w => decide (w ∈ wds))]
section
variable {u : Sto} {q : Nat} {zs : List Row} {Q : MV → Sto → Prop} {X : Nat → List (Nat × MV) → Sto → Prop}
theorem copy_wp {e0 e1 e2 e4 e5 e6 e7 e8 e9 e10 e11 : Option MV} (hq : ∀ e, (u ++ e)[q]? = some (.lst (zs.map (·.1)))) (hr : ∀ z ∈ zs, Rw q u z) (hl : zs.length < 100) (k : Q (.ref u.length) (cpy u zs)) :
    Wp Q X (mLc false (miSeq (mVar 3)) (tgName 10) mYes (mCallL false fList (mCons (mVar 10) mNil)) [10] [e0, e1, e2, some (.ref q), e4, e5, e6, e7, e8, e9, e10, e11] u) := by
  have hq0 : u[q]? = some (.lst (zs.map (·.1))) := by have := hq []; simpa using this
  have hql : q < u.length := (List.getElem?_eq_some_iff.mp hq0).1
  refine wp_lcG ⟨zs.map (·.1), fun t => t[q]? = some (.lst (zs.map (·.1)))⟩ (fun d acc t => Seal (∃ d' r', zs = d' ++ r' ∧ d = d'.map (·.1) ∧ acc = refsOf u.length d' ∧ t = cpy u d') ()) (by simp [miSeq, M.bnd, it_ref hq0]) ⟨[], zs, rfl, rfl, rfl, rfl⟩ ?_ (by simp; omega) ?_ ?_
  · rintro d acc t ⟨d', r', _, _, _, rfl⟩
    show (cpy u d')[q]? = _
    rw [cpy_low hql]; exact hq0
  · rintro d x r acc t hx ht ⟨d', r', hz, rfl, rfl, rfl⟩
    cases r' with
    | nil => rw [hz] at hx; simp at hx
    | cons y r' =>
      have hx' : (d' ++ y :: r').map (·.1) = d'.map (·.1) ++ x :: r := by rw [← hz]; exact hx
      simp only [List.map_append, List.append_cancel_left_eq, List.map_cons, List.cons.injEq] at hx'
      obtain ⟨rfl, rfl⟩ := hx'
      have R : Rw q (cpy u d') y := (hr y (by rw [hz]; simp)).more _
      simp -dsimp [-sIf_run, wipeM, R.ne, R.fl]
      have hlen : (cpy u d').length = u.length + 1 + d'.length := cpy_len
      refine ⟨by rw [List.getElem?_append_left (by omega)]; exact cpy_at, sl ⟨d' ++ [y], r', by rw [hz]; simp, by simp, ?_, ?_⟩⟩
      · rw [refs_app, refs_one, hlen, show u.length + 1 + d'.length = u.length + d'.length + 1 by omega]
      · rw [hlen]
        unfold cpy
        rw [refs_app, refs_one, List.append_assoc, List.set_append_right _ _ (Nat.le_refl _), Nat.sub_self]
        simp [cellOf]
        omega
  · rintro acc t ht ⟨d', r', hz, hd, rfl, rfl⟩
    have : r' = [] := by
      have := congrArg List.length hd
      rw [hz] at this
      simp at this
      exact this
    subst this
    rw [List.append_nil] at hz
    subst hz
    exact k
theorem cpy_rows (hs : ∀ z ∈ zs, (∀ w ∈ z.2, sok w = true) ∧ z.2.length < 150) : ∀ z ∈ zsOf u.length zs, z.1 ≠ .exc ∧ (∀ e, fTuple (cpy u zs ++ e) [z.1] = some (rowT z)) ∧ (∀ w ∈ z.2, sok w = true) ∧ z.2.length < 200 := fun z hz => by
  obtain ⟨i, y, hy, rfl⟩ := zsOf_mem hz
  have my := List.mem_of_getElem? hy
  have hi := (List.getElem?_eq_some_iff.mp hy).1
  have hlen : (cpy u zs).length = u.length + 1 + zs.length := cpy_len
  refine ⟨by simp, fun e => ?_, (hs y my).1, by have := (hs y my).2; simp; omega⟩
  have c : (cpy u zs)[u.length + 1 + i]? = some (Cell.lst (y.2.map .str)) := cpy_row hy
  exact tuple_ref (by rw [List.getElem?_append_left (by omega)]; exact c)
theorem rows_T (n : Nat) : (zsOf n zs).map rowT = zs.map rowT := by
  have : ∀ l : List Row, l.map rowT = (l.map (·.2)).map fun ws => MV.tup (ws.map .str) := fun l => by simp [rowT, Function.comp_def]
  rw [this, this zs, zsOf_snd]
theorem cpy_grid (hs : ∀ z ∈ zs, (∀ w ∈ z.2, sok w = true) ∧ z.2.length < 150) (hl : zs.length < 100) (k1 : gdDue zs = .non → Q (.ins 32 [.tup (zs.map rowT)]) (cpy u zs)) (k0 : gdDue zs ≠ .non → X 11 [(1, gdDue zs)] (cpy u zs)) : Wp Q X (mPure (newC 32 m_Grid___init__) [.ref u.length] (cpy u zs)) := by
  have hlen : (cpy u zs).length = u.length + 1 + zs.length := cpy_len
  have hg : gdDue (zsOf u.length zs) = gdDue zs := gdDue_snd (zsOf_snd _ _)
  have hat : ∀ e, (cpy u zs ++ e)[u.length]? = some (.lst ((zsOf u.length zs).map (·.1))) := fun e => by
    rw [List.getElem?_append_left (by omega), zsOf_fst]; exact cpy_at
  refine grid_made (zs := zsOf u.length zs) (ok := fun t => t[u.length]? = some (.lst ((zsOf u.length zs).map (·.1)))) (fun e => it_ref (hat e)) hat (by simp) (cpy_rows hs) (by simp [zsOf]; omega) (fun h => ?_) (fun h => ?_)
  · rw [rows_T]; exact k1 (hg ▸ h)
  · rw [hg] at h ⊢; exact k0 h
end
abbrev ins2 (zs : List Row) : MV := .ins 32 [.tup (zs.map rowT)]
theorem rowT_eq {a b : Row} : rowT a = rowT b ↔ a.2 = b.2 := by
  constructor
  · intro h
    have h' : a.2.map MV.str = b.2.map MV.str := by simpa [rowT] using h
    exact map_inj (fun x y e => by cases e; rfl) h'
  · intro h; unfold rowT; rw [h]
theorem rowTs_eq {a b : List Row} : a.map rowT = b.map rowT ↔ a.map (·.2) = b.map (·.2) := by
  have : ∀ l : List Row, l.map rowT = (l.map (·.2)).map fun ws => MV.tup (ws.map .str) := fun l => by simp [rowT, Function.comp_def]
  rw [this a, this b]
  constructor
  · intro h
    refine map_inj (fun x y e => ?_) h
    exact map_inj (f := MV.str) (fun a b e => by simpa using e) (by simpa only [MV.tup.injEq] using e)
  · intro h; rw [h]
open Classical in
theorem eq2 {s : Sto} {a b : List Row} (ha : ∀ z ∈ a, ∀ w ∈ z.2, sok w = true) (hb : ∀ z ∈ b, ∀ w ∈ z.2, sok w = true) : m_Grid___eq__ [ins2 a, ins2 b] s = .ok (.bl (decide (a.map (·.2) = b.map (·.2)))) s := by
  have q : Wp (fun v t => v = .bl (decide (a.map (·.2) = b.map (·.2))) ∧ t = s) noX (m_Grid___eq__ [ins2 a, ins2 b] s) := by
    unfold m_Grid___eq__
    have F : fieldsOf 32 = [27] := by decide
    simp -dsimp [-sIf_run, F, zipLook]
    refine wpo_eq (pl_maps fun z hz => pl_rowT (ha z hz)) (pl_maps fun z hz => pl_rowT (hb z hz)) (fun e => ?_) (fun e => ?_)
    · have := rowTs_eq.mp (by simpa using e)
      simp -dsimp [-sIf_run, this]
    · have : ¬ a.map (·.2) = b.map (·.2) := fun z => e (by rw [rowTs_eq.mpr z])
      simp -dsimp [-sIf_run, this]
  obtain ⟨v, t, e, rfl, rfl⟩ := q.out
  exact e
theorem comp_tuples {u : Sto} {q : Nat} {zs : List Row} {e0 e1 e2 e4 e5 e6 e7 e8 e9 e10 e11 : Option MV} (hq : ∀ e, (u ++ e)[q]? = some (.lst (zs.map (·.1)))) (hr : ∀ z ∈ zs, Rw q u z) (hl : zs.length < 100) :
    mLc true (miSeq (mVar 3)) (tgName 11) mYes (mCallF fTuple (mCons (mVar 11) mNil)) [11] [e0, e1, e2, some (.ref q), e4, e5, e6, e7, e8, e9, e10, e11] u = .ok (.lst (zs.map rowT)) u := by
  have hq0 : u[q]? = some (.lst (zs.map (·.1))) := by have := hq []; simpa using this
  refine lc_allW (f := fun z : Row => z.1) (ok := fun t => t[q]? = some (.lst (zs.map (·.1)))) rowT (by simp [miSeq, M.bnd, it_ref hq0]) (fun y hy a => ?_) (fun a => hq _) (by omega) (fun y hy a => pl_frz40 (pl_rowT (hr y hy).2.1))
  have R := (hr y hy).more [.lst a]
  simp -dsimp [-sIf_run, wipeM, R.ne, R.tu, rowT]
theorem has2 {u : Sto} {q : Nat} {zs : List Row} {size : Int} (hq : ∀ e, (u ++ e)[q]? = some (.lst (zs.map (·.1)))) (hr : ∀ z ∈ zs, Rw q u z) (hl : zs.length < 100) : m_ulaw_has [.int 2, ins2 zs, .int size, .ref q] u = .ok (.bl true) u := by
  have hq0 : u[q]? = some (.lst (zs.map (·.1))) := by have := hq []; simpa using this
  have q : Wp (fun v t => v = .bl true ∧ t = u) noX (m_ulaw_has [.int 2, ins2 zs, .int size, .ref q] u) := by
    unfold m_ulaw_has
    have F : fieldsOf 32 = [27] := by decide
    simp -dsimp [-sIf_run, wps_sif, F, zipLook]
    rw [lc_allW (f := fun z : Row => z.1) (ys := zs) (ok := fun t => t[q]? = some (.lst (zs.map (·.1)))) rowT (by simp [miSeq, M.bnd, it_ref hq0]) (fun y hy a => by
      have R := (hr y hy).more [.lst a]
      simp -dsimp [-sIf_run, wipeM, R.ne, R.tu, rowT]) (fun a => hq _) (by omega) (fun y hy a => pl_frz40 (pl_rowT (hr y hy).2.1))]
    simp -dsimp [-sIf_run]
    refine wpo_eq (pl_maps fun z hz => pl_rowT (hr z hz).2.1) (pl_maps fun z hz => pl_rowT (hr z hz).2.1) (fun e => ?_) (fun e => absurd rfl e)
    simp -dsimp [-sIf_run]
  obtain ⟨v, t, e, rfl, rfl⟩ := q.out
  exact e
theorem pl_dueG (zs : List Row) {k : Nat} {x : Str} (h : sok x = true := by decide +kernel) : plB (k + 3) (.lst [gdDue zs, .lst [.str x]]) = true := by
  have h1 : sok ("size" : Str) = true := by decide +kernel
  have h2 : sok ("squares" : Str) = true := by decide +kernel
  unfold gdDue
  repeat' split
  all_goals simp [plB, h, h1, h2]
theorem gd_non {zs : List Row} (h : gdDue zs = .non) : (1 ≤ zs.length ∧ zs.length ≤ 5) ∧ ∃ n, 1 ≤ n ∧ n ≤ 5 ∧ ∀ z ∈ zs, z.2.length = n ∧ ∀ w ∈ z.2, w ∈ wds := by
  unfold gdDue at h
  by_cases h1 : zs.length < 1 ∨ 5 < zs.length ∨ (zs.head?.map fun z => z.2.length) = some 0 ∨ (zs.head?.any fun z => decide (5 < z.2.length)) = true
  · rw [if_pos h1] at h; cases h
  · rw [if_neg h1] at h
    by_cases h2 : (zs.all fun z => decide (some z.2.length = zs.head?.map fun z => z.2.length)) = false
    · rw [if_pos h2] at h; cases h
    · rw [if_neg h2] at h
      by_cases h3 : (zs.all fun z => z.2.all fun w => decide (w ∈ wds)) = false
      · rw [if_pos h3] at h; cases h
      · refine ⟨by omega, ?_⟩
        cases zs with
        | nil => simp at h1
        | cons z zs =>
          simp at h1 h2 h3
          refine ⟨z.2.length, by have := List.length_pos_iff.mpr h1.2.1; omega, h1.2.2, fun y hy => ?_⟩
          rcases List.mem_cons.mp hy with rfl | hy
          · exact ⟨rfl, h3.1⟩
          · exact ⟨h2 y.1 y.2 hy, h3.2 y.1 y.2 hy⟩
theorem gd_is {zs : List Row} {n : Nat} (h1 : 1 ≤ zs.length ∧ zs.length ≤ 5) (h2 : 1 ≤ n ∧ n ≤ 5) (h3 : ∀ z ∈ zs, z.2.length = n ∧ ∀ w ∈ z.2, w ∈ wds) : gdDue zs = .non := by
  cases zs with
  | nil => simp at h1
  | cons z zs =>
    have hz := h3 z List.mem_cons_self
    unfold gdDue
    rw [if_neg, if_neg, if_neg]
    · simp
      exact ⟨hz.2, fun a b hab => (h3 (a, b) (List.mem_cons_of_mem _ hab)).2⟩
    · simp
      intro a b hab
      rw [hz.1]
      exact (h3 (a, b) (List.mem_cons_of_mem _ hab)).1
    · simp only [List.head?_cons, Option.map_some, Option.any_some, Option.some.injEq, decide_eq_true_eq]
      omega
theorem Sq.low {q r : Nat} {zs : List Row} {t w : Sto} (S : Sq q r zs t) (hw : ∀ i, i < t.length → w[i]? = t[i]?) (hl : t.length ≤ w.length) : (∀ e, (w ++ e)[q]? = some (.lst (zs.map (·.1)))) ∧ ∀ z ∈ zs, Rw q w z := by
  have hq2 : q < t.length := (List.getElem?_eq_some_iff.mp S.sq).1
  refine ⟨fun e => by rw [List.getElem?_append_left (by omega), hw q hq2]; exact S.sq, fun z hz => (S.rs z hz).of fun p _ _ g => hw p (List.getElem?_eq_some_iff.mp g).1⟩
theorem tup_rows {zs : List Row} : (zs.map fun z : Row => (rowT z, z.2)).map (·.1) = zs.map rowT := by simp
theorem tup_rowT {zs : List Row} : (zs.map fun z : Row => (rowT z, z.2)).map rowT = zs.map rowT := by simp [rowT]
theorem tup_due {zs : List Row} : gdDue (zs.map fun z : Row => (rowT z, z.2)) = gdDue zs := gdDue_snd (by simp)
open Classical in
theorem right2 {st : Sto} {r : Nat} (h : Has st [(r, SrcC)]) : Wp (fun v _ => v = .bl true) noX (m_ulaw_right [.int 2, .ref r] st) := by
  unfold m_ulaw_right
  simp -dsimp [-sIf_run, wps_sif]
  refine (grid_wp h fun zs q t S => (?_ : _)).imp fun _ _ z => z
  simp -dsimp [-sIf_run, gdDue_ne]
  rw [list_ref S.sq]
  simp -dsimp [-sIf_run, wps_sif]
  have hq2 : q < t.length := (List.getElem?_eq_some_iff.mp S.sq).1
  have hq' : ∀ e, (t ++ e)[q]? = some (.lst (zs.map (·.1))) := fun e => by rw [List.getElem?_append_left hq2]; exact S.sq
  have hfew := S.few
  refine copy_wp (u := t ++ [.lst (zs.map (·.1))]) (fun e => by rw [List.append_assoc]; exact hq' _) (fun z hz => (S.rs z hz).more _) (by omega) ?_
  generalize hv : t ++ [Cell.lst (zs.map (·.1))] = v
  have hvl : v.length = t.length + 1 := by rw [← hv]; simp
  have hok : ∀ z ∈ zs, (∀ w ∈ z.2, sok w = true) ∧ z.2.length < 150 := fun z hz => ⟨(S.rs z hz).2.1, by have := (S.rs z hz).2.2; omega⟩
  have hg : gdDue (zsOf v.length zs) = gdDue zs := gdDue_snd (zsOf_snd _ _)
  have hlen : (cpy v zs).length = v.length + 1 + zs.length := cpy_len
  have hat : ∀ e, (cpy v zs ++ e)[v.length]? = some (.lst ((zsOf v.length zs).map (·.1))) := fun e => by
    rw [List.getElem?_append_left (by omega), zsOf_fst]; exact cpy_at
  simp -dsimp [-sIf_run]
  refine told2 (zs := zsOf v.length zs) (ok := fun t => t[v.length]? = some (.lst ((zsOf v.length zs).map (·.1)))) (fun e => it_ref (hat e)) hat (by simp) (cpy_rows hok) (by simp [zsOf]; omega) (fun hd => ?_) (fun hd => ?_)
  · rw [rows_T]
    rw [hg] at hd
    have low1 := S.low (w := cpy v zs) (fun i hi => by rw [cpy_low (by omega), ← hv, List.getElem?_append_left hi]) (by omega)
    simp -dsimp [-sIf_run, wps_sif, hd]
    rw [has2 low1.1 low1.2 (by omega)]
    obtain ⟨hzn, n, hn1, hn2, hzz⟩ := gd_non hd
    obtain ⟨z0, hz0, mz0⟩ := get_some (xs := zs) (i := 0) (by omega)
    have c0 : (cpy v zs)[v.length + 1]? = some (.lst (z0.2.map .str)) := cpy_row (u := v) (i := 0) hz0
    have hix0 : ixF (cpy v zs) (.ref v.length) (.int 0) = some (.ref (v.length + 1)) := by
      rw [Z.ix_ref cpy_at, ix_m1 _ _ (by omega)]
      cases zs with
      | nil => simp at hzn
      | cons z zs => rfl
    have hl0 : (0 : Int) < ((z0.2.map MV.str).length : Nat) := by
      have := (hzz z0 mz0).1
      simp; omega
    simp -dsimp [-sIf_run, wps_sif, hix0, Z.setL_ref c0 (by omega) hl0]
    have at1 : ((cpy v zs).set (v.length + 1) (.lst ((z0.2.map MV.str).set 0 (.str ("none" : Str)))))[v.length]? = some (.lst (refsOf v.length zs)) := by
      rw [List.getElem?_set_ne (by omega)]; exact cpy_at
    have hrl : (refsOf v.length zs).length < 100000 := by rw [refs_len]; omega
    have hal := append_ref (y := .tup [.int 0, .int 1]) at1 hrl
    refine ⟨isLs_ref at1, ?_⟩
    rw [hal]
    have lowW : ∀ i, i < t.length → (((cpy v zs).set (v.length + 1) (.lst ((z0.2.map MV.str).set 0 (.str ("none" : Str))))).set v.length (.lst (refsOf v.length zs ++ [.tup [.int 0, .int 1]])))[i]? = t[i]? := fun i hi => by
      rw [List.getElem?_set_ne (by omega), List.getElem?_set_ne (by omega), cpy_low (by omega), ← hv, List.getElem?_append_left hi]
    have lenW : t.length ≤ (((cpy v zs).set (v.length + 1) (.lst ((z0.2.map MV.str).set 0 (.str ("none" : Str))))).set v.length (.lst (refsOf v.length zs ++ [.tup [.int 0, .int 1]]))).length := by
      simp; omega
    generalize ((cpy v zs).set (v.length + 1) (.lst ((z0.2.map MV.str).set 0 (.str ("none" : Str))))).set v.length (.lst (refsOf v.length zs ++ [.tup [.int 0, .int 1]])) = w at lowW lenW ⊢
    have low2 := S.low lowW lenW
    simp -dsimp [-sIf_run]
    rw [comp_tuples low2.1 low2.2 (by omega)]
    simp -dsimp [-sIf_run]
    refine made2 (zs := zs.map fun z : Row => (rowT z, z.2)) (ok := fun _ => True) (fun _ => by rw [tup_rows]; rfl) (fun _ => trivial) (by simp) (fun z hz => ?_) (by simp; omega) (fun _ => ?_) (fun z => absurd hd (by rw [tup_due] at z; exact z))
    · obtain ⟨y, hy, rfl⟩ := List.mem_map.mp hz
      exact ⟨rowT_ne y, fun e => rfl, (hok y hy).1, by have := (hok y hy).2; simp; omega⟩
    rw [tup_rowT]
    simp -dsimp [-sIf_run, wps_sif, has2 low2.1 low2.2 (show zs.length < 100 by omega), eq2 (fun z hz => (hok z hz).1) (fun z hz => (hok z hz).1)]
    refine copy_wp low2.1 low2.2 (by omega) ?_
    obtain ⟨zi, zl, rfl⟩ := last_of (xs := zs) (fun z => by rw [z] at hzn; simp at hzn)
    have hzl := hzz zl (by simp)
    obtain ⟨wi, wl, hwl⟩ := last_of (xs := zl.2) (fun z => by rw [z] at hzl; simp at hzl; omega)
    have hL : ixF (cpy w (zi ++ [zl])) (.ref w.length) (.int (-1)) = some (.ref (w.length + 1 + zi.length)) := by
      rw [Z.ix_ref cpy_at, refs_app, refs_one, Z.atI_last]
      congr 2; omega
    have hrow : (cpy w (zi ++ [zl]))[w.length + 1 + zi.length]? = some (.lst (wi.map .str ++ [.str wl])) := by
      rw [cpy_row (z := zl) (by simp)]
      simp [cellOf, hwl]
    have hlw : ixF (cpy w (zi ++ [zl])) (.ref (w.length + 1 + zi.length)) (.int (-1)) = some (.str wl) := by
      rw [Z.ix_ref hrow, Z.atI_last]
    have fin : ∀ w' : Str, (cpy w (zi ++ [zl])).set (w.length + 1 + zi.length) (.lst (wi.map .str ++ [.str w'])) = cpy w (zi ++ [(zl.1, wi ++ [w'])]) := fun w' => by
      unfold cpy
      rw [refs_app, refs_app, refs_one, refs_one, List.set_append_right _ _ (by omega), show w.length + 1 + zi.length - w.length = zi.length + 1 by omega, List.set_cons_succ, List.map_append, List.map_append, List.set_append_right _ _ (by simp)]
      simp [cellOf]
    have hdiff : ∀ w' : Str, w' ≠ wl → ¬ (zi ++ [zl]).map (fun z : Row => z.2) = (zi ++ [(zl.1, wi ++ [w'])]).map (·.2) := fun w' hne e => by
      simp [hwl] at e
      exact hne e.symm
    have hnew : ∀ w' : Str, w' ∈ wds → (∀ z ∈ zi ++ [(zl.1, wi ++ [w'])], z.2.length = n ∧ ∀ x ∈ z.2, x ∈ wds) := fun w' hw' z hz => by
      rcases List.mem_append.mp hz with hz | hz
      · exact hzz z (List.mem_append_left _ hz)
      · rw [List.mem_singleton.mp hz]
        refine ⟨?_, fun x hx => ?_⟩
        · have := hzl.1
          rw [hwl] at this
          simpa using this
        · rcases List.mem_append.mp hx with hx | hx
          · exact hzl.2 x (by rw [hwl]; exact List.mem_append_left _ hx)
          · rw [List.mem_singleton.mp hx]; exact hw'
    have wok : ∀ x ∈ wds, sok x = true := by decide +kernel
    simp -dsimp [-sIf_run, hL, hlw]
    obtain ⟨w', hw', hne, hval⟩ : ∃ w' : Str, w' ∈ wds ∧ w' ≠ wl ∧ ∀ s : Sto, ixF s (.lst [.str ("both" : Str), .str ("none" : Str)]) (.int (if wl = ("both" : Str) then 1 else 0)) = some (.str w') := by
      by_cases hb : wl = ("both" : Str)
      · exact ⟨"none", by decide +kernel, by rw [hb]; decide +kernel, fun s => by rw [if_pos hb]; rfl⟩
      · exact ⟨"both", by decide +kernel, fun e => hb e.symm, fun s => by rw [if_neg hb]; rfl⟩
    rw [hval]
    simp -dsimp [-sIf_run, hL, setL_last hrow]
    rw [fin]
    have hz3 := hnew w' hw'
    have hg3 : gdDue (zi ++ [(zl.1, wi ++ [w'])]) = .non := gd_is (by simp at hzn ⊢; exact hzn) ⟨hn1, hn2⟩ hz3
    simp -dsimp [-sIf_run, wps_sif]
    refine cpy_grid (fun z hz => ⟨fun x hx => wok x ((hz3 z hz).2 x hx), by have := (hz3 z hz).1; omega⟩) (by simp at hfew ⊢; omega) (fun _ => ?_) (fun z => absurd hg3 z)
    have e2 : ∀ s : Sto, m_Grid___eq__ [.ins 32 [.tup (zi.map rowT ++ [rowT zl])], .ins 32 [.tup (zi.map rowT ++ [rowT (zl.1, wi ++ [w'])])]] s = .ok (.bl false) s := fun s => by
      have := eq2 (s := s) (a := zi ++ [zl]) (b := zi ++ [(zl.1, wi ++ [w'])]) (fun z hz => (hok z hz).1) (fun z hz x hx => wok x ((hz3 z hz).2 x hx))
      rw [decide_eq_false (hdiff w' hne)] at this
      simpa only [ins2, List.map_append, List.map_cons, List.map_nil] using this
    simp -dsimp [-sIf_run]
    rw [e2]
    simp -dsimp [-sIf_run, wps_sif]
  · rw [hg] at hd ⊢
    have hn : isN (gdDue zs) = false := by
      cases e : gdDue zs <;> first | rfl | exact absurd e hd
    simp -dsimp [-sIf_run, wps_sif, gdDue_ne, hn]
    refine wpo_eqP (x' := .lst [gdDue zs, .lst [.str (bname 11)]]) (y' := .lst [gdDue zs, .lst [.str (bname 11)]]) (pl_dueG zs) (pl_dueG zs) (toPy_l2 rfl (toPy_refK (by simp))) rfl rfl (fun _ => rfl) (fun z => absurd rfl z)
end K43

namespace K43
open PySem L2 Z
theorem len_frz {s : Sto} {xs : List MV} : fLen s [.frz xs] = some (.int xs.length) := rfl
theorem ix_frz {s : Sto} {xs : List MV} {i : Int} : ixF s (.frz xs) (.int i) = atI xs i := rfl
theorem cell_wp {st : Sto} {ns : List Int} {k : Nat} {Q : MV → Sto → Prop} {X : Nat → List (Nat × MV) → Sto → Prop} (hb : ∀ k ∈ ns, nb k ≤ 1048576) (h : ∀ c, nb c ≤ 1048576 → Q (.int c) st) : Wp Q X (m_ulaw_cell [.frz (ns.map .int), .int k] st) := by
  unfold m_ulaw_cell
  simp -dsimp [-sIf_run, wps_sif, len_frz]
  refine ⟨fun hk => ?_, fun _ => h 0 (by decide)⟩
  obtain ⟨c, hc, mc⟩ := get_some (xs := ns) (i := k) (by omega)
  rw [ix_frz, ix_m1 _ _ (by omega)]
  simp [hc]
  exact h c (hb c mc)
theorem law_true (ns : List Int) (hn : ns.length ≤ 63) (hb : ∀ k ∈ ns, nb k ≤ 1048576) : ∃ s, m_law [.frz (ns.map .int)] [] = .ok (.bl true) s := by
  have q : Wp (fun v _ => v = .bl true) noX (m_law [.frz (ns.map .int)] []) := by
    unfold m_law
    simp -dsimp [-sIf_run, len_frz]
    refine ⟨by split <;> omega, ?_⟩
    refine wp_forR (fun i e t => Seal (∃ e1 e2, e = [some (.frz (ns.map .int)), e1, e2]) ()) ⟨_, _, rfl⟩ (fun _ _ _ _ => trivial) ?_ ?_
    · rintro i _ t hi ⟨e1, e2, rfl⟩
      have hi2 : i < 64 := by
        split at hi <;> omega
      simp -dsimp [-sIf_run]
      refine cell_wp hb fun c hc => ?_
      simp -dsimp [-sIf_run]
      obtain ⟨t', e, S⟩ := source_ok (st := t) (cell := c) (k := i) hc (by omega) (by omega)
      refine Wp.of e ?_
      simp -dsimp [-sIf_run, wps_sif]
      have H : Has t' [(t.length, SrcC)] := ⟨by simp, fun p hp => by
        rw [List.mem_singleton.mp hp]
        obtain ⟨a, b, h1, h2, h3, h4⟩ := S
        exact ⟨_, h1, a, b, rfl, h2, h3, h4⟩⟩
      have c3 : ((i : Int) % 3 = 0) ∨ ((i : Int) % 3 = 1) ∨ ((i : Int) % 3 = 2) := by omega
      rcases c3 with c3 | c3 | c3 <;> rw [c3]
      · refine (right0 H).imp fun v t hv => ?_
        subst hv
        simp -dsimp [-sIf_run, wps_sif]
        exact sl ⟨_, _, rfl⟩
      · refine (right1 H).imp fun v t hv => ?_
        subst hv
        simp -dsimp [-sIf_run, wps_sif]
        exact sl ⟨_, _, rfl⟩
      · refine (right2 H).imp fun v t hv => ?_
        subst hv
        simp -dsimp [-sIf_run, wps_sif]
        exact sl ⟨_, _, rfl⟩
    · rintro _ t ⟨e1, e2, rfl⟩
      simp -dsimp [-sIf_run]
  obtain ⟨v, t, e, rfl⟩ := q.out
  exact ⟨t, e⟩
end K43

namespace K43
open PySem L2 Z
section
variable {w : World} {K : PySem.W.Frag} {mg : Str → Option Value} {base : Heap}
theorem has_of {c : Nat} (h : (tx K).has c = true) : c = 30 ∨ c = 31 ∨ c = 32 := by
  have h2 : [30, 31, 32].contains c = true := h
  simpa using h2
theorem hasX_of {c : Nat} (h : (tx K).hasX c = true) : c = 9 ∨ c = 10 ∨ c = 11 := by
  have h2 : [9, 10, 11].contains c = true := h
  simpa using h2
theorem hasCases {u : Value} {d : Nat} (_ : TT K mg) (h30 : PySem.W.kitOne K (.ref (He.ga K ("Edges" : Str))) u = some (30 == d)) (h31 : PySem.W.kitOne K (.ref (He.ga K ("Bodies" : Str))) u = some (31 == d)) (h32 : PySem.W.kitOne K (.ref (He.ga K ("Grid" : Str))) u = some (32 == d)) : ∀ c, (tx K).has c = true → PySem.W.kitOne K (.ref ((tx K).cls c)) u = some (c == d) := fun c h => by
  rcases has_of h with rfl | rfl | rfl
  · exact h30
  · exact h31
  · exact h32
theorem hasXCases {p : Value → Option Bool} {b : Nat → Bool} (_ : TT K mg) (h9 : p (.ref (He.ga K ("BadEdges" : Str))) = some (b 9)) (h10 : p (.ref (He.ga K ("BadBodies" : Str))) = some (b 10)) (h11 : p (.ref (He.ga K ("BadGrid" : Str))) = some (b 11)) {c : Nat} (h : (tx K).hasX c = true) : p (.ref ((tx K).cls c)) = some (b c) := by
  rcases hasX_of h with rfl | rfl | rfl
  · exact h9
  · exact h10
  · exact h11
theorem clsAll (T : TT K mg) : ClsAll (tx K) := fun c h => by
  rcases has_of h with rfl | rfl | rfl
  · refine ⟨T.cls 114, fun f hf => ?_⟩
    rcases List.mem_cons.mp hf with rfl | hf
    · exact T.no 115
    rcases List.mem_cons.mp hf with rfl | hf
    · exact T.no 116
    cases hf
  · refine ⟨T.cls 118, fun f hf => ?_⟩
    rcases List.mem_cons.mp hf with rfl | hf
    · exact T.no 119
    rcases List.mem_cons.mp hf with rfl | hf
    · exact T.no 120
    cases hf
  · refine ⟨T.cls 122, fun f hf => ?_⟩
    rcases List.mem_cons.mp hf with rfl | hf
    · exact T.no 123
    cases hf
theorem insAll (T : TT K mg) : ∀ c, (tx K).has c = true → InsTy K ((tx K).cls c) := fun c h => by
  rcases has_of h with rfl | rfl | rfl
  · exact T.ins 117
  · exact T.ins 121
  · exact T.ins 124
theorem excAll (T : TT K mg) : ∀ c, (tx K).hasX c = true → ExcC K ((tx K).cls c) := fun c h => by
  rcases hasX_of h with rfl | rfl | rfl
  · exact T.exi 125
  · exact T.exi 126
  · exact T.exi 127
theorem xfAll (T : TT K mg) : ∀ c, (tx K).hasX c = true → XfC K ((tx K).cls c) := fun c h => (excAll T c h).xf
theorem noX_what (T : TT K mg) {c : Nat} (h : (tx K).hasX c = true) : PySem.W.findIn K (.ref ((tx K).cls c)) ("what" : Str) = some none := by
  rcases hasX_of h with rfl | rfl | rfl
  · exact T.no 129
  · exact T.no 130
  · exact T.no 131
theorem ia_BadEdges (T : TT K mg) : IniA P K (He.ga K ("BadEdges" : Str)) (He.fAd K (("BadEdges" : Str), some "__init__")) ("BadEdges.__init__" : Str) ("what" : Str) := TxtI.iniA T 0 132 (d := i_BadEdges) (file := P.main.file) rfl rfl rfl (by kernel_rfl) rfl rfl rfl ⟨_, _, _, rfl, by repeat first | exact .nil | refine .cons (.c (by decide)) ?_ | refine .cons .f ?_, by decide⟩ ⟨by decide, by decide, by decide, by decide⟩ (fun _ _ _ _ _ _ _ _ _ => rfl) ⟨fun _ => ⟨_, rfl⟩, fun _ => rfl, fun _ => rfl, fun _ => rfl⟩
theorem ia_BadBodies (T : TT K mg) : IniA P K (He.ga K ("BadBodies" : Str)) (He.fAd K (("BadBodies" : Str), some "__init__")) ("BadBodies.__init__" : Str) ("what" : Str) := TxtI.iniA T 1 133 (d := i_BadBodies) (file := P.main.file) rfl rfl rfl (by kernel_rfl) rfl rfl rfl ⟨_, _, _, rfl, by repeat first | exact .nil | refine .cons (.c (by decide)) ?_ | refine .cons .f ?_, by decide⟩ ⟨by decide, by decide, by decide, by decide⟩ (fun _ _ _ _ _ _ _ _ _ => rfl) ⟨fun _ => ⟨_, rfl⟩, fun _ => rfl, fun _ => rfl, fun _ => rfl⟩
theorem ia_BadGrid (T : TT K mg) : IniA P K (He.ga K ("BadGrid" : Str)) (He.fAd K (("BadGrid" : Str), some "__init__")) ("BadGrid.__init__" : Str) ("what" : Str) := TxtI.iniA T 2 134 (d := i_BadGrid) (file := P.main.file) rfl rfl rfl (by kernel_rfl) rfl rfl rfl ⟨_, _, _, rfl, by repeat first | exact .nil | refine .cons (.c (by decide)) ?_ | refine .cons .f ?_, by decide⟩ ⟨by decide, by decide, by decide, by decide⟩ (fun _ _ _ _ _ _ _ _ _ => rfl) ⟨fun _ => ⟨_, rfl⟩, fun _ => rfl, fun _ => rfl, fun _ => rfl⟩
theorem sc_ulaw_source : FnScope ["cell", "k"] ["cell", "k"] (defScope s_ulaw_source) := ⟨rfl, rfl, rfl, by decide +kernel, rfl, by decide +kernel, by decide +kernel⟩
theorem F_ulaw_source (T : TT K mg) : FunD K "_law_source" "_law_source" (defArgs s_ulaw_source) (defBody s_ulaw_source) (defScope s_ulaw_source) (d_ulaw_source.dvs K) [] (He.fAd K at_ulaw_source) (fdOf K at_ulaw_source) := T.c.fd 0 (d := d_ulaw_source) rfl
theorem kp_ulaw_source (T : TT K mg) : PySem.W.keepIn K (.ref (He.fAd K at_ulaw_source)) = true := (F_ulaw_source T).kp
theorem b_ulaw_source (T : TT K mg) : Binds K (fdOf K at_ulaw_source) ["cell", "k"] [] := FunD.bindsN (F_ulaw_source T) fun _ _ _ _ _ _ us hl => match us, hl with | [_, _], _ => rfl
theorem ok_ulaw_source (T : TT K mg) : FnOk P w K mg base (L2.CX P w) 1 (He.fAd K at_ulaw_source) (fdOf K at_ulaw_source) ["cell", "k"] (spM (tx K) 2 m_ulaw_source) :=
  fn_okM (Df.of (st := s_ulaw_source) (F_ulaw_source T)) sc_ulaw_source fun cdv A outer s H E hr => by
    have tk : Takes (cxOf (L2.CX P w) P w K mg base ["cell", "k"] "_law_source" (defScope s_ulaw_source) (He.fAd K at_ulaw_source) cdv A outer s H E) (WB E) := takes_of rfl rfl rfl rfl
    have hp : PassesOwn (model P w) (cxOf (L2.CX P w) P w K mg base ["cell", "k"] "_law_source" (defScope s_ulaw_source) (He.fAd K at_ulaw_source) cdv A outer s H E).A (cxOf (L2.CX P w) P w K mg base ["cell", "k"] "_law_source" (defScope s_ulaw_source) (He.fAd K at_ulaw_source) cdv A outer s H E).env (cxOf (L2.CX P w) P w K mg base ["cell", "k"] "_law_source" (defScope s_ulaw_source) (He.fAd K at_ulaw_source) cdv A outer s H E).xe := passes_of rfl
    exact (s_cons (s_if (t_cmp oc_ge (v_var 0) (v_bin ob_pow v_int v_int) (nomark _)) (s_one (s_ret (v_lst false (a_cons (v_bin ob_sub (v_var 0) (v_bin ob_pow v_int v_int)) (a_cons (v_bin (ob_add rfl) (v_var 1) v_int) a_nil))))) s_nil)
      (s_one (s_ret (v_lst false (a_cons v_int (a_cons (v_bin ob_mod (v_callT ok_int rfl (T.free 3) (a_cons (v_bin (ob_add rfl) (v_bin (ob_add rfl) (v_bin ob_mul (v_var 0) v_int) (v_bin ob_mul (v_var 1) v_int)) v_int) a_nil)) v_int) a_nil))))))
theorem sc_ulaw_cell : FnScope ["script", "k"] ["script", "k"] (defScope s_ulaw_cell) := ⟨rfl, rfl, rfl, by decide +kernel, rfl, by decide +kernel, by decide +kernel⟩
theorem F_ulaw_cell (T : TT K mg) : FunD K "_law_cell" "_law_cell" (defArgs s_ulaw_cell) (defBody s_ulaw_cell) (defScope s_ulaw_cell) (d_ulaw_cell.dvs K) [] (He.fAd K at_ulaw_cell) (fdOf K at_ulaw_cell) := T.c.fd 1 (d := d_ulaw_cell) rfl
theorem kp_ulaw_cell (T : TT K mg) : PySem.W.keepIn K (.ref (He.fAd K at_ulaw_cell)) = true := (F_ulaw_cell T).kp
theorem b_ulaw_cell (T : TT K mg) : Binds K (fdOf K at_ulaw_cell) ["script", "k"] [] := FunD.bindsN (F_ulaw_cell T) fun _ _ _ _ _ _ us hl => match us, hl with | [_, _], _ => rfl
theorem ok_ulaw_cell (T : TT K mg) : FnOk P w K mg base (L2.CX P w) 1 (He.fAd K at_ulaw_cell) (fdOf K at_ulaw_cell) ["script", "k"] (spM (tx K) 2 m_ulaw_cell) :=
  fn_okM (Df.of (st := s_ulaw_cell) (F_ulaw_cell T)) sc_ulaw_cell fun cdv A outer s H E hr => by
    have tk : Takes (cxOf (L2.CX P w) P w K mg base ["script", "k"] "_law_cell" (defScope s_ulaw_cell) (He.fAd K at_ulaw_cell) cdv A outer s H E) (WB E) := takes_of rfl rfl rfl rfl
    have hp : PassesOwn (model P w) (cxOf (L2.CX P w) P w K mg base ["script", "k"] "_law_cell" (defScope s_ulaw_cell) (He.fAd K at_ulaw_cell) cdv A outer s H E).A (cxOf (L2.CX P w) P w K mg base ["script", "k"] "_law_cell" (defScope s_ulaw_cell) (He.fAd K at_ulaw_cell) cdv A outer s H E).env (cxOf (L2.CX P w) P w K mg base ["script", "k"] "_law_cell" (defScope s_ulaw_cell) (He.fAd K at_ulaw_cell) cdv A outer s H E).xe := passes_of rfl
    exact (s_cons (s_if (t_cmp oc_lt (v_var 1) (v_callB (ok_len rfl) rfl (T.free 0) (a_cons (v_var 0) a_nil)) (nomark _)) (s_one (s_ret (v_ix rfl (v_var 0) (v_var 1)))) s_nil)
      (s_one (s_ret v_int)))
theorem sc_ulaw_pick : FnScope ["source", "many", "picked", "mixed"] ["source", "many"] (defScope s_ulaw_pick) := ⟨rfl, rfl, rfl, by decide +kernel, rfl, by decide +kernel, by decide +kernel⟩
theorem F_ulaw_pick (T : TT K mg) : FunD K "_law_pick" "_law_pick" (defArgs s_ulaw_pick) (defBody s_ulaw_pick) (defScope s_ulaw_pick) (d_ulaw_pick.dvs K) [] (He.fAd K at_ulaw_pick) (fdOf K at_ulaw_pick) := T.c.fd 2 (d := d_ulaw_pick) rfl
theorem kp_ulaw_pick (T : TT K mg) : PySem.W.keepIn K (.ref (He.fAd K at_ulaw_pick)) = true := (F_ulaw_pick T).kp
theorem b_ulaw_pick (T : TT K mg) : Binds K (fdOf K at_ulaw_pick) ["source", "many"] [] := FunD.bindsN (F_ulaw_pick T) fun _ _ _ _ _ _ us hl => match us, hl with | [_, _], _ => rfl
theorem ok_ulaw_pick (T : TT K mg) : FnOk P w K mg base (L2.CX P w) 1 (He.fAd K at_ulaw_pick) (fdOf K at_ulaw_pick) ["source", "many"] (spM (tx K) 2 m_ulaw_pick) :=
  fn_okM (Df.of (st := s_ulaw_pick) (F_ulaw_pick T)) sc_ulaw_pick fun cdv A outer s H E hr => by
    have tk : Takes (cxOf (L2.CX P w) P w K mg base ["source", "many", "picked", "mixed"] "_law_pick" (defScope s_ulaw_pick) (He.fAd K at_ulaw_pick) cdv A outer s H E) (WB E) := takes_of rfl rfl rfl rfl
    have hp : PassesOwn (model P w) (cxOf (L2.CX P w) P w K mg base ["source", "many", "picked", "mixed"] "_law_pick" (defScope s_ulaw_pick) (He.fAd K at_ulaw_pick) cdv A outer s H E).A (cxOf (L2.CX P w) P w K mg base ["source", "many", "picked", "mixed"] "_law_pick" (defScope s_ulaw_pick) (He.fAd K at_ulaw_pick) cdv A outer s H E).env (cxOf (L2.CX P w) P w K mg base ["source", "many", "picked", "mixed"] "_law_pick" (defScope s_ulaw_pick) (He.fAd K at_ulaw_pick) cdv A outer s H E).xe := passes_of rfl
    exact (s_cons (s_if (t_cmp oc_gt (v_ix rfl (v_var 0) v_int) v_int (nomark _)) (s_cons (s_set 2 sc_ulaw_pick.nd (v_bin ob_mod (v_callT ok_int rfl (T.free 3) (a_cons (v_ix rfl (v_var 0) v_int) a_nil)) (v_var 1)))
      (s_cons (s_sub (v_bin ob_div (v_ix rfl (v_var 0) v_int) (v_var 1)) (v_var 0) v_int)
      (s_one (s_ret (v_var 2))))) s_nil)
      (s_cons (s_sub (v_bin ob_mod (v_callT ok_int rfl (T.free 3) (a_cons (v_bin (ob_add rfl) (v_bin ob_mul (v_ix rfl (v_var 0) v_int) v_int) v_int) a_nil)) v_int) (v_var 0) v_int)
      (s_cons (s_set 3 sc_ulaw_pick.nd (v_bin ob_mod (v_callT ok_int rfl (T.free 3) (a_cons (v_bin (ob_add rfl) (v_bin (ob_add rfl) (v_bin ob_mul (v_ix rfl (v_var 0) v_int) v_int) (v_bin ob_div (v_ix rfl (v_var 0) v_int) v_int)) v_int) a_nil)) v_int))
      (s_one (s_ret (v_bin ob_mod (v_callT ok_int rfl (T.free 3) (a_cons (v_bin ob_div (v_var 3) v_int) a_nil)) (v_var 1)))))))
theorem sc_ulaw_size : FnScope ["source", "most", "sizes"] ["source", "most"] (defScope s_ulaw_size) := ⟨rfl, rfl, rfl, by decide +kernel, rfl, by decide +kernel, by decide +kernel⟩
theorem F_ulaw_size (T : TT K mg) : FunD K "_law_size" "_law_size" (defArgs s_ulaw_size) (defBody s_ulaw_size) (defScope s_ulaw_size) (d_ulaw_size.dvs K) [] (He.fAd K at_ulaw_size) (fdOf K at_ulaw_size) := T.c.fd 3 (d := d_ulaw_size) rfl
theorem kp_ulaw_size (T : TT K mg) : PySem.W.keepIn K (.ref (He.fAd K at_ulaw_size)) = true := (F_ulaw_size T).kp
theorem b_ulaw_size (T : TT K mg) : Binds K (fdOf K at_ulaw_size) ["source", "most"] [] := FunD.bindsN (F_ulaw_size T) fun _ _ _ _ _ _ us hl => match us, hl with | [_, _], _ => rfl
theorem ok_ulaw_size (T : TT K mg) : FnOk P w K mg base (L2.CX P w) 2 (He.fAd K at_ulaw_size) (fdOf K at_ulaw_size) ["source", "most"] (spM (tx K) 2 m_ulaw_size) :=
  fn_okM (Df.of (st := s_ulaw_size) (F_ulaw_size T)) sc_ulaw_size fun cdv A outer s H E hr => by
    have tk : Takes (cxOf (L2.CX P w) P w K mg base ["source", "most", "sizes"] "_law_size" (defScope s_ulaw_size) (He.fAd K at_ulaw_size) cdv A outer s H E) (WB E) := takes_of rfl rfl rfl rfl
    have hp : PassesOwn (model P w) (cxOf (L2.CX P w) P w K mg base ["source", "most", "sizes"] "_law_size" (defScope s_ulaw_size) (He.fAd K at_ulaw_size) cdv A outer s H E).A (cxOf (L2.CX P w) P w K mg base ["source", "most", "sizes"] "_law_size" (defScope s_ulaw_size) (He.fAd K at_ulaw_size) cdv A outer s H E).env (cxOf (L2.CX P w) P w K mg base ["source", "most", "sizes"] "_law_size" (defScope s_ulaw_size) (He.fAd K at_ulaw_size) cdv A outer s H E).xe := passes_of rfl
    exact (s_cons (s_set 2 sc_ulaw_size.nd (v_lst true (a_cons (v_bin (ob_add rfl) v_int (v_call tk (ok_ulaw_pick T) (hr.mono (by decide)) (T.glo 6) (kp_ulaw_pick T) (b_ulaw_pick T) (a_cons (v_var 0) (a_cons (v_var 1) a_nil)))) (a_cons (v_var 1) (a_cons v_int (a_cons (v_bin (ob_add rfl) (v_var 1) v_int) (a_cons v_int (a_cons (v_bin ob_sub (v_bin ob_sub v_int v_int) (v_call tk (ok_ulaw_pick T) (hr.mono (by decide)) (T.glo 6) (kp_ulaw_pick T) (b_ulaw_pick T) (a_cons (v_var 0) (a_cons v_int a_nil)))) (a_cons (v_bin (ob_add rfl) (v_var 1) (v_call tk (ok_ulaw_pick T) (hr.mono (by decide)) (T.glo 6) (kp_ulaw_pick T) (b_ulaw_pick T) (a_cons (v_var 0) (a_cons (v_bin ob_pow v_int v_int) a_nil)))) a_nil)))))))))
      (s_cons (s_if (t_cmp (oc_eq rfl (hu64 hr)) (v_call tk (ok_ulaw_pick T) (hr.mono (by decide)) (T.glo 6) (kp_ulaw_pick T) (b_ulaw_pick T) (a_cons (v_var 0) (a_cons v_int a_nil))) v_int (nomark _)) (s_one (s_ret (v_ix rfl (v_var 2) (v_call tk (ok_ulaw_pick T) (hr.mono (by decide)) (T.glo 6) (kp_ulaw_pick T) (b_ulaw_pick T) (a_cons (v_var 0) (a_cons v_int a_nil)))))) s_nil)
      (s_one (s_ret (v_ix rfl (v_var 2) v_int)))))
theorem sc_ulaw_edges : FnScope ["source", "size", "span", "pairs", "k", "one", "other", "at", "wrong", "due", "pair"] ["source"] (defScope s_ulaw_edges) := ⟨rfl, rfl, rfl, by decide +kernel, rfl, by decide +kernel, by decide +kernel⟩
theorem F_ulaw_edges (T : TT K mg) : FunD K "_law_edges" "_law_edges" (defArgs s_ulaw_edges) (defBody s_ulaw_edges) (defScope s_ulaw_edges) (d_ulaw_edges.dvs K) [] (He.fAd K at_ulaw_edges) (fdOf K at_ulaw_edges) := T.c.fd 4 (d := d_ulaw_edges) rfl
theorem kp_ulaw_edges (T : TT K mg) : PySem.W.keepIn K (.ref (He.fAd K at_ulaw_edges)) = true := (F_ulaw_edges T).kp
theorem b_ulaw_edges (T : TT K mg) : Binds K (fdOf K at_ulaw_edges) ["source"] [] := FunD.bindsN (F_ulaw_edges T) fun _ _ _ _ _ _ us hl => match us, hl with | [_], _ => rfl
theorem ok_ulaw_edges (T : TT K mg) : FnOk P w K mg base (L2.CX P w) 3 (He.fAd K at_ulaw_edges) (fdOf K at_ulaw_edges) ["source"] (spM (tx K) 1 m_ulaw_edges) :=
  fn_okM (Df.of (st := s_ulaw_edges) (F_ulaw_edges T)) sc_ulaw_edges fun cdv A outer s H E hr => by
    have tk : Takes (cxOf (L2.CX P w) P w K mg base ["source", "size", "span", "pairs", "k", "one", "other", "at", "wrong", "due", "pair"] "_law_edges" (defScope s_ulaw_edges) (He.fAd K at_ulaw_edges) cdv A outer s H E) (WB E) := takes_of rfl rfl rfl rfl
    have hp : PassesOwn (model P w) (cxOf (L2.CX P w) P w K mg base ["source", "size", "span", "pairs", "k", "one", "other", "at", "wrong", "due", "pair"] "_law_edges" (defScope s_ulaw_edges) (He.fAd K at_ulaw_edges) cdv A outer s H E).A (cxOf (L2.CX P w) P w K mg base ["source", "size", "span", "pairs", "k", "one", "other", "at", "wrong", "due", "pair"] "_law_edges" (defScope s_ulaw_edges) (He.fAd K at_ulaw_edges) cdv A outer s H E).env (cxOf (L2.CX P w) P w K mg base ["source", "size", "span", "pairs", "k", "one", "other", "at", "wrong", "due", "pair"] "_law_edges" (defScope s_ulaw_edges) (He.fAd K at_ulaw_edges) cdv A outer s H E).xe := passes_of rfl
    exact (s_cons (s_set 1 sc_ulaw_edges.nd (v_call tk (ok_ulaw_size T) (hr.mono (by decide)) (T.glo 7) (kp_ulaw_size T) (b_ulaw_size T) (a_cons (v_var 0) (a_cons v_int a_nil))))
      (s_cons (s_set 2 sc_ulaw_edges.nd (v_callB (ok_max rfl) rfl (T.free 8) (a_cons v_int (a_cons (v_callB (ok_min rfl) rfl (T.free 1) (a_cons (v_var 1) (a_cons v_int a_nil))) a_nil))))
      (s_cons (s_set 3 sc_ulaw_edges.nd (v_lst false a_nil))
      (s_cons (s_for (vs := [4]) hp rfl (i_range (T.free 2) (v_ix rfl (v_lst true (a_cons (v_call tk (ok_ulaw_pick T) (hr.mono (by decide)) (T.glo 6) (kp_ulaw_pick T) (b_ulaw_pick T) (a_cons (v_var 0) (a_cons v_int a_nil))) (a_cons (v_call tk (ok_ulaw_pick T) (hr.mono (by decide)) (T.glo 6) (kp_ulaw_pick T) (b_ulaw_pick T) (a_cons (v_var 0) (a_cons v_int a_nil))) (a_cons v_int (a_cons v_int a_nil))))) (v_call tk (ok_ulaw_pick T) (hr.mono (by decide)) (T.glo 6) (kp_ulaw_pick T) (b_ulaw_pick T) (a_cons (v_var 0) (a_cons v_int a_nil))))) (g_name 4 sc_ulaw_edges.nd) (s_cons (s_set 5 sc_ulaw_edges.nd (v_call tk (ok_ulaw_pick T) (hr.mono (by decide)) (T.glo 6) (kp_ulaw_pick T) (b_ulaw_pick T) (a_cons (v_var 0) (a_cons (v_var 2) a_nil))))
      (s_cons (s_set 6 sc_ulaw_edges.nd (v_bin ob_mod (v_callT ok_int rfl (T.free 3) (a_cons (v_bin (ob_add rfl) (v_bin (ob_add rfl) (v_var 5) v_int) (v_call tk (ok_ulaw_pick T) (hr.mono (by decide)) (T.glo 6) (kp_ulaw_pick T) (b_ulaw_pick T) (a_cons (v_var 0) (a_cons (v_bin ob_sub (v_var 2) v_int) a_nil)))) a_nil)) (v_var 2)))
      (s_one (s_expr (v_mb PySem.F.plainAttrs_list PySem.F.slot_list_append PySem.F.type_list_append ok_append ls_ty (v_var 3) (a_cons (v_tup (a_cons (v_callB (ok_min rfl) rfl (T.free 1) (a_cons (v_var 5) (a_cons (v_var 6) a_nil))) (a_cons (v_callB (ok_max rfl) rfl (T.free 8) (a_cons (v_var 5) (a_cons (v_var 6) a_nil))) a_nil))) a_nil)))))))
      (s_cons (s_if (PW.pt (w_and (t_cmp (oc_ne rfl (hu64 hr)) (v_var 3) (v_lst true a_nil) (nomark _)) (pw_and1 (t_cmp (oc_eq rfl (hu64 hr)) (v_call tk (ok_ulaw_pick T) (hr.mono (by decide)) (T.glo 6) (kp_ulaw_pick T) (b_ulaw_pick T) (a_cons (v_var 0) (a_cons v_int a_nil))) v_int (nomark _))))) (s_cons (s_set 7 sc_ulaw_edges.nd (v_call tk (ok_ulaw_pick T) (hr.mono (by decide)) (T.glo 6) (kp_ulaw_pick T) (b_ulaw_pick T) (a_cons (v_var 0) (a_cons (v_callB (ok_len rfl) rfl (T.free 0) (a_cons (v_var 3) a_nil)) a_nil))))
      (s_cons (s_tg (vs := [5, 6]) (v_ix rfl (v_var 3) (v_var 7)) (g_tup rfl rfl (gs_cons (g_name 5 sc_ulaw_edges.nd) (gs_cons (g_name 6 sc_ulaw_edges.nd) gs_nil))))
      (s_cons (s_set 8 sc_ulaw_edges.nd (v_lst true (a_cons (v_tup (a_cons (v_var 6) (a_cons (v_var 5) a_nil))) (a_cons (v_tup (a_cons (v_var 5) (a_cons (v_var 5) a_nil))) (a_cons (v_tup (a_cons (v_var 5) (a_cons (v_var 2) a_nil))) (a_cons (v_tup (a_cons (v_bin ob_sub v_int v_int) (a_cons (v_var 6) a_nil))) (a_cons (v_tup (a_cons (v_var 6) (a_cons (v_var 6) a_nil))) (a_cons (v_tup (a_cons (v_var 5) (a_cons (v_bin (ob_add rfl) (v_var 2) (v_call tk (ok_ulaw_pick T) (hr.mono (by decide)) (T.glo 6) (kp_ulaw_pick T) (b_ulaw_pick T) (a_cons (v_var 0) (a_cons (v_bin ob_pow v_int v_int) a_nil)))) a_nil))) a_nil))))))))
      (s_one (s_sub (v_ix rfl (v_var 8) (v_call tk (ok_ulaw_pick T) (hr.mono (by decide)) (T.glo 6) (kp_ulaw_pick T) (b_ulaw_pick T) (a_cons (v_var 0) (a_cons v_int a_nil)))) (v_var 3) (v_var 7)))))) s_nil)
      (s_cons (s_set 9 sc_ulaw_edges.nd v_non)
      (s_cons (s_if (PW.pt (w_or (t_cmp oc_lt (v_var 1) v_int (nomark _)) (pw_or1 (t_cmp oc_gt (v_var 1) v_int (nomark _))))) (s_one (s_set 9 sc_ulaw_edges.nd v_str)) (s_one (s_if (PW.pt (w_or (t_cmp oc_gt (v_callB (ok_len rfl) rfl (T.free 0) (a_cons (v_var 3) a_nil)) v_int (nomark _)) (pw_or1 (t_cmp (oc_ne rfl (hu64 hr)) (v_lc true [("pair", 10)] rfl sc_ulaw_edges.nd (i_seq rfl (v_var 3)) (blkOk_by (by kernel_rfl)) (fun _ _ _ _ _ => (g_name 10 sc_ulaw_edges.nd)) (fun _ _ _ _ _ => (ts_one (t_not (PW.pt (w_and (t_cmp oc_le v_int (v_ix rfl (v_var 10) v_int) (nomark _)) (w_and (t_cmp oc_lt (v_ix rfl (v_var 10) v_int) (v_ix rfl (v_var 10) v_int) (nomark _)) (pw_and1 (t_cmp oc_lt (v_ix rfl (v_var 10) v_int) (v_var 1) (nomark _))))))))) (fun _ _ _ _ _ => (v_var 10))) (v_lst true a_nil) (nomark _))))) (s_one (s_set 9 sc_ulaw_edges.nd v_str)) s_nil)))
      (s_one (s_ret (v_tup (a_cons (v_var 1) (a_cons (v_var 3) (a_cons (v_var 9) a_nil)))))))))))))
theorem sc_ulaw_place : FnScope ["source", "far"] ["source", "far"] (defScope s_ulaw_place) := ⟨rfl, rfl, rfl, by decide +kernel, rfl, by decide +kernel, by decide +kernel⟩
theorem F_ulaw_place (T : TT K mg) : FunD K "_law_place" "_law_place" (defArgs s_ulaw_place) (defBody s_ulaw_place) (defScope s_ulaw_place) (d_ulaw_place.dvs K) [] (He.fAd K at_ulaw_place) (fdOf K at_ulaw_place) := T.c.fd 5 (d := d_ulaw_place) rfl
theorem kp_ulaw_place (T : TT K mg) : PySem.W.keepIn K (.ref (He.fAd K at_ulaw_place)) = true := (F_ulaw_place T).kp
theorem b_ulaw_place (T : TT K mg) : Binds K (fdOf K at_ulaw_place) ["source", "far"] [] := FunD.bindsN (F_ulaw_place T) fun _ _ _ _ _ _ us hl => match us, hl with | [_, _], _ => rfl
theorem ok_ulaw_place (T : TT K mg) : FnOk P w K mg base (L2.CX P w) 2 (He.fAd K at_ulaw_place) (fdOf K at_ulaw_place) ["source", "far"] (spM (tx K) 2 m_ulaw_place) :=
  fn_okM (Df.of (st := s_ulaw_place) (F_ulaw_place T)) sc_ulaw_place fun cdv A outer s H E hr => by
    have tk : Takes (cxOf (L2.CX P w) P w K mg base ["source", "far"] "_law_place" (defScope s_ulaw_place) (He.fAd K at_ulaw_place) cdv A outer s H E) (WB E) := takes_of rfl rfl rfl rfl
    have hp : PassesOwn (model P w) (cxOf (L2.CX P w) P w K mg base ["source", "far"] "_law_place" (defScope s_ulaw_place) (He.fAd K at_ulaw_place) cdv A outer s H E).A (cxOf (L2.CX P w) P w K mg base ["source", "far"] "_law_place" (defScope s_ulaw_place) (He.fAd K at_ulaw_place) cdv A outer s H E).env (cxOf (L2.CX P w) P w K mg base ["source", "far"] "_law_place" (defScope s_ulaw_place) (He.fAd K at_ulaw_place) cdv A outer s H E).xe := passes_of rfl
    exact (s_one (s_ret (v_bin (ob_add rfl) (v_bin ob_mul (v_bin ob_sub (v_call tk (ok_ulaw_pick T) (hr.mono (by decide)) (T.glo 6) (kp_ulaw_pick T) (b_ulaw_pick T) (a_cons (v_var 0) (a_cons v_int a_nil))) v_int) (v_ix rfl (v_lst true (a_cons v_int (a_cons (v_bin (ob_add rfl) (v_bin ob_pow v_int v_int) v_int) a_nil))) (v_var 1))) (v_bin ob_mul (v_call tk (ok_ulaw_pick T) (hr.mono (by decide)) (T.glo 6) (kp_ulaw_pick T) (b_ulaw_pick T) (a_cons (v_var 0) (a_cons v_int a_nil))) (v_var 1)))))
theorem sc_ulaw_bodies : FnScope ["source", "size", "span", "far", "rods", "k", "one", "other", "x", "y", "at", "last", "end", "wrong", "due"] ["source"] (defScope s_ulaw_bodies) := ⟨rfl, rfl, rfl, by decide +kernel, rfl, by decide +kernel, by decide +kernel⟩
theorem F_ulaw_bodies (T : TT K mg) : FunD K "_law_bodies" "_law_bodies" (defArgs s_ulaw_bodies) (defBody s_ulaw_bodies) (defScope s_ulaw_bodies) (d_ulaw_bodies.dvs K) [] (He.fAd K at_ulaw_bodies) (fdOf K at_ulaw_bodies) := T.c.fd 6 (d := d_ulaw_bodies) rfl
theorem kp_ulaw_bodies (T : TT K mg) : PySem.W.keepIn K (.ref (He.fAd K at_ulaw_bodies)) = true := (F_ulaw_bodies T).kp
theorem b_ulaw_bodies (T : TT K mg) : Binds K (fdOf K at_ulaw_bodies) ["source"] [] := FunD.bindsN (F_ulaw_bodies T) fun _ _ _ _ _ _ us hl => match us, hl with | [_], _ => rfl
theorem ok_ulaw_bodies (T : TT K mg) : FnOk P w K mg base (L2.CX P w) 3 (He.fAd K at_ulaw_bodies) (fdOf K at_ulaw_bodies) ["source"] (spM (tx K) 1 m_ulaw_bodies) :=
  fn_okM (Df.of (st := s_ulaw_bodies) (F_ulaw_bodies T)) sc_ulaw_bodies fun cdv A outer s H E hr => by
    have tk : Takes (cxOf (L2.CX P w) P w K mg base ["source", "size", "span", "far", "rods", "k", "one", "other", "x", "y", "at", "last", "end", "wrong", "due"] "_law_bodies" (defScope s_ulaw_bodies) (He.fAd K at_ulaw_bodies) cdv A outer s H E) (WB E) := takes_of rfl rfl rfl rfl
    have hp : PassesOwn (model P w) (cxOf (L2.CX P w) P w K mg base ["source", "size", "span", "far", "rods", "k", "one", "other", "x", "y", "at", "last", "end", "wrong", "due"] "_law_bodies" (defScope s_ulaw_bodies) (He.fAd K at_ulaw_bodies) cdv A outer s H E).A (cxOf (L2.CX P w) P w K mg base ["source", "size", "span", "far", "rods", "k", "one", "other", "x", "y", "at", "last", "end", "wrong", "due"] "_law_bodies" (defScope s_ulaw_bodies) (He.fAd K at_ulaw_bodies) cdv A outer s H E).env (cxOf (L2.CX P w) P w K mg base ["source", "size", "span", "far", "rods", "k", "one", "other", "x", "y", "at", "last", "end", "wrong", "due"] "_law_bodies" (defScope s_ulaw_bodies) (He.fAd K at_ulaw_bodies) cdv A outer s H E).xe := passes_of rfl
    exact (s_cons (s_set 1 sc_ulaw_bodies.nd (v_call tk (ok_ulaw_size T) (hr.mono (by decide)) (T.glo 7) (kp_ulaw_size T) (b_ulaw_size T) (a_cons (v_var 0) (a_cons v_int a_nil))))
      (s_cons (s_set 2 sc_ulaw_bodies.nd (v_callB (ok_max rfl) rfl (T.free 8) (a_cons v_int (a_cons (v_callB (ok_min rfl) rfl (T.free 1) (a_cons (v_var 1) (a_cons v_int a_nil))) a_nil))))
      (s_cons (s_set 3 sc_ulaw_bodies.nd (v_callT ok_int rfl (T.free 3) (a_cons (v_cmp (oc_eq rfl (hu64 hr)) (v_call tk (ok_ulaw_pick T) (hr.mono (by decide)) (T.glo 6) (kp_ulaw_pick T) (b_ulaw_pick T) (a_cons (v_var 0) (a_cons v_int a_nil))) v_int (nomark _)) a_nil)))
      (s_cons (s_set 4 sc_ulaw_bodies.nd (v_lst false a_nil))
      (s_cons (s_for (vs := [5]) hp rfl (i_range (T.free 2) (v_ix rfl (v_lst true (a_cons (v_call tk (ok_ulaw_pick T) (hr.mono (by decide)) (T.glo 6) (kp_ulaw_pick T) (b_ulaw_pick T) (a_cons (v_var 0) (a_cons v_int a_nil))) (a_cons (v_call tk (ok_ulaw_pick T) (hr.mono (by decide)) (T.glo 6) (kp_ulaw_pick T) (b_ulaw_pick T) (a_cons (v_var 0) (a_cons v_int a_nil))) (a_cons v_int (a_cons v_int a_nil))))) (v_call tk (ok_ulaw_pick T) (hr.mono (by decide)) (T.glo 6) (kp_ulaw_pick T) (b_ulaw_pick T) (a_cons (v_var 0) (a_cons v_int a_nil))))) (g_name 5 sc_ulaw_bodies.nd) (s_cons (s_set 6 sc_ulaw_bodies.nd (v_call tk (ok_ulaw_pick T) (hr.mono (by decide)) (T.glo 6) (kp_ulaw_pick T) (b_ulaw_pick T) (a_cons (v_var 0) (a_cons (v_var 2) a_nil))))
      (s_cons (s_set 7 sc_ulaw_bodies.nd (v_bin ob_mod (v_callT ok_int rfl (T.free 3) (a_cons (v_bin (ob_add rfl) (v_bin (ob_add rfl) (v_var 6) v_int) (v_call tk (ok_ulaw_pick T) (hr.mono (by decide)) (T.glo 6) (kp_ulaw_pick T) (b_ulaw_pick T) (a_cons (v_var 0) (a_cons (v_bin ob_sub (v_var 2) v_int) a_nil)))) a_nil)) (v_var 2)))
      (s_cons (s_set 8 sc_ulaw_bodies.nd (v_call tk (ok_ulaw_place T) (hr.mono (by decide)) (T.glo 10) (kp_ulaw_place T) (b_ulaw_place T) (a_cons (v_var 0) (a_cons (v_var 3) a_nil))))
      (s_cons (s_set 9 sc_ulaw_bodies.nd (v_call tk (ok_ulaw_place T) (hr.mono (by decide)) (T.glo 10) (kp_ulaw_place T) (b_ulaw_place T) (a_cons (v_var 0) (a_cons (v_var 3) a_nil))))
      (s_one (s_expr (v_mb PySem.F.plainAttrs_list PySem.F.slot_list_append PySem.F.type_list_append ok_append ls_ty (v_var 4) (a_cons (v_tup (a_cons (v_var 6) (a_cons (v_var 8) (a_cons (v_var 9) (a_cons (v_var 7) (a_cons (v_bin (ob_add rfl) (v_bin (ob_add rfl) (v_var 8) v_int) (v_call tk (ok_ulaw_pick T) (hr.mono (by decide)) (T.glo 6) (kp_ulaw_pick T) (b_ulaw_pick T) (a_cons (v_var 0) (a_cons v_int a_nil)))) (a_cons (v_ix rfl (v_lst true (a_cons (v_var 9) (a_cons (v_call tk (ok_ulaw_place T) (hr.mono (by decide)) (T.glo 10) (kp_ulaw_place T) (b_ulaw_place T) (a_cons (v_var 0) (a_cons (v_var 3) a_nil))) a_nil))) (v_call tk (ok_ulaw_pick T) (hr.mono (by decide)) (T.glo 6) (kp_ulaw_pick T) (b_ulaw_pick T) (a_cons (v_var 0) (a_cons v_int a_nil)))) a_nil))))))) a_nil)))))))))
      (s_cons (s_if (PW.pt (w_and (t_cmp (oc_ne rfl (hu64 hr)) (v_var 4) (v_lst true a_nil) (nomark _)) (pw_and1 (t_cmp (oc_eq rfl (hu64 hr)) (v_call tk (ok_ulaw_pick T) (hr.mono (by decide)) (T.glo 6) (kp_ulaw_pick T) (b_ulaw_pick T) (a_cons (v_var 0) (a_cons v_int a_nil))) v_int (nomark _))))) (s_cons (s_set 10 sc_ulaw_bodies.nd (v_call tk (ok_ulaw_pick T) (hr.mono (by decide)) (T.glo 6) (kp_ulaw_pick T) (b_ulaw_pick T) (a_cons (v_var 0) (a_cons (v_callB (ok_len rfl) rfl (T.free 0) (a_cons (v_var 4) a_nil)) a_nil))))
      (s_cons (s_tg (vs := [6, 8, 9, 7, 11, 12]) (v_ix rfl (v_var 4) (v_var 10)) (g_tup rfl rfl (gs_cons (g_name 6 sc_ulaw_bodies.nd) (gs_cons (g_name 8 sc_ulaw_bodies.nd) (gs_cons (g_name 9 sc_ulaw_bodies.nd) (gs_cons (g_name 7 sc_ulaw_bodies.nd) (gs_cons (g_name 11 sc_ulaw_bodies.nd) (gs_cons (g_name 12 sc_ulaw_bodies.nd) gs_nil))))))))
      (s_cons (s_set 13 sc_ulaw_bodies.nd (v_lst true (a_cons (v_tup (a_cons (v_var 6) (a_cons (v_var 8) (a_cons (v_var 9) (a_cons (v_var 6) (a_cons (v_var 11) (a_cons (v_var 12) a_nil))))))) (a_cons (v_tup (a_cons (v_var 6) (a_cons (v_var 8) (a_cons (v_var 9) (a_cons (v_var 7) (a_cons (v_var 8) (a_cons (v_var 9) a_nil))))))) (a_cons (v_tup (a_cons (v_var 2) (a_cons (v_var 8) (a_cons (v_var 9) (a_cons (v_var 7) (a_cons (v_var 11) (a_cons (v_var 12) a_nil))))))) (a_cons (v_tup (a_cons (v_var 6) (a_cons (v_var 8) (a_cons (v_var 9) (a_cons (v_bin ob_sub v_int v_int) (a_cons (v_var 11) (a_cons (v_var 12) a_nil))))))) a_nil))))))
      (s_one (s_sub (v_ix rfl (v_var 13) (v_call tk (ok_ulaw_pick T) (hr.mono (by decide)) (T.glo 6) (kp_ulaw_pick T) (b_ulaw_pick T) (a_cons (v_var 0) (a_cons v_int a_nil)))) (v_var 4) (v_var 10)))))) s_nil)
      (s_cons (s_set 14 sc_ulaw_bodies.nd v_non)
      (s_cons (s_if (PW.pt (w_or (t_cmp oc_lt (v_var 1) v_int (nomark _)) (pw_or1 (t_cmp oc_gt (v_var 1) v_int (nomark _))))) (s_one (s_set 14 sc_ulaw_bodies.nd v_str)) (s_one (s_if (t_cmp oc_gt (v_callB (ok_len rfl) rfl (T.free 0) (a_cons (v_var 4) a_nil)) v_int (nomark _)) (s_one (s_set 14 sc_ulaw_bodies.nd v_str)) s_nil)))
      (s_cons (s_for (vs := [6, 8, 9, 7, 11, 12]) hp rfl (i_seq rfl (v_var 4)) (g_tup rfl rfl (gs_cons (g_name 6 sc_ulaw_bodies.nd) (gs_cons (g_name 8 sc_ulaw_bodies.nd) (gs_cons (g_name 9 sc_ulaw_bodies.nd) (gs_cons (g_name 7 sc_ulaw_bodies.nd) (gs_cons (g_name 11 sc_ulaw_bodies.nd) (gs_cons (g_name 12 sc_ulaw_bodies.nd) gs_nil))))))) (s_one (s_if (PW.pt (w_and (t_cmp oc_is (v_var 14) v_non (nomark _)) (pw_and1 (PW.pt (w_or (t_cmp oc_lt (v_callB (ok_min rfl) rfl (T.free 1) (a_cons (v_var 6) (a_cons (v_var 7) a_nil))) v_int (nomark _)) (w_or (t_cmp oc_ge (v_callB (ok_max rfl) rfl (T.free 8) (a_cons (v_var 6) (a_cons (v_var 7) a_nil))) (v_var 1) (nomark _)) (w_or (t_cmp (oc_eq rfl (hu64 hr)) (v_var 6) (v_var 7) (nomark _)) (pw_or1 (t_cmp (oc_eq rfl (hu64 hr)) (v_tup (a_cons (v_var 8) (a_cons (v_var 9) a_nil))) (v_tup (a_cons (v_var 11) (a_cons (v_var 12) a_nil))) (nomark _)))))))))) (s_one (s_set 14 sc_ulaw_bodies.nd v_str)) s_nil)))
      (s_one (s_ret (v_tup (a_cons (v_var 1) (a_cons (v_var 4) (a_cons (v_var 14) a_nil)))))))))))))))
theorem sc_ulaw_grid : FnScope ["source", "rows", "columns", "words", "squares", "at", "wrong", "due", "x", "y", "row", "word"] ["source"] (defScope s_ulaw_grid) := ⟨rfl, rfl, rfl, by decide +kernel, rfl, by decide +kernel, by decide +kernel⟩
theorem F_ulaw_grid (T : TT K mg) : FunD K "_law_grid" "_law_grid" (defArgs s_ulaw_grid) (defBody s_ulaw_grid) (defScope s_ulaw_grid) (d_ulaw_grid.dvs K) [] (He.fAd K at_ulaw_grid) (fdOf K at_ulaw_grid) := T.c.fd 7 (d := d_ulaw_grid) rfl
theorem kp_ulaw_grid (T : TT K mg) : PySem.W.keepIn K (.ref (He.fAd K at_ulaw_grid)) = true := (F_ulaw_grid T).kp
theorem b_ulaw_grid (T : TT K mg) : Binds K (fdOf K at_ulaw_grid) ["source"] [] := FunD.bindsN (F_ulaw_grid T) fun _ _ _ _ _ _ us hl => match us, hl with | [_], _ => rfl
theorem ok_ulaw_grid (T : TT K mg) : FnOk P w K mg base (L2.CX P w) 2 (He.fAd K at_ulaw_grid) (fdOf K at_ulaw_grid) ["source"] (spM (tx K) 1 m_ulaw_grid) :=
  fn_okM (Df.of (st := s_ulaw_grid) (F_ulaw_grid T)) sc_ulaw_grid fun cdv A outer s H E hr => by
    have tk : Takes (cxOf (L2.CX P w) P w K mg base ["source", "rows", "columns", "words", "squares", "at", "wrong", "due", "x", "y", "row", "word"] "_law_grid" (defScope s_ulaw_grid) (He.fAd K at_ulaw_grid) cdv A outer s H E) (WB E) := takes_of rfl rfl rfl rfl
    have hp : PassesOwn (model P w) (cxOf (L2.CX P w) P w K mg base ["source", "rows", "columns", "words", "squares", "at", "wrong", "due", "x", "y", "row", "word"] "_law_grid" (defScope s_ulaw_grid) (He.fAd K at_ulaw_grid) cdv A outer s H E).A (cxOf (L2.CX P w) P w K mg base ["source", "rows", "columns", "words", "squares", "at", "wrong", "due", "x", "y", "row", "word"] "_law_grid" (defScope s_ulaw_grid) (He.fAd K at_ulaw_grid) cdv A outer s H E).env (cxOf (L2.CX P w) P w K mg base ["source", "rows", "columns", "words", "squares", "at", "wrong", "due", "x", "y", "row", "word"] "_law_grid" (defScope s_ulaw_grid) (He.fAd K at_ulaw_grid) cdv A outer s H E).xe := passes_of rfl
    exact (s_cons (s_set 1 sc_ulaw_grid.nd (v_ix rfl (v_lst true (a_cons (v_bin (ob_add rfl) v_int (v_call tk (ok_ulaw_pick T) (hr.mono (by decide)) (T.glo 6) (kp_ulaw_pick T) (b_ulaw_pick T) (a_cons (v_var 0) (a_cons v_int a_nil)))) (a_cons v_int (a_cons (v_call tk (ok_ulaw_pick T) (hr.mono (by decide)) (T.glo 6) (kp_ulaw_pick T) (b_ulaw_pick T) (a_cons (v_var 0) (a_cons v_int a_nil))) a_nil)))) (v_call tk (ok_ulaw_pick T) (hr.mono (by decide)) (T.glo 6) (kp_ulaw_pick T) (b_ulaw_pick T) (a_cons (v_var 0) (a_cons v_int a_nil)))))
      (s_cons (s_set 2 sc_ulaw_grid.nd (v_ix rfl (v_lst true (a_cons (v_bin (ob_add rfl) v_int (v_call tk (ok_ulaw_pick T) (hr.mono (by decide)) (T.glo 6) (kp_ulaw_pick T) (b_ulaw_pick T) (a_cons (v_var 0) (a_cons v_int a_nil)))) (a_cons v_int (a_cons (v_call tk (ok_ulaw_pick T) (hr.mono (by decide)) (T.glo 6) (kp_ulaw_pick T) (b_ulaw_pick T) (a_cons (v_var 0) (a_cons v_int a_nil))) a_nil)))) (v_call tk (ok_ulaw_pick T) (hr.mono (by decide)) (T.glo 6) (kp_ulaw_pick T) (b_ulaw_pick T) (a_cons (v_var 0) (a_cons v_int a_nil)))))
      (s_cons (s_set 3 sc_ulaw_grid.nd (v_lst true (a_cons v_str (a_cons v_str (a_cons v_str (a_cons v_str (a_cons v_str a_nil)))))))
      (s_cons (s_set 4 sc_ulaw_grid.nd (v_lc false [("y", 9)] rfl sc_ulaw_grid.nd (i_range (T.free 2) (v_var 1)) (blkOk_by (by kernel_rfl)) (fun _ _ _ _ _ => (g_name 9 sc_ulaw_grid.nd)) (fun _ _ _ _ _ => ts_nil) (fun _ _ _ _ _ => (v_lc true [("x", 8)] rfl sc_ulaw_grid.nd (i_range (T.free 2) (v_var 2)) (blkOk_by (by kernel_rfl)) (fun _ _ _ _ _ => (g_name 8 sc_ulaw_grid.nd)) (fun _ _ _ _ _ => ts_nil) (fun _ _ _ _ _ => (v_ix rfl (v_var 3) (v_call takes0 (ok_ulaw_pick T) (hr.mono (by decide)) (T.glo 6) (kp_ulaw_pick T) (b_ulaw_pick T) (a_cons (v_var 0) (a_cons v_int a_nil)))))))))
      (s_cons (s_if (PW.pt (w_and (t_cmp oc_gt (v_var 1) v_int (nomark _)) (pw_and1 (t_cmp (oc_eq rfl (hu64 hr)) (v_call tk (ok_ulaw_pick T) (hr.mono (by decide)) (T.glo 6) (kp_ulaw_pick T) (b_ulaw_pick T) (a_cons (v_var 0) (a_cons v_int a_nil))) v_int (nomark _))))) (s_cons (s_set 5 sc_ulaw_grid.nd (v_call tk (ok_ulaw_pick T) (hr.mono (by decide)) (T.glo 6) (kp_ulaw_pick T) (b_ulaw_pick T) (a_cons (v_var 0) (a_cons (v_var 1) a_nil))))
      (s_one (s_if (PW.pt (w_and (t_cmp (oc_eq rfl (hu64 hr)) (v_call tk (ok_ulaw_pick T) (hr.mono (by decide)) (T.glo 6) (kp_ulaw_pick T) (b_ulaw_pick T) (a_cons (v_var 0) (a_cons v_int a_nil))) v_int (nomark _)) (pw_and1 (t_cmp oc_gt (v_var 2) v_int (nomark _))))) (s_cons (s_sub (v_callTL false (ok_list rfl) rfl (T.free 12) (a_cons (v_ix rfl (v_var 4) (v_var 5)) a_nil)) (v_var 4) (v_var 5))
      (s_one (s_expr (v_mb0 PySem.F.plainAttrs_list PySem.F.slot_list_pop PySem.F.type_list_pop ok_pop ls_ty (v_ix rfl (v_var 4) (v_var 5)))))) (s_one (s_sub (v_bin (ob_add rfl) (v_ix rfl (v_var 4) (v_var 5)) (v_lst true (a_cons v_str a_nil))) (v_var 4) (v_var 5)))))) s_nil)
      (s_cons (s_if (PW.pt (w_and (t_cmp oc_gt (v_var 1) v_int (nomark _)) (pw_and1 (t_cmp (oc_eq rfl (hu64 hr)) (v_call tk (ok_ulaw_pick T) (hr.mono (by decide)) (T.glo 6) (kp_ulaw_pick T) (b_ulaw_pick T) (a_cons (v_var 0) (a_cons v_int a_nil))) v_int (nomark _))))) (s_cons (s_set 5 sc_ulaw_grid.nd (v_call tk (ok_ulaw_pick T) (hr.mono (by decide)) (T.glo 6) (kp_ulaw_pick T) (b_ulaw_pick T) (a_cons (v_var 0) (a_cons (v_var 1) a_nil))))
      (s_cons (s_set 6 sc_ulaw_grid.nd (v_ix rfl (v_lst true (a_cons v_str (a_cons v_str (a_cons v_str (a_cons v_str (a_cons v_str (a_cons v_str a_nil))))))) (v_call tk (ok_ulaw_pick T) (hr.mono (by decide)) (T.glo 6) (kp_ulaw_pick T) (b_ulaw_pick T) (a_cons (v_var 0) (a_cons v_int a_nil)))))
      (s_one (s_sub (v_bin (ob_add rfl) (v_lst true (a_cons (v_var 6) a_nil)) (v_sl true rfl (v_ix rfl (v_var 4) (v_var 5)) (o_some v_int) o_none)) (v_var 4) (v_var 5))))) s_nil)
      (s_cons (s_set 7 sc_ulaw_grid.nd v_non)
      (s_cons (s_if (PW.pt (w_or (t_cmp oc_lt (v_var 1) v_int (nomark _)) (w_or (t_cmp oc_gt (v_var 1) v_int (nomark _)) (w_or (t_cmp oc_lt (v_callB (ok_len rfl) rfl (T.free 0) (a_cons (v_ix rfl (v_var 4) v_int) a_nil)) v_int (nomark _)) (pw_or1 (t_cmp oc_gt (v_callB (ok_len rfl) rfl (T.free 0) (a_cons (v_ix rfl (v_var 4) v_int) a_nil)) v_int (nomark _))))))) (s_one (s_set 7 sc_ulaw_grid.nd v_str)) (s_one (s_if (t_cmp (oc_ne rfl (hu64 hr)) (v_lc true [("row", 10)] rfl sc_ulaw_grid.nd (i_seq rfl (v_var 4)) (blkOk_by (by kernel_rfl)) (fun _ _ _ _ _ => (g_name 10 sc_ulaw_grid.nd)) (fun _ _ _ _ _ => (ts_one (t_cmp (oc_ne rfl (hu64 hr)) (v_callB (ok_len rfl) rfl (T.free 0) (a_cons (v_var 10) a_nil)) (v_callB (ok_len rfl) rfl (T.free 0) (a_cons (v_ix rfl (v_var 4) v_int) a_nil)) (nomark _)))) (fun _ _ _ _ _ => (v_var 10))) (v_lst true a_nil) (nomark _)) (s_one (s_set 7 sc_ulaw_grid.nd v_str)) (s_one (s_if (t_cmp (oc_ne rfl (hu64 hr)) (v_lc true [("row", 10)] rfl sc_ulaw_grid.nd (i_seq rfl (v_var 4)) (blkOk_by (by kernel_rfl)) (fun _ _ _ _ _ => (g_name 10 sc_ulaw_grid.nd)) (fun _ _ _ _ _ => (ts_one (t_cmp (oc_ne rfl (hu64 hr)) (v_lc true [("word", 11)] rfl sc_ulaw_grid.nd (i_seq rfl (v_var 10)) (blkOk_by (by kernel_rfl)) (fun _ _ _ _ _ => (g_name 11 sc_ulaw_grid.nd)) (fun _ _ _ _ _ => (ts_one (t_cmp (oc_nin rfl (hu65 hr)) (v_var 11) (v_var 3) rfl))) (fun _ _ _ _ _ => (v_var 11))) (v_lst true a_nil) (nomark _)))) (fun _ _ _ _ _ => (v_var 10))) (v_lst true a_nil) (nomark _)) (s_one (s_set 7 sc_ulaw_grid.nd v_str)) s_nil)))))
      (s_one (s_ret (v_tup (a_cons (v_var 1) (a_cons (v_var 4) (a_cons (v_var 7) a_nil))))))))))))))
theorem sc_Edges___init__ : FnScope ["self", "size", "pairs", "pair", "one", "other"] ["self", "size", "pairs"] (defScope s_Edges___init__) := ⟨rfl, rfl, rfl, by decide +kernel, rfl, by decide +kernel, by decide +kernel⟩
theorem F_Edges___init__ (T : TT K mg) : FunD K "__init__" "Edges.__init__" (defArgs s_Edges___init__) (defBody s_Edges___init__) (defScope s_Edges___init__) (d_Edges___init__.dvs K) [] (He.fAd K at_Edges___init__) (fdOf K at_Edges___init__) := T.c.fd 8 (d := d_Edges___init__) rfl
theorem kp_Edges___init__ (T : TT K mg) : PySem.W.keepIn K (.ref (He.fAd K at_Edges___init__)) = true := (F_Edges___init__ T).kp
theorem b_Edges___init__ (T : TT K mg) : Binds K (fdOf K at_Edges___init__) ["self", "size", "pairs"] [] := FunD.bindsN (F_Edges___init__ T) fun _ _ _ _ _ _ us hl => match us, hl with | [_, _, _], _ => rfl
theorem ok_Edges___init__ (T : TT K mg) : FnOk P w K mg base (L2.CX P w) 1 (He.fAd K at_Edges___init__) (fdOf K at_Edges___init__) ["self", "size", "pairs"] (spM (tx K) 3 m_Edges___init__) :=
  fn_okM (Df.of (st := s_Edges___init__) (F_Edges___init__ T)) sc_Edges___init__ fun cdv A outer s H E hr => by
    have tk : Takes (cxOf (L2.CX P w) P w K mg base ["self", "size", "pairs", "pair", "one", "other"] "Edges.__init__" (defScope s_Edges___init__) (He.fAd K at_Edges___init__) cdv A outer s H E) (WB E) := takes_of rfl rfl rfl rfl
    have hp : PassesOwn (model P w) (cxOf (L2.CX P w) P w K mg base ["self", "size", "pairs", "pair", "one", "other"] "Edges.__init__" (defScope s_Edges___init__) (He.fAd K at_Edges___init__) cdv A outer s H E).A (cxOf (L2.CX P w) P w K mg base ["self", "size", "pairs", "pair", "one", "other"] "Edges.__init__" (defScope s_Edges___init__) (He.fAd K at_Edges___init__) cdv A outer s H E).env (cxOf (L2.CX P w) P w K mg base ["self", "size", "pairs", "pair", "one", "other"] "Edges.__init__" (defScope s_Edges___init__) (He.fAd K at_Edges___init__) cdv A outer s H E).xe := passes_of rfl
    exact (s_cons (s_fld rfl (clsAll T) 25 (v_var 0) (v_var 1))
      (s_cons (s_fld rfl (clsAll T) 26 (v_var 0) (v_callT (ok_tuple rfl) rfl (T.free 14) (a_cons (v_lc true [("pair", 3)] rfl sc_Edges___init__.nd (i_seq rfl (v_var 2)) (blkOk_by (by kernel_rfl)) (fun _ _ _ _ _ => (g_name 3 sc_Edges___init__.nd)) (fun _ _ _ _ _ => ts_nil) (fun _ _ _ _ _ => (v_callT (ok_tuple rfl) rfl (T.free 14) (a_cons (v_var 3) a_nil)))) a_nil)))
      (s_cons (s_if (t_not (t_chain oc_le oc_le v_int (v_var 1) (v_gint (T.gint 15)))) (s_one (s_raiseB rfl tk (ia_BadEdges T) hr (T.free 16) (T.glo 17) (T.rai 18) rfl (by decide) v_str)) s_nil)
      (s_cons (s_if (t_cmp oc_gt (v_callB (ok_len rfl) rfl (T.free 0) (a_cons (v_fld rfl (clsAll T) 26 (v_var 0)) a_nil)) (v_gint (T.gint 19)) (nomark _)) (s_one (s_raiseB rfl tk (ia_BadEdges T) hr (T.free 16) (T.glo 17) (T.rai 18) rfl (by decide) v_str)) s_nil)
      (s_one (s_if (t_not (t_tru rfl (v_callB (ok_all rfl) rfl (T.free 20) (a_cons (v_lc true [("one", 4), ("other", 5)] rfl sc_Edges___init__.nd (i_seq rfl (v_fld rfl (clsAll T) 26 (v_var 0))) (blkOk_by (by kernel_rfl)) (fun _ _ _ _ _ => (g_tup rfl rfl (gs_cons (g_name 4 sc_Edges___init__.nd) (gs_cons (g_name 5 sc_Edges___init__.nd) gs_nil)))) (fun _ _ _ _ _ => ts_nil) (fun _ _ _ _ _ => (v_chain3 oc_le oc_lt oc_lt v_int (v_var 4) (v_var 5) (v_var 1)))) a_nil)))) (s_one (s_raiseB rfl tk (ia_BadEdges T) hr (T.free 16) (T.glo 17) (T.rai 18) rfl (by decide) v_str)) s_nil))))))
theorem sc_ufits : FnScope ["rod", "size", "one", "other"] ["rod", "size"] (defScope s_ufits) := ⟨rfl, rfl, rfl, by decide +kernel, rfl, by decide +kernel, by decide +kernel⟩
theorem F_ufits (T : TT K mg) : FunD K "_fits" "_fits" (defArgs s_ufits) (defBody s_ufits) (defScope s_ufits) (d_ufits.dvs K) [] (He.fAd K at_ufits) (fdOf K at_ufits) := T.c.fd 9 (d := d_ufits) rfl
theorem kp_ufits (T : TT K mg) : PySem.W.keepIn K (.ref (He.fAd K at_ufits)) = true := (F_ufits T).kp
theorem b_ufits (T : TT K mg) : Binds K (fdOf K at_ufits) ["rod", "size"] [] := FunD.bindsN (F_ufits T) fun _ _ _ _ _ _ us hl => match us, hl with | [_, _], _ => rfl
theorem ok_ufits (T : TT K mg) : FnOk P w K mg base (L2.CX P w) 1 (He.fAd K at_ufits) (fdOf K at_ufits) ["rod", "size"] (spM (tx K) 2 m_ufits) :=
  fn_okM (Df.of (st := s_ufits) (F_ufits T)) sc_ufits fun cdv A outer s H E hr => by
    have tk : Takes (cxOf (L2.CX P w) P w K mg base ["rod", "size", "one", "other"] "_fits" (defScope s_ufits) (He.fAd K at_ufits) cdv A outer s H E) (WB E) := takes_of rfl rfl rfl rfl
    have hp : PassesOwn (model P w) (cxOf (L2.CX P w) P w K mg base ["rod", "size", "one", "other"] "_fits" (defScope s_ufits) (He.fAd K at_ufits) cdv A outer s H E).A (cxOf (L2.CX P w) P w K mg base ["rod", "size", "one", "other"] "_fits" (defScope s_ufits) (He.fAd K at_ufits) cdv A outer s H E).env (cxOf (L2.CX P w) P w K mg base ["rod", "size", "one", "other"] "_fits" (defScope s_ufits) (He.fAd K at_ufits) cdv A outer s H E).xe := passes_of rfl
    exact (s_cons (s_par 2 3 rfl sc_ufits.nd (a_cons (v_ix rfl (v_var 0) v_int) (a_cons (v_ix rfl (v_var 0) v_int) a_nil)))
      (s_one (s_ret (v_and (v_chain oc_le oc_lt v_int (v_var 2) (v_var 1)) (v_and (v_chain oc_le oc_lt v_int (v_var 3) (v_var 1)) (v_and (v_cmp (oc_ne rfl (hu64 hr)) (v_var 2) (v_var 3) (nomark _)) (v_one (v_cmp (oc_ne rfl (hu64 hr)) (v_sl true rfl (v_var 0) (o_some v_int) (o_some v_int)) (v_sl true rfl (v_var 0) (o_some v_int) o_none) (nomark _)))))))))
theorem sc_Bodies___init__ : FnScope ["self", "size", "rods", "rod"] ["self", "size", "rods"] (defScope s_Bodies___init__) := ⟨rfl, rfl, rfl, by decide +kernel, rfl, by decide +kernel, by decide +kernel⟩
theorem F_Bodies___init__ (T : TT K mg) : FunD K "__init__" "Bodies.__init__" (defArgs s_Bodies___init__) (defBody s_Bodies___init__) (defScope s_Bodies___init__) (d_Bodies___init__.dvs K) [] (He.fAd K at_Bodies___init__) (fdOf K at_Bodies___init__) := T.c.fd 10 (d := d_Bodies___init__) rfl
theorem kp_Bodies___init__ (T : TT K mg) : PySem.W.keepIn K (.ref (He.fAd K at_Bodies___init__)) = true := (F_Bodies___init__ T).kp
theorem b_Bodies___init__ (T : TT K mg) : Binds K (fdOf K at_Bodies___init__) ["self", "size", "rods"] [] := FunD.bindsN (F_Bodies___init__ T) fun _ _ _ _ _ _ us hl => match us, hl with | [_, _, _], _ => rfl
theorem ok_Bodies___init__ (T : TT K mg) : FnOk P w K mg base (L2.CX P w) 2 (He.fAd K at_Bodies___init__) (fdOf K at_Bodies___init__) ["self", "size", "rods"] (spM (tx K) 3 m_Bodies___init__) :=
  fn_okM (Df.of (st := s_Bodies___init__) (F_Bodies___init__ T)) sc_Bodies___init__ fun cdv A outer s H E hr => by
    have tk : Takes (cxOf (L2.CX P w) P w K mg base ["self", "size", "rods", "rod"] "Bodies.__init__" (defScope s_Bodies___init__) (He.fAd K at_Bodies___init__) cdv A outer s H E) (WB E) := takes_of rfl rfl rfl rfl
    have hp : PassesOwn (model P w) (cxOf (L2.CX P w) P w K mg base ["self", "size", "rods", "rod"] "Bodies.__init__" (defScope s_Bodies___init__) (He.fAd K at_Bodies___init__) cdv A outer s H E).A (cxOf (L2.CX P w) P w K mg base ["self", "size", "rods", "rod"] "Bodies.__init__" (defScope s_Bodies___init__) (He.fAd K at_Bodies___init__) cdv A outer s H E).env (cxOf (L2.CX P w) P w K mg base ["self", "size", "rods", "rod"] "Bodies.__init__" (defScope s_Bodies___init__) (He.fAd K at_Bodies___init__) cdv A outer s H E).xe := passes_of rfl
    exact (s_cons (s_fld rfl (clsAll T) 25 (v_var 0) (v_var 1))
      (s_cons (s_fld rfl (clsAll T) 5 (v_var 0) (v_callT (ok_tuple rfl) rfl (T.free 14) (a_cons (v_lc true [("rod", 3)] rfl sc_Bodies___init__.nd (i_seq rfl (v_var 2)) (blkOk_by (by kernel_rfl)) (fun _ _ _ _ _ => (g_name 3 sc_Bodies___init__.nd)) (fun _ _ _ _ _ => ts_nil) (fun _ _ _ _ _ => (v_callT (ok_tuple rfl) rfl (T.free 14) (a_cons (v_var 3) a_nil)))) a_nil)))
      (s_cons (s_if (t_not (t_chain oc_le oc_le v_int (v_var 1) (v_gint (T.gint 25)))) (s_one (s_raiseB rfl tk (ia_BadBodies T) hr (T.free 16) (T.glo 26) (T.rai 27) rfl (by decide) v_str)) s_nil)
      (s_one (s_if (PW.pt (w_or (t_cmp oc_gt (v_callB (ok_len rfl) rfl (T.free 0) (a_cons (v_fld rfl (clsAll T) 5 (v_var 0)) a_nil)) (v_gint (T.gint 28)) (nomark _)) (pw_or1 (t_not (t_tru rfl (v_callB (ok_all rfl) rfl (T.free 20) (a_cons (v_lc true [("rod", 3)] rfl sc_Bodies___init__.nd (i_seq rfl (v_fld rfl (clsAll T) 5 (v_var 0))) (blkOk_by (by kernel_rfl)) (fun _ _ _ _ _ => (g_name 3 sc_Bodies___init__.nd)) (fun _ _ _ _ _ => ts_nil) (fun _ _ _ _ _ => (v_call takes0 (ok_ufits T) (hr.mono (by decide)) (T.glo 29) (kp_ufits T) (b_ufits T) (a_cons (v_var 3) (a_cons (v_var 1) a_nil))))) a_nil))))))) (s_one (s_raiseB rfl tk (ia_BadBodies T) hr (T.free 16) (T.glo 26) (T.rai 27) rfl (by decide) v_str)) s_nil)))))
theorem sc_Grid___init__ : FnScope ["self", "squares", "row", "word"] ["self", "squares"] (defScope s_Grid___init__) := ⟨rfl, rfl, rfl, by decide +kernel, rfl, by decide +kernel, by decide +kernel⟩
theorem F_Grid___init__ (T : TT K mg) : FunD K "__init__" "Grid.__init__" (defArgs s_Grid___init__) (defBody s_Grid___init__) (defScope s_Grid___init__) (d_Grid___init__.dvs K) [] (He.fAd K at_Grid___init__) (fdOf K at_Grid___init__) := T.c.fd 11 (d := d_Grid___init__) rfl
theorem kp_Grid___init__ (T : TT K mg) : PySem.W.keepIn K (.ref (He.fAd K at_Grid___init__)) = true := (F_Grid___init__ T).kp
theorem b_Grid___init__ (T : TT K mg) : Binds K (fdOf K at_Grid___init__) ["self", "squares"] [] := FunD.bindsN (F_Grid___init__ T) fun _ _ _ _ _ _ us hl => match us, hl with | [_, _], _ => rfl
theorem ok_Grid___init__ (T : TT K mg) : FnOk P w K mg base (L2.CX P w) 1 (He.fAd K at_Grid___init__) (fdOf K at_Grid___init__) ["self", "squares"] (spM (tx K) 2 m_Grid___init__) :=
  fn_okM (Df.of (st := s_Grid___init__) (F_Grid___init__ T)) sc_Grid___init__ fun cdv A outer s H E hr => by
    have tk : Takes (cxOf (L2.CX P w) P w K mg base ["self", "squares", "row", "word"] "Grid.__init__" (defScope s_Grid___init__) (He.fAd K at_Grid___init__) cdv A outer s H E) (WB E) := takes_of rfl rfl rfl rfl
    have hp : PassesOwn (model P w) (cxOf (L2.CX P w) P w K mg base ["self", "squares", "row", "word"] "Grid.__init__" (defScope s_Grid___init__) (He.fAd K at_Grid___init__) cdv A outer s H E).A (cxOf (L2.CX P w) P w K mg base ["self", "squares", "row", "word"] "Grid.__init__" (defScope s_Grid___init__) (He.fAd K at_Grid___init__) cdv A outer s H E).env (cxOf (L2.CX P w) P w K mg base ["self", "squares", "row", "word"] "Grid.__init__" (defScope s_Grid___init__) (He.fAd K at_Grid___init__) cdv A outer s H E).xe := passes_of rfl
    exact (s_cons (s_fld rfl (clsAll T) 27 (v_var 0) (v_callT (ok_tuple rfl) rfl (T.free 14) (a_cons (v_lc true [("row", 2)] rfl sc_Grid___init__.nd (i_seq rfl (v_var 1)) (blkOk_by (by kernel_rfl)) (fun _ _ _ _ _ => (g_name 2 sc_Grid___init__.nd)) (fun _ _ _ _ _ => ts_nil) (fun _ _ _ _ _ => (v_callT (ok_tuple rfl) rfl (T.free 14) (a_cons (v_var 2) a_nil)))) a_nil)))
      (s_cons (s_if (PW.pt (w_or (t_not (t_chain oc_le oc_le v_int (v_callB (ok_len rfl) rfl (T.free 0) (a_cons (v_fld rfl (clsAll T) 27 (v_var 0)) a_nil)) (v_gint (T.gint 34)))) (pw_or1 (t_not (t_chain oc_le oc_le v_int (v_callB (ok_len rfl) rfl (T.free 0) (a_cons (v_ix rfl (v_fld rfl (clsAll T) 27 (v_var 0)) v_int) a_nil)) (v_gint (T.gint 34))))))) (s_one (s_raiseB rfl tk (ia_BadGrid T) hr (T.free 16) (T.glo 35) (T.rai 36) rfl (by decide) v_str)) s_nil)
      (s_cons (s_if (t_not (t_tru rfl (v_callB (ok_all rfl) rfl (T.free 20) (a_cons (v_lc true [("row", 2)] rfl sc_Grid___init__.nd (i_seq rfl (v_fld rfl (clsAll T) 27 (v_var 0))) (blkOk_by (by kernel_rfl)) (fun _ _ _ _ _ => (g_name 2 sc_Grid___init__.nd)) (fun _ _ _ _ _ => ts_nil) (fun _ _ _ _ _ => (v_cmp (oc_eq rfl (hu64 hr)) (v_callB (ok_len rfl) rfl (T.free 0) (a_cons (v_var 2) a_nil)) (v_callB (ok_len rfl) rfl (T.free 0) (a_cons (v_ix rfl (v_fld rfl (clsAll T) 27 (v_var 0)) v_int) a_nil)) (nomark _)))) a_nil)))) (s_one (s_raiseB rfl tk (ia_BadGrid T) hr (T.free 16) (T.glo 35) (T.rai 36) rfl (by decide) v_str)) s_nil)
      (s_one (s_for (vs := [2]) hp rfl (i_seq rfl (v_fld rfl (clsAll T) 27 (v_var 0))) (g_name 2 sc_Grid___init__.nd) (s_one (s_if (t_not (t_tru rfl (v_callB (ok_all rfl) rfl (T.free 20) (a_cons (v_lc true [("word", 3)] rfl sc_Grid___init__.nd (i_seq rfl (v_var 2)) (blkOk_by (by kernel_rfl)) (fun _ _ _ _ _ => (g_name 3 sc_Grid___init__.nd)) (fun _ _ _ _ _ => ts_nil) (fun _ _ _ _ _ => (v_cmp (oc_in rfl (hu65 hr)) (v_var 3) (v_gtup (T.gtup 37) rfl) rfl))) a_nil)))) (s_one (s_raiseB rfl tk (ia_BadGrid T) hr (T.free 16) (T.glo 35) (T.rai 36) rfl (by decide) v_str)) s_nil)))))))
theorem sc_ulaw_made : FnScope ["kind", "size", "parts"] ["kind", "size", "parts"] (defScope s_ulaw_made) := ⟨rfl, rfl, rfl, by decide +kernel, rfl, by decide +kernel, by decide +kernel⟩
theorem F_ulaw_made (T : TT K mg) : FunD K "_law_made" "_law_made" (defArgs s_ulaw_made) (defBody s_ulaw_made) (defScope s_ulaw_made) (d_ulaw_made.dvs K) [] (He.fAd K at_ulaw_made) (fdOf K at_ulaw_made) := T.c.fd 12 (d := d_ulaw_made) rfl
theorem kp_ulaw_made (T : TT K mg) : PySem.W.keepIn K (.ref (He.fAd K at_ulaw_made)) = true := (F_ulaw_made T).kp
theorem b_ulaw_made (T : TT K mg) : Binds K (fdOf K at_ulaw_made) ["kind", "size", "parts"] [] := FunD.bindsN (F_ulaw_made T) fun _ _ _ _ _ _ us hl => match us, hl with | [_, _, _], _ => rfl
theorem ok_ulaw_made (T : TT K mg) : FnOk P w K mg base (L2.CX P w) 4 (He.fAd K at_ulaw_made) (fdOf K at_ulaw_made) ["kind", "size", "parts"] (spM (tx K) 3 m_ulaw_made) :=
  fn_okM (Df.of (st := s_ulaw_made) (F_ulaw_made T)) sc_ulaw_made fun cdv A outer s H E hr => by
    have tk : Takes (cxOf (L2.CX P w) P w K mg base ["kind", "size", "parts"] "_law_made" (defScope s_ulaw_made) (He.fAd K at_ulaw_made) cdv A outer s H E) (WB E) := takes_of rfl rfl rfl rfl
    have hp : PassesOwn (model P w) (cxOf (L2.CX P w) P w K mg base ["kind", "size", "parts"] "_law_made" (defScope s_ulaw_made) (He.fAd K at_ulaw_made) cdv A outer s H E).A (cxOf (L2.CX P w) P w K mg base ["kind", "size", "parts"] "_law_made" (defScope s_ulaw_made) (He.fAd K at_ulaw_made) cdv A outer s H E).env (cxOf (L2.CX P w) P w K mg base ["kind", "size", "parts"] "_law_made" (defScope s_ulaw_made) (He.fAd K at_ulaw_made) cdv A outer s H E).xe := passes_of rfl
    exact (s_cons (s_if (t_cmp (oc_eq rfl (hu64 hr)) (v_var 0) v_int (nomark _)) (s_one (s_ret (v_cal (CalM.pure (cal_make tk rfl (T.make 21 22 23) (ok_Edges___init__ T) (hr.mono (by decide)) (b_Edges___init__ T))) (T.glo 24) (T.keep 23) (a_cons (v_var 1) (a_cons (v_var 2) a_nil))))) s_nil)
      (s_cons (s_if (t_cmp (oc_eq rfl (hu64 hr)) (v_var 0) v_int (nomark _)) (s_one (s_ret (v_cal (CalM.pure (cal_make tk rfl (T.make 30 31 32) (ok_Bodies___init__ T) (hr.mono (by decide)) (b_Bodies___init__ T))) (T.glo 33) (T.keep 32) (a_cons (v_var 1) (a_cons (v_var 2) a_nil))))) s_nil)
      (s_one (s_ret (v_cal (CalM.pure (cal_make tk rfl (T.make 38 39 40) (ok_Grid___init__ T) (hr.mono (by decide)) (b_Grid___init__ T))) (T.glo 41) (T.keep 40) (a_cons (v_var 2) a_nil))))))
theorem sc_ulaw_names : FnScope ["e", "names"] ["e"] (defScope s_ulaw_names) := ⟨rfl, rfl, rfl, by decide +kernel, rfl, by decide +kernel, by decide +kernel⟩
theorem F_ulaw_names (T : TT K mg) : FunD K "_law_names" "_law_names" (defArgs s_ulaw_names) (defBody s_ulaw_names) (defScope s_ulaw_names) (d_ulaw_names.dvs K) [] (He.fAd K at_ulaw_names) (fdOf K at_ulaw_names) := T.c.fd 13 (d := d_ulaw_names) rfl
theorem kp_ulaw_names (T : TT K mg) : PySem.W.keepIn K (.ref (He.fAd K at_ulaw_names)) = true := (F_ulaw_names T).kp
theorem b_ulaw_names (T : TT K mg) : Binds K (fdOf K at_ulaw_names) ["e"] [] := FunD.bindsN (F_ulaw_names T) fun _ _ _ _ _ _ us hl => match us, hl with | [_], _ => rfl
theorem ok_ulaw_names (T : TT K mg) : FnX P w K mg base (tx K) 1 (He.fAd K at_ulaw_names) (fdOf K at_ulaw_names) ["e"] m_ulaw_names :=
  fn_okX (Df.of (st := s_ulaw_names) (F_ulaw_names T)) sc_ulaw_names rfl fun cdv A outer s H a oe cl d c fs hz hf hr => by
    exact (s_cons (s_set 1 sc_ulaw_names.nd (v_lst false a_nil))
      (s_cons (s_if (t_tru rfl (v_excI 0 (w := (V.ref (He.ga K ("BadText" : Str)))) (cv := (.ref (He.ga K ("BadText" : Str)))) (excAll T) (hasXCases (p := fun v => PySem.W.kitOne K v (.ref (He.ga K ("BadText" : Str)))) (b := fun c => (subX c 1)) T (T.kit 45) (T.kit 46) (T.kit 47)) hz hf (.own _) (pv 0) (pe_glob (v := V.ref (He.ga K ("BadText" : Str))) rfl (T.glo 44) rfl) (T.free 43))) (s_one (s_expr (v_mb PySem.F.plainAttrs_list PySem.F.slot_list_append PySem.F.type_list_append ok_append ls_ty (v_var 1) (a_cons v_str a_nil)))) s_nil)
      (s_cons (s_if (t_tru rfl (v_excI 0 (w := (V.ref (He.ga K ("BadFrame" : Str)))) (cv := (.ref (He.ga K ("BadFrame" : Str)))) (excAll T) (hasXCases (p := fun v => PySem.W.kitOne K v (.ref (He.ga K ("BadFrame" : Str)))) (b := fun c => (subX c 2)) T (T.kit 49) (T.kit 50) (T.kit 51)) hz hf (.own _) (pv 0) (pe_glob (v := V.ref (He.ga K ("BadFrame" : Str))) rfl (T.glo 48) rfl) (T.free 43))) (s_one (s_expr (v_mb PySem.F.plainAttrs_list PySem.F.slot_list_append PySem.F.type_list_append ok_append ls_ty (v_var 1) (a_cons v_str a_nil)))) s_nil)
      (s_cons (s_if (t_tru rfl (v_excI 0 (w := (V.ref (He.ga K ("BadPlan" : Str)))) (cv := (.ref (He.ga K ("BadPlan" : Str)))) (excAll T) (hasXCases (p := fun v => PySem.W.kitOne K v (.ref (He.ga K ("BadPlan" : Str)))) (b := fun c => (subX c 3)) T (T.kit 53) (T.kit 54) (T.kit 55)) hz hf (.own _) (pv 0) (pe_glob (v := V.ref (He.ga K ("BadPlan" : Str))) rfl (T.glo 52) rfl) (T.free 43))) (s_one (s_expr (v_mb PySem.F.plainAttrs_list PySem.F.slot_list_append PySem.F.type_list_append ok_append ls_ty (v_var 1) (a_cons v_str a_nil)))) s_nil)
      (s_cons (s_if (t_tru rfl (v_excI 0 (w := (V.ref (He.ga K ("BadEdges" : Str)))) (cv := (.ref (He.ga K ("BadEdges" : Str)))) (excAll T) (hasXCases (p := fun v => PySem.W.kitOne K v (.ref (He.ga K ("BadEdges" : Str)))) (b := fun c => (subX c 9)) T (T.kit 56) (T.kit 57) (T.kit 58)) hz hf (.own _) (pv 0) (pe_glob (v := V.ref (He.ga K ("BadEdges" : Str))) rfl (T.glo 17) rfl) (T.free 43))) (s_one (s_expr (v_mb PySem.F.plainAttrs_list PySem.F.slot_list_append PySem.F.type_list_append ok_append ls_ty (v_var 1) (a_cons v_str a_nil)))) s_nil)
      (s_cons (s_if (t_tru rfl (v_excI 0 (w := (V.ref (He.ga K ("BadBodies" : Str)))) (cv := (.ref (He.ga K ("BadBodies" : Str)))) (excAll T) (hasXCases (p := fun v => PySem.W.kitOne K v (.ref (He.ga K ("BadBodies" : Str)))) (b := fun c => (subX c 10)) T (T.kit 59) (T.kit 60) (T.kit 61)) hz hf (.own _) (pv 0) (pe_glob (v := V.ref (He.ga K ("BadBodies" : Str))) rfl (T.glo 26) rfl) (T.free 43))) (s_one (s_expr (v_mb PySem.F.plainAttrs_list PySem.F.slot_list_append PySem.F.type_list_append ok_append ls_ty (v_var 1) (a_cons v_str a_nil)))) s_nil)
      (s_cons (s_if (t_tru rfl (v_excI 0 (w := (V.ref (He.ga K ("BadGrid" : Str)))) (cv := (.ref (He.ga K ("BadGrid" : Str)))) (excAll T) (hasXCases (p := fun v => PySem.W.kitOne K v (.ref (He.ga K ("BadGrid" : Str)))) (b := fun c => (subX c 11)) T (T.kit 62) (T.kit 63) (T.kit 64)) hz hf (.own _) (pv 0) (pe_glob (v := V.ref (He.ga K ("BadGrid" : Str))) rfl (T.glo 35) rfl) (T.free 43))) (s_one (s_expr (v_mb PySem.F.plainAttrs_list PySem.F.slot_list_append PySem.F.type_list_append ok_append ls_ty (v_var 1) (a_cons v_str a_nil)))) s_nil)
      (s_cons (s_if (t_tru rfl (v_excI 0 (w := (V.ref (He.ga K ("BadDrawing" : Str)))) (cv := (.ref (He.ga K ("BadDrawing" : Str)))) (excAll T) (hasXCases (p := fun v => PySem.W.kitOne K v (.ref (He.ga K ("BadDrawing" : Str)))) (b := fun c => (subX c 12)) T (T.kit 66) (T.kit 67) (T.kit 68)) hz hf (.own _) (pv 0) (pe_glob (v := V.ref (He.ga K ("BadDrawing" : Str))) rfl (T.glo 65) rfl) (T.free 43))) (s_one (s_expr (v_mb PySem.F.plainAttrs_list PySem.F.slot_list_append PySem.F.type_list_append ok_append ls_ty (v_var 1) (a_cons v_str a_nil)))) s_nil)
      (s_cons (s_if (t_tru rfl (v_excI 0 (w := (V.ref (He.ga K ("BadPaper" : Str)))) (cv := (.ref (He.ga K ("BadPaper" : Str)))) (excAll T) (hasXCases (p := fun v => PySem.W.kitOne K v (.ref (He.ga K ("BadPaper" : Str)))) (b := fun c => (subX c 5)) T (T.kit 70) (T.kit 71) (T.kit 72)) hz hf (.own _) (pv 0) (pe_glob (v := V.ref (He.ga K ("BadPaper" : Str))) rfl (T.glo 69) rfl) (T.free 43))) (s_one (s_expr (v_mb PySem.F.plainAttrs_list PySem.F.slot_list_append PySem.F.type_list_append ok_append ls_ty (v_var 1) (a_cons v_str a_nil)))) s_nil)
      (s_cons (s_if (t_tru rfl (v_excI 0 (w := (V.ref (He.ga K ("BadDeed" : Str)))) (cv := (.ref (He.ga K ("BadDeed" : Str)))) (excAll T) (hasXCases (p := fun v => PySem.W.kitOne K v (.ref (He.ga K ("BadDeed" : Str)))) (b := fun c => (subX c 6)) T (T.kit 74) (T.kit 75) (T.kit 76)) hz hf (.own _) (pv 0) (pe_glob (v := V.ref (He.ga K ("BadDeed" : Str))) rfl (T.glo 73) rfl) (T.free 43))) (s_one (s_expr (v_mb PySem.F.plainAttrs_list PySem.F.slot_list_append PySem.F.type_list_append ok_append ls_ty (v_var 1) (a_cons v_str a_nil)))) s_nil)
      (s_cons (s_if (t_not (t_tru rfl (v_excI 0 (w := (V.ty "ValueError")) (cv := (.type "ValueError")) (excAll T) (hasXCases (p := fun v => PySem.W.kitOne K v (.type "ValueError")) (b := fun c => true) T (T.kit 78) (T.kit 79) (T.kit 80)) hz hf (.ty _) (pv 0) (pe_bltn rfl (T.free 77) rfl rfl) (T.free 43)))) (s_one (s_expr (v_mb PySem.F.plainAttrs_list PySem.F.slot_list_append PySem.F.type_list_append ok_append ls_ty (v_var 1) (a_cons v_str a_nil)))) s_nil)
      (s_one (s_ret (v_var 1))))))))))))))
theorem sc_ulaw_told : FnScope ["kind", "size", "parts", "e"] ["kind", "size", "parts"] (defScope s_ulaw_told) := ⟨rfl, rfl, rfl, by decide +kernel, rfl, by decide +kernel, by decide +kernel⟩
theorem F_ulaw_told (T : TT K mg) : FunD K "_law_told" "_law_told" (defArgs s_ulaw_told) (defBody s_ulaw_told) (defScope s_ulaw_told) (d_ulaw_told.dvs K) [] (He.fAd K at_ulaw_told) (fdOf K at_ulaw_told) := T.c.fd 14 (d := d_ulaw_told) rfl
theorem kp_ulaw_told (T : TT K mg) : PySem.W.keepIn K (.ref (He.fAd K at_ulaw_told)) = true := (F_ulaw_told T).kp
theorem b_ulaw_told (T : TT K mg) : Binds K (fdOf K at_ulaw_told) ["kind", "size", "parts"] [] := FunD.bindsN (F_ulaw_told T) fun _ _ _ _ _ _ us hl => match us, hl with | [_, _, _], _ => rfl
theorem ok_ulaw_told (T : TT K mg) : FnOk P w K mg base (L2.CX P w) 5 (He.fAd K at_ulaw_told) (fdOf K at_ulaw_told) ["kind", "size", "parts"] (spM (tx K) 3 m_ulaw_told) :=
  fn_okM (Df.of (st := s_ulaw_told) (F_ulaw_told T)) sc_ulaw_told fun cdv A outer s H E hr => by
    have tk : Takes (cxOf (L2.CX P w) P w K mg base ["kind", "size", "parts", "e"] "_law_told" (defScope s_ulaw_told) (He.fAd K at_ulaw_told) cdv A outer s H E) (WB E) := takes_of rfl rfl rfl rfl
    have hp : PassesOwn (model P w) (cxOf (L2.CX P w) P w K mg base ["kind", "size", "parts", "e"] "_law_told" (defScope s_ulaw_told) (He.fAd K at_ulaw_told) cdv A outer s H E).A (cxOf (L2.CX P w) P w K mg base ["kind", "size", "parts", "e"] "_law_told" (defScope s_ulaw_told) (He.fAd K at_ulaw_told) cdv A outer s H E).env (cxOf (L2.CX P w) P w K mg base ["kind", "size", "parts", "e"] "_law_told" (defScope s_ulaw_told) (He.fAd K at_ulaw_told) cdv A outer s H E).xe := passes_of rfl
    exact (s_one (s_tryN rfl rfl rfl sc_ulaw_told.nd tk (fun W pn xe tk hp => (s_one (s_ret (v_tup (a_cons v_str (a_cons (v_call tk (ok_ulaw_made T) (hr.mono (by decide)) (T.glo 42) (kp_ulaw_made T) (b_ulaw_made T) (a_cons (v_var 0) (a_cons (v_var 1) (a_cons (v_var 2) a_nil)))) a_nil)))))) (HdsZ.cons ⟨rfl, rfl, .inl (T.glo 17)⟩ (fun c h => hasXCases (p := fun v => PySem.W.exmOne K v (.ref (He.ga K ("BadEdges" : Str)))) (b := fun c => subX c 9) T (T.exm 82) (T.exm 83) (T.exm 84) h) (fun a oe cl d pn c fs hz hf => (s_one (s_ret (v_tup (a_cons v_str (a_cons (v_lst true (a_cons (v_excF 3 1 (xfAll T) (noX_what T) hz hf (by decide) (pv 3)) (a_cons (v_callX 3 (ok_ulaw_names T) (L2H.roomH_of (hr.mono (by decide))) (T.glo 81) (kp_ulaw_names T) (b_ulaw_names T) hz hf (pv 3)) a_nil))) a_nil)))))) (HdsZ.cons ⟨rfl, rfl, .inl (T.glo 26)⟩ (fun c h => hasXCases (p := fun v => PySem.W.exmOne K v (.ref (He.ga K ("BadBodies" : Str)))) (b := fun c => subX c 10) T (T.exm 85) (T.exm 86) (T.exm 87) h) (fun a oe cl d pn c fs hz hf => (s_one (s_ret (v_tup (a_cons v_str (a_cons (v_lst true (a_cons (v_excF 3 1 (xfAll T) (noX_what T) hz hf (by decide) (pv 3)) (a_cons (v_callX 3 (ok_ulaw_names T) (L2H.roomH_of (hr.mono (by decide))) (T.glo 81) (kp_ulaw_names T) (b_ulaw_names T) hz hf (pv 3)) a_nil))) a_nil)))))) (HdsZ.cons ⟨rfl, rfl, .inl (T.glo 35)⟩ (fun c h => hasXCases (p := fun v => PySem.W.exmOne K v (.ref (He.ga K ("BadGrid" : Str)))) (b := fun c => subX c 11) T (T.exm 88) (T.exm 89) (T.exm 90) h) (fun a oe cl d pn c fs hz hf => (s_one (s_ret (v_tup (a_cons v_str (a_cons (v_lst true (a_cons (v_excF 3 1 (xfAll T) (noX_what T) hz hf (by decide) (pv 3)) (a_cons (v_callX 3 (ok_ulaw_names T) (L2H.roomH_of (hr.mono (by decide))) (T.glo 81) (kp_ulaw_names T) (b_ulaw_names T) hz hf (pv 3)) a_nil))) a_nil)))))) (HdsZ.cons ⟨rfl, rfl, .inl (T.glo 94)⟩ (fun c h => hasXCases (p := fun v => PySem.W.exmOne K v (.ref (He.ga K ("FrameError" : Str)))) (b := fun c => subX c 0) T (T.exm 91) (T.exm 92) (T.exm 93) h) (fun a oe cl d pn c fs hz hf => (s_one (s_ret (v_tup (a_cons v_str (a_cons (v_lst true a_nil) a_nil)))))) HdsZ.nil))))))
theorem sc_ulaw_has : FnScope ["kind", "made", "size", "parts", "row"] ["kind", "made", "size", "parts"] (defScope s_ulaw_has) := ⟨rfl, rfl, rfl, by decide +kernel, rfl, by decide +kernel, by decide +kernel⟩
theorem F_ulaw_has (T : TT K mg) : FunD K "_law_has" "_law_has" (defArgs s_ulaw_has) (defBody s_ulaw_has) (defScope s_ulaw_has) (d_ulaw_has.dvs K) [] (He.fAd K at_ulaw_has) (fdOf K at_ulaw_has) := T.c.fd 15 (d := d_ulaw_has) rfl
theorem kp_ulaw_has (T : TT K mg) : PySem.W.keepIn K (.ref (He.fAd K at_ulaw_has)) = true := (F_ulaw_has T).kp
theorem b_ulaw_has (T : TT K mg) : Binds K (fdOf K at_ulaw_has) ["kind", "made", "size", "parts"] [] := FunD.bindsN (F_ulaw_has T) fun _ _ _ _ _ _ us hl => match us, hl with | [_, _, _, _], _ => rfl
theorem ok_ulaw_has (T : TT K mg) : FnOk P w K mg base (L2.CX P w) 1 (He.fAd K at_ulaw_has) (fdOf K at_ulaw_has) ["kind", "made", "size", "parts"] (spM (tx K) 4 m_ulaw_has) :=
  fn_okM (Df.of (st := s_ulaw_has) (F_ulaw_has T)) sc_ulaw_has fun cdv A outer s H E hr => by
    have tk : Takes (cxOf (L2.CX P w) P w K mg base ["kind", "made", "size", "parts", "row"] "_law_has" (defScope s_ulaw_has) (He.fAd K at_ulaw_has) cdv A outer s H E) (WB E) := takes_of rfl rfl rfl rfl
    have hp : PassesOwn (model P w) (cxOf (L2.CX P w) P w K mg base ["kind", "made", "size", "parts", "row"] "_law_has" (defScope s_ulaw_has) (He.fAd K at_ulaw_has) cdv A outer s H E).A (cxOf (L2.CX P w) P w K mg base ["kind", "made", "size", "parts", "row"] "_law_has" (defScope s_ulaw_has) (He.fAd K at_ulaw_has) cdv A outer s H E).env (cxOf (L2.CX P w) P w K mg base ["kind", "made", "size", "parts", "row"] "_law_has" (defScope s_ulaw_has) (He.fAd K at_ulaw_has) cdv A outer s H E).xe := passes_of rfl
    exact (s_cons (s_if (t_cmp (oc_eq rfl (hu64 hr)) (v_var 0) v_int (nomark _)) (s_one (s_ret (v_cmp (oc_eq rfl (hu64 hr)) (v_fld rfl (clsAll T) 27 (v_var 1)) (v_callT (ok_tuple rfl) rfl (T.free 14) (a_cons (v_lc true [("row", 4)] rfl sc_ulaw_has.nd (i_seq rfl (v_var 3)) (blkOk_by (by kernel_rfl)) (fun _ _ _ _ _ => (g_name 4 sc_ulaw_has.nd)) (fun _ _ _ _ _ => ts_nil) (fun _ _ _ _ _ => (v_callT (ok_tuple rfl) rfl (T.free 14) (a_cons (v_var 4) a_nil)))) a_nil)) (nomark _)))) s_nil)
      (s_cons (s_if (PW.pt (w_or (t_tru rfl (v_isi (w := .ty "bool") rfl (clsAll T) (insAll T) is_bl (pe_bltn rfl (T.free 96) rfl rfl) (.ty _) (T.free 43) (v_fld rfl (clsAll T) 25 (v_var 1)))) (pw_or1 (t_cmp (oc_ne rfl (hu64 hr)) (v_fld rfl (clsAll T) 25 (v_var 1)) (v_var 2) (nomark _))))) (s_one (s_ret v_bl)) s_nil)
      (s_cons (s_if (t_cmp (oc_eq rfl (hu64 hr)) (v_var 0) v_int (nomark _)) (s_one (s_ret (v_cmp (oc_eq rfl (hu64 hr)) (v_fld rfl (clsAll T) 26 (v_var 1)) (v_callT (ok_tuple rfl) rfl (T.free 14) (a_cons (v_var 3) a_nil)) (nomark _)))) s_nil)
      (s_one (s_ret (v_cmp (oc_eq rfl (hu64 hr)) (v_fld rfl (clsAll T) 5 (v_var 1)) (v_callT (ok_tuple rfl) rfl (T.free 14) (a_cons (v_var 3) a_nil)) (nomark _)))))))
theorem sc_Edges___eq__ : FnScope ["self", "other"] ["self", "other"] (defScope s_Edges___eq__) := ⟨rfl, rfl, rfl, by decide +kernel, rfl, by decide +kernel, by decide +kernel⟩
theorem F_Edges___eq__ (T : TT K mg) : FunD K "__eq__" "Edges.__eq__" (defArgs s_Edges___eq__) (defBody s_Edges___eq__) (defScope s_Edges___eq__) (d_Edges___eq__.dvs K) [] (He.fAd K at_Edges___eq__) (fdOf K at_Edges___eq__) := T.c.fd 16 (d := d_Edges___eq__) rfl
theorem kp_Edges___eq__ (T : TT K mg) : PySem.W.keepIn K (.ref (He.fAd K at_Edges___eq__)) = true := (F_Edges___eq__ T).kp
theorem b_Edges___eq__ (T : TT K mg) : Binds K (fdOf K at_Edges___eq__) ["self", "other"] [] := FunD.bindsN (F_Edges___eq__ T) fun _ _ _ _ _ _ us hl => match us, hl with | [_, _], _ => rfl
theorem ok_Edges___eq__ (T : TT K mg) : FnOk P w K mg base (L2.CX P w) 1 (He.fAd K at_Edges___eq__) (fdOf K at_Edges___eq__) ["self", "other"] (spM (tx K) 2 m_Edges___eq__) :=
  fn_okM (Df.of (st := s_Edges___eq__) (F_Edges___eq__ T)) sc_Edges___eq__ fun cdv A outer s H E hr => by
    have tk : Takes (cxOf (L2.CX P w) P w K mg base ["self", "other"] "Edges.__eq__" (defScope s_Edges___eq__) (He.fAd K at_Edges___eq__) cdv A outer s H E) (WB E) := takes_of rfl rfl rfl rfl
    have hp : PassesOwn (model P w) (cxOf (L2.CX P w) P w K mg base ["self", "other"] "Edges.__eq__" (defScope s_Edges___eq__) (He.fAd K at_Edges___eq__) cdv A outer s H E).A (cxOf (L2.CX P w) P w K mg base ["self", "other"] "Edges.__eq__" (defScope s_Edges___eq__) (He.fAd K at_Edges___eq__) cdv A outer s H E).env (cxOf (L2.CX P w) P w K mg base ["self", "other"] "Edges.__eq__" (defScope s_Edges___eq__) (He.fAd K at_Edges___eq__) cdv A outer s H E).xe := passes_of rfl
    exact (s_one (s_ret (v_and (v_isi (w := .ref (He.ga K ("Edges" : Str))) rfl (clsAll T) (insAll T) (is_own (hasCases T (T.kit 98) (T.kit 99) (T.kit 100))) (pe_glob rfl (T.glo 24) rfl) (.own _) (T.free 43) (v_var 1)) (v_and (v_cmp (oc_eq rfl (hu64 hr)) (v_fld rfl (clsAll T) 25 (v_var 0)) (v_fld rfl (clsAll T) 25 (v_var 1)) (nomark _)) (v_one (v_cmp (oc_eq rfl (hu64 hr)) (v_fld rfl (clsAll T) 26 (v_var 0)) (v_fld rfl (clsAll T) 26 (v_var 1)) (nomark _)))))))
theorem sc_Bodies___eq__ : FnScope ["self", "other"] ["self", "other"] (defScope s_Bodies___eq__) := ⟨rfl, rfl, rfl, by decide +kernel, rfl, by decide +kernel, by decide +kernel⟩
theorem F_Bodies___eq__ (T : TT K mg) : FunD K "__eq__" "Bodies.__eq__" (defArgs s_Bodies___eq__) (defBody s_Bodies___eq__) (defScope s_Bodies___eq__) (d_Bodies___eq__.dvs K) [] (He.fAd K at_Bodies___eq__) (fdOf K at_Bodies___eq__) := T.c.fd 17 (d := d_Bodies___eq__) rfl
theorem kp_Bodies___eq__ (T : TT K mg) : PySem.W.keepIn K (.ref (He.fAd K at_Bodies___eq__)) = true := (F_Bodies___eq__ T).kp
theorem b_Bodies___eq__ (T : TT K mg) : Binds K (fdOf K at_Bodies___eq__) ["self", "other"] [] := FunD.bindsN (F_Bodies___eq__ T) fun _ _ _ _ _ _ us hl => match us, hl with | [_, _], _ => rfl
theorem ok_Bodies___eq__ (T : TT K mg) : FnOk P w K mg base (L2.CX P w) 1 (He.fAd K at_Bodies___eq__) (fdOf K at_Bodies___eq__) ["self", "other"] (spM (tx K) 2 m_Bodies___eq__) :=
  fn_okM (Df.of (st := s_Bodies___eq__) (F_Bodies___eq__ T)) sc_Bodies___eq__ fun cdv A outer s H E hr => by
    have tk : Takes (cxOf (L2.CX P w) P w K mg base ["self", "other"] "Bodies.__eq__" (defScope s_Bodies___eq__) (He.fAd K at_Bodies___eq__) cdv A outer s H E) (WB E) := takes_of rfl rfl rfl rfl
    have hp : PassesOwn (model P w) (cxOf (L2.CX P w) P w K mg base ["self", "other"] "Bodies.__eq__" (defScope s_Bodies___eq__) (He.fAd K at_Bodies___eq__) cdv A outer s H E).A (cxOf (L2.CX P w) P w K mg base ["self", "other"] "Bodies.__eq__" (defScope s_Bodies___eq__) (He.fAd K at_Bodies___eq__) cdv A outer s H E).env (cxOf (L2.CX P w) P w K mg base ["self", "other"] "Bodies.__eq__" (defScope s_Bodies___eq__) (He.fAd K at_Bodies___eq__) cdv A outer s H E).xe := passes_of rfl
    exact (s_one (s_ret (v_and (v_isi (w := .ref (He.ga K ("Bodies" : Str))) rfl (clsAll T) (insAll T) (is_own (hasCases T (T.kit 103) (T.kit 104) (T.kit 105))) (pe_glob rfl (T.glo 33) rfl) (.own _) (T.free 43) (v_var 1)) (v_and (v_cmp (oc_eq rfl (hu64 hr)) (v_fld rfl (clsAll T) 25 (v_var 0)) (v_fld rfl (clsAll T) 25 (v_var 1)) (nomark _)) (v_one (v_cmp (oc_eq rfl (hu64 hr)) (v_fld rfl (clsAll T) 5 (v_var 0)) (v_fld rfl (clsAll T) 5 (v_var 1)) (nomark _)))))))
theorem sc_Grid___eq__ : FnScope ["self", "other"] ["self", "other"] (defScope s_Grid___eq__) := ⟨rfl, rfl, rfl, by decide +kernel, rfl, by decide +kernel, by decide +kernel⟩
theorem F_Grid___eq__ (T : TT K mg) : FunD K "__eq__" "Grid.__eq__" (defArgs s_Grid___eq__) (defBody s_Grid___eq__) (defScope s_Grid___eq__) (d_Grid___eq__.dvs K) [] (He.fAd K at_Grid___eq__) (fdOf K at_Grid___eq__) := T.c.fd 18 (d := d_Grid___eq__) rfl
theorem kp_Grid___eq__ (T : TT K mg) : PySem.W.keepIn K (.ref (He.fAd K at_Grid___eq__)) = true := (F_Grid___eq__ T).kp
theorem b_Grid___eq__ (T : TT K mg) : Binds K (fdOf K at_Grid___eq__) ["self", "other"] [] := FunD.bindsN (F_Grid___eq__ T) fun _ _ _ _ _ _ us hl => match us, hl with | [_, _], _ => rfl
theorem ok_Grid___eq__ (T : TT K mg) : FnOk P w K mg base (L2.CX P w) 1 (He.fAd K at_Grid___eq__) (fdOf K at_Grid___eq__) ["self", "other"] (spM (tx K) 2 m_Grid___eq__) :=
  fn_okM (Df.of (st := s_Grid___eq__) (F_Grid___eq__ T)) sc_Grid___eq__ fun cdv A outer s H E hr => by
    have tk : Takes (cxOf (L2.CX P w) P w K mg base ["self", "other"] "Grid.__eq__" (defScope s_Grid___eq__) (He.fAd K at_Grid___eq__) cdv A outer s H E) (WB E) := takes_of rfl rfl rfl rfl
    have hp : PassesOwn (model P w) (cxOf (L2.CX P w) P w K mg base ["self", "other"] "Grid.__eq__" (defScope s_Grid___eq__) (He.fAd K at_Grid___eq__) cdv A outer s H E).A (cxOf (L2.CX P w) P w K mg base ["self", "other"] "Grid.__eq__" (defScope s_Grid___eq__) (He.fAd K at_Grid___eq__) cdv A outer s H E).env (cxOf (L2.CX P w) P w K mg base ["self", "other"] "Grid.__eq__" (defScope s_Grid___eq__) (He.fAd K at_Grid___eq__) cdv A outer s H E).xe := passes_of rfl
    exact (s_one (s_ret (v_and (v_isi (w := .ref (He.ga K ("Grid" : Str))) rfl (clsAll T) (insAll T) (is_own (hasCases T (T.kit 108) (T.kit 109) (T.kit 110))) (pe_glob rfl (T.glo 41) rfl) (.own _) (T.free 43) (v_var 1)) (v_one (v_cmp (oc_eq rfl (hu64 hr)) (v_fld rfl (clsAll T) 27 (v_var 0)) (v_fld rfl (clsAll T) 27 (v_var 1)) (nomark _))))))
theorem sc_ulaw_right : FnScope ["kind", "source", "size", "parts", "due", "handed", "word", "told", "other", "turned", "row", "part"] ["kind", "source"] (defScope s_ulaw_right) := ⟨rfl, rfl, rfl, by decide +kernel, rfl, by decide +kernel, by decide +kernel⟩
theorem F_ulaw_right (T : TT K mg) : FunD K "_law_right" "_law_right" (defArgs s_ulaw_right) (defBody s_ulaw_right) (defScope s_ulaw_right) (d_ulaw_right.dvs K) [] (He.fAd K at_ulaw_right) (fdOf K at_ulaw_right) := T.c.fd 19 (d := d_ulaw_right) rfl
theorem kp_ulaw_right (T : TT K mg) : PySem.W.keepIn K (.ref (He.fAd K at_ulaw_right)) = true := (F_ulaw_right T).kp
theorem b_ulaw_right (T : TT K mg) : Binds K (fdOf K at_ulaw_right) ["kind", "source"] [] := FunD.bindsN (F_ulaw_right T) fun _ _ _ _ _ _ us hl => match us, hl with | [_, _], _ => rfl
theorem ok_ulaw_right (T : TT K mg) : FnOk P w K mg base (L2.CX P w) 6 (He.fAd K at_ulaw_right) (fdOf K at_ulaw_right) ["kind", "source"] (spM (tx K) 2 m_ulaw_right) :=
  fn_okM (Df.of (st := s_ulaw_right) (F_ulaw_right T)) sc_ulaw_right fun cdv A outer s H E hr => by
    have tk : Takes (cxOf (L2.CX P w) P w K mg base ["kind", "source", "size", "parts", "due", "handed", "word", "told", "other", "turned", "row", "part"] "_law_right" (defScope s_ulaw_right) (He.fAd K at_ulaw_right) cdv A outer s H E) (WB E) := takes_of rfl rfl rfl rfl
    have hp : PassesOwn (model P w) (cxOf (L2.CX P w) P w K mg base ["kind", "source", "size", "parts", "due", "handed", "word", "told", "other", "turned", "row", "part"] "_law_right" (defScope s_ulaw_right) (He.fAd K at_ulaw_right) cdv A outer s H E).A (cxOf (L2.CX P w) P w K mg base ["kind", "source", "size", "parts", "due", "handed", "word", "told", "other", "turned", "row", "part"] "_law_right" (defScope s_ulaw_right) (He.fAd K at_ulaw_right) cdv A outer s H E).env (cxOf (L2.CX P w) P w K mg base ["kind", "source", "size", "parts", "due", "handed", "word", "told", "other", "turned", "row", "part"] "_law_right" (defScope s_ulaw_right) (He.fAd K at_ulaw_right) cdv A outer s H E).xe := passes_of rfl
    exact (s_cons (s_if (t_cmp (oc_eq rfl (hu64 hr)) (v_var 0) v_int (nomark _)) (s_one (s_tg (vs := [2, 3, 4]) (v_call tk (ok_ulaw_edges T) (hr.mono (by decide)) (T.glo 9) (kp_ulaw_edges T) (b_ulaw_edges T) (a_cons (v_var 1) a_nil)) (g_tup rfl rfl (gs_cons (g_name 2 sc_ulaw_right.nd) (gs_cons (g_name 3 sc_ulaw_right.nd) (gs_cons (g_name 4 sc_ulaw_right.nd) gs_nil)))))) (s_one (s_if (t_cmp (oc_eq rfl (hu64 hr)) (v_var 0) v_int (nomark _)) (s_one (s_tg (vs := [2, 3, 4]) (v_call tk (ok_ulaw_bodies T) (hr.mono (by decide)) (T.glo 11) (kp_ulaw_bodies T) (b_ulaw_bodies T) (a_cons (v_var 1) a_nil)) (g_tup rfl rfl (gs_cons (g_name 2 sc_ulaw_right.nd) (gs_cons (g_name 3 sc_ulaw_right.nd) (gs_cons (g_name 4 sc_ulaw_right.nd) gs_nil)))))) (s_one (s_tg (vs := [2, 3, 4]) (v_call tk (ok_ulaw_grid T) (hr.mono (by decide)) (T.glo 13) (kp_ulaw_grid T) (b_ulaw_grid T) (a_cons (v_var 1) a_nil)) (g_tup rfl rfl (gs_cons (g_name 2 sc_ulaw_right.nd) (gs_cons (g_name 3 sc_ulaw_right.nd) (gs_cons (g_name 4 sc_ulaw_right.nd) gs_nil)))))))))
      (s_cons (s_set 5 sc_ulaw_right.nd (v_callTL false (ok_list rfl) rfl (T.free 12) (a_cons (v_var 3) a_nil)))
      (s_cons (s_if (t_cmp (oc_eq rfl (hu64 hr)) (v_var 0) v_int (nomark _)) (s_one (s_setLc 5 false [("row", 10)] rfl sc_ulaw_right.nd (i_seq rfl (v_var 3)) (blkOk_by (by kernel_rfl)) (fun _ _ _ _ _ => (g_name 10 sc_ulaw_right.nd)) (fun _ _ _ _ _ => ts_nil) (fun _ _ _ _ _ => (v_callTL false (ok_list rfl) rfl (T.free 12) (a_cons (v_var 10) a_nil))))) s_nil)
      (s_cons (s_tg (vs := [6, 7]) (v_call tk (ok_ulaw_told T) (hr.mono (by decide)) (T.glo 95) (kp_ulaw_told T) (b_ulaw_told T) (a_cons (v_var 0) (a_cons (v_var 2) (a_cons (v_var 5) a_nil)))) (g_tup rfl rfl (gs_cons (g_name 6 sc_ulaw_right.nd) (gs_cons (g_name 7 sc_ulaw_right.nd) gs_nil))))
      (s_cons (s_if (t_cmp oc_not (v_var 4) v_non (nomark _)) (s_one (s_ret (v_and (v_cmp (oc_eq rfl (hu64 hr)) (v_var 6) v_str (nomark _)) (v_one (v_cmp (oc_eq rfl (hu64 hr)) (v_var 7) (v_lst true (a_cons (v_var 4) (a_cons (v_lst true (a_cons (v_ix rfl (v_lst true (a_cons v_str (a_cons v_str (a_cons v_str a_nil)))) (v_var 0)) a_nil)) a_nil))) (nomark _)))))) s_nil)
      (s_cons (s_if (PW.pt (w_or (t_cmp (oc_ne rfl (hu64 hr)) (v_var 6) v_str (nomark _)) (pw_or1 (t_not (t_tru rfl (v_call tk (ok_ulaw_has T) (hr.mono (by decide)) (T.glo 97) (kp_ulaw_has T) (b_ulaw_has T) (a_cons (v_var 0) (a_cons (v_var 7) (a_cons (v_var 2) (a_cons (v_var 3) a_nil)))))))))) (s_one (s_ret v_bl)) s_nil)
      (s_cons (s_if (t_cmp (oc_eq rfl (hu64 hr)) (v_var 0) v_int (nomark _)) (s_one (s_sub v_str (v_ix rfl (v_var 5) v_int) v_int)) s_nil)
      (s_cons (s_expr (v_mb PySem.F.plainAttrs_list PySem.F.slot_list_append PySem.F.type_list_append ok_append ls_ty (v_var 5) (a_cons (v_tup (a_cons v_int (a_cons v_int a_nil))) a_nil)))
      (s_cons (s_set 8 sc_ulaw_right.nd (v_call tk (ok_ulaw_made T) (hr.mono (by decide)) (T.glo 42) (kp_ulaw_made T) (b_ulaw_made T) (a_cons (v_var 0) (a_cons (v_var 2) (a_cons (v_callT (ok_tuple rfl) rfl (T.free 14) (a_cons (v_lc true [("part", 11)] rfl sc_ulaw_right.nd (i_seq rfl (v_var 3)) (blkOk_by (by kernel_rfl)) (fun _ _ _ _ _ => (g_name 11 sc_ulaw_right.nd)) (fun _ _ _ _ _ => ts_nil) (fun _ _ _ _ _ => (v_callT (ok_tuple rfl) rfl (T.free 14) (a_cons (v_var 11) a_nil)))) a_nil)) a_nil)))))
      (s_cons (s_if (PW.pt (w_or (t_not (t_tru rfl (v_call tk (ok_ulaw_has T) (hr.mono (by decide)) (T.glo 97) (kp_ulaw_has T) (b_ulaw_has T) (a_cons (v_var 0) (a_cons (v_var 7) (a_cons (v_var 2) (a_cons (v_var 3) a_nil))))))) (pw_or1 (t_not (t_cmpM (om_ownEq tk (hu0 hr) (all_cons (P := fun c m => OwnOk _ _ _ _ c m) ⟨⟨_, _, _, _, (T.met 101).1, (T.met 101).2, (ok_Edges___eq__ T), (hr.mono (by decide)), (b_Edges___eq__ T)⟩, T.self 102⟩ (all_cons (P := fun c m => OwnOk _ _ _ _ c m) ⟨⟨_, _, _, _, (T.met 106).1, (T.met 106).2, (ok_Bodies___eq__ T), (hr.mono (by decide)), (b_Bodies___eq__ T)⟩, T.self 107⟩ (all_cons (P := fun c m => OwnOk _ _ _ _ c m) ⟨⟨_, _, _, _, (T.met 111).1, (T.met 111).2, (ok_Grid___eq__ T), (hr.mono (by decide)), (b_Grid___eq__ T)⟩, T.self 112⟩ (all_nil (P := fun c m => OwnOk _ _ _ _ c m))))) (om_cmp (oc_eq rfl (hu64 hr)))) (v_var 7) (v_var 8) (nomark _)))))) (s_one (s_ret v_bl)) s_nil)
      (s_cons (s_if (PW.pt (w_and (t_cmp oc_lt (v_var 0) v_int (nomark _)) (pw_and1 (t_cmp oc_lt (v_var 2) v_int (nomark _))))) (s_one (s_if (PW.pt (w_or (t_cmpM (om_ownEq tk (hu0 hr) (all_cons (P := fun c m => OwnOk _ _ _ _ c m) ⟨⟨_, _, _, _, (T.met 101).1, (T.met 101).2, (ok_Edges___eq__ T), (hr.mono (by decide)), (b_Edges___eq__ T)⟩, T.self 102⟩ (all_cons (P := fun c m => OwnOk _ _ _ _ c m) ⟨⟨_, _, _, _, (T.met 106).1, (T.met 106).2, (ok_Bodies___eq__ T), (hr.mono (by decide)), (b_Bodies___eq__ T)⟩, T.self 107⟩ (all_cons (P := fun c m => OwnOk _ _ _ _ c m) ⟨⟨_, _, _, _, (T.met 111).1, (T.met 111).2, (ok_Grid___eq__ T), (hr.mono (by decide)), (b_Grid___eq__ T)⟩, T.self 112⟩ (all_nil (P := fun c m => OwnOk _ _ _ _ c m))))) (om_cmp (oc_eq rfl (hu64 hr)))) (v_var 7) (v_call tk (ok_ulaw_made T) (hr.mono (by decide)) (T.glo 42) (kp_ulaw_made T) (b_ulaw_made T) (a_cons (v_var 0) (a_cons (v_bin (ob_add rfl) (v_var 2) v_int) (a_cons (v_callTL true (ok_list rfl) rfl (T.free 12) (a_cons (v_var 3) a_nil)) a_nil)))) (nomark _)) (pw_or1 (PW.pt (w_and (t_cmp (oc_ne rfl (hu64 hr)) (v_var 3) (v_lst true a_nil) (nomark _)) (pw_and1 (t_cmpM (om_ownEq tk (hu0 hr) (all_cons (P := fun c m => OwnOk _ _ _ _ c m) ⟨⟨_, _, _, _, (T.met 101).1, (T.met 101).2, (ok_Edges___eq__ T), (hr.mono (by decide)), (b_Edges___eq__ T)⟩, T.self 102⟩ (all_cons (P := fun c m => OwnOk _ _ _ _ c m) ⟨⟨_, _, _, _, (T.met 106).1, (T.met 106).2, (ok_Bodies___eq__ T), (hr.mono (by decide)), (b_Bodies___eq__ T)⟩, T.self 107⟩ (all_cons (P := fun c m => OwnOk _ _ _ _ c m) ⟨⟨_, _, _, _, (T.met 111).1, (T.met 111).2, (ok_Grid___eq__ T), (hr.mono (by decide)), (b_Grid___eq__ T)⟩, T.self 112⟩ (all_nil (P := fun c m => OwnOk _ _ _ _ c m))))) (om_cmp (oc_eq rfl (hu64 hr)))) (v_var 7) (v_call tk (ok_ulaw_made T) (hr.mono (by decide)) (T.glo 42) (kp_ulaw_made T) (b_ulaw_made T) (a_cons (v_var 0) (a_cons (v_var 2) (a_cons (v_sl true rfl (v_callTL true (ok_list rfl) rfl (T.free 12) (a_cons (v_var 3) a_nil)) (o_some v_int) o_none) a_nil)))) (nomark _)))))))) (s_one (s_ret v_bl)) s_nil)) s_nil)
      (s_cons (s_if (t_cmp (oc_eq rfl (hu64 hr)) (v_var 0) v_int (nomark _)) (s_cons (s_setLc 9 false [("row", 10)] rfl sc_ulaw_right.nd (i_seq rfl (v_var 3)) (blkOk_by (by kernel_rfl)) (fun _ _ _ _ _ => (g_name 10 sc_ulaw_right.nd)) (fun _ _ _ _ _ => ts_nil) (fun _ _ _ _ _ => (v_callTL false (ok_list rfl) rfl (T.free 12) (a_cons (v_var 10) a_nil))))
      (s_cons (s_sub (v_ix rfl (v_lst true (a_cons v_str (a_cons v_str a_nil))) (v_callT ok_int rfl (T.free 3) (a_cons (v_cmp (oc_eq rfl (hu64 hr)) (v_ix rfl (v_ix rfl (v_var 9) (v_un ou_neg v_int)) (v_un ou_neg v_int)) v_str (nomark _)) a_nil))) (v_ix rfl (v_var 9) (v_un ou_neg v_int)) (v_un ou_neg v_int))
      (s_one (s_if (t_cmpM (om_ownEq tk (hu0 hr) (all_cons (P := fun c m => OwnOk _ _ _ _ c m) ⟨⟨_, _, _, _, (T.met 101).1, (T.met 101).2, (ok_Edges___eq__ T), (hr.mono (by decide)), (b_Edges___eq__ T)⟩, T.self 102⟩ (all_cons (P := fun c m => OwnOk _ _ _ _ c m) ⟨⟨_, _, _, _, (T.met 106).1, (T.met 106).2, (ok_Bodies___eq__ T), (hr.mono (by decide)), (b_Bodies___eq__ T)⟩, T.self 107⟩ (all_cons (P := fun c m => OwnOk _ _ _ _ c m) ⟨⟨_, _, _, _, (T.met 111).1, (T.met 111).2, (ok_Grid___eq__ T), (hr.mono (by decide)), (b_Grid___eq__ T)⟩, T.self 112⟩ (all_nil (P := fun c m => OwnOk _ _ _ _ c m))))) (om_cmp (oc_eq rfl (hu64 hr)))) (v_var 7) (v_cal (CalM.pure (cal_make tk rfl (T.make 38 39 40) (ok_Grid___init__ T) (hr.mono (by decide)) (b_Grid___init__ T))) (T.glo 41) (T.keep 40) (a_cons (v_var 9) a_nil)) (nomark _)) (s_one (s_ret v_bl)) s_nil)))) s_nil)
      (s_one (s_ret v_bl))))))))))))))
theorem sc_law : FnScope ["script", "k", "source"] ["script"] (defScope s_law) := ⟨rfl, rfl, rfl, by decide +kernel, rfl, by decide +kernel, by decide +kernel⟩
theorem F_law (T : TT K mg) : FunD K "law" "law" (defArgs s_law) (defBody s_law) (defScope s_law) (d_law.dvs K) [] (He.fAd K at_law) (fdOf K at_law) := T.c.fd 20 (d := d_law) rfl
theorem kp_law (T : TT K mg) : PySem.W.keepIn K (.ref (He.fAd K at_law)) = true := (F_law T).kp
theorem b_law (T : TT K mg) : Binds K (fdOf K at_law) ["script"] [] := FunD.bindsN (F_law T) fun _ _ _ _ _ _ us hl => match us, hl with | [_], _ => rfl
theorem ok_law (T : TT K mg) : FnOk P w K mg base (L2.CX P w) 7 (He.fAd K at_law) (fdOf K at_law) ["script"] (spM (tx K) 1 m_law) :=
  fn_okM (Df.of (st := s_law) (F_law T)) sc_law fun cdv A outer s H E hr => by
    have tk : Takes (cxOf (L2.CX P w) P w K mg base ["script", "k", "source"] "law" (defScope s_law) (He.fAd K at_law) cdv A outer s H E) (WB E) := takes_of rfl rfl rfl rfl
    have hp : PassesOwn (model P w) (cxOf (L2.CX P w) P w K mg base ["script", "k", "source"] "law" (defScope s_law) (He.fAd K at_law) cdv A outer s H E).A (cxOf (L2.CX P w) P w K mg base ["script", "k", "source"] "law" (defScope s_law) (He.fAd K at_law) cdv A outer s H E).env (cxOf (L2.CX P w) P w K mg base ["script", "k", "source"] "law" (defScope s_law) (He.fAd K at_law) cdv A outer s H E).xe := passes_of rfl
    exact (s_cons (s_for (vs := [1]) hp rfl (i_range (T.free 2) (v_bin (ob_add rfl) (v_callB (ok_min rfl) rfl (T.free 1) (a_cons (v_callB (ok_len rfl) rfl (T.free 0) (a_cons (v_var 0) a_nil)) (a_cons v_int a_nil))) v_int)) (g_name 1 sc_law.nd) (s_cons (s_set 2 sc_law.nd (v_call tk (ok_ulaw_source T) (hr.mono (by decide)) (T.glo 4) (kp_ulaw_source T) (b_ulaw_source T) (a_cons (v_call tk (ok_ulaw_cell T) (hr.mono (by decide)) (T.glo 5) (kp_ulaw_cell T) (b_ulaw_cell T) (a_cons (v_var 0) (a_cons (v_var 1) a_nil))) (a_cons (v_var 1) a_nil))))
      (s_one (s_if (t_not (t_tru rfl (v_call tk (ok_ulaw_right T) (hr.mono (by decide)) (T.glo 113) (kp_ulaw_right T) (b_ulaw_right T) (a_cons (v_bin ob_mod (v_callT ok_int rfl (T.free 3) (a_cons (v_var 1) a_nil)) v_int) (a_cons (v_var 2) a_nil))))) (s_one (s_ret v_bl)) s_nil))))
      (s_one (s_ret v_bl)))
end
end K43

namespace K43
open PySem L2 Z
abbrev hk : PySem.W.Hook := hookI 5 facts fn ini
def ob (s : PySem.W.SharedT) : He.AlD × List IniW := obsIG 5 facts fn ini (HandSHeadRun.getT s)
theorem ob_eq (s : PySem.W.SharedT) : ob s = hk.obs s.abs := obsIG_eq (HandSHeadRun.getT_eq s)
abbrev R : PySem.W.OpenRow := PySem.W.OpenLaw.row PySem.Challenge.rw_stillframe_k43_what_is_refused
theorem run (w : World) : HandSHeadRun.RunEqI R (PySem.W.view R.prog [39]) hk ob 9000 [("_wall" : Str), ("FrameError" : Str), ("BadText" : Str), ("BadFrame" : Str), ("BadPlan" : Str), ("BadEdges" : Str), ("BadBodies" : Str), ("BadGrid" : Str), ("BadDrawing" : Str), ("BadPaper" : Str), ("BadDeed" : Str), ("MOST_VERTICES" : Str), ("MOST_EDGES" : Str), ("Edges" : Str), ("MOST_BODIES" : Str), ("MOST_BARS" : Str), ("Bodies" : Str), ("_fits" : Str), ("WORDS" : Str), ("MOST_STRIPS" : Str), ("Grid" : Str), ("_law_cell" : Str), ("_law_source" : Str), ("_law_pick" : Str), ("_law_names" : Str), ("_law_size" : Str), ("_law_edges" : Str), ("_law_place" : Str), ("_law_bodies" : Str), ("_law_grid" : Str), ("_law_made" : Str), ("_law_told" : Str), ("_law_has" : Str), ("_law_right" : Str)] w := by
  unfold HandSHeadRun.RunEqI
  kernel_rfl
end K43
open PySem PySem.W PySem.Calls PyProof.Rows
theorem PySem.Challenge.holds_of_K43 (hl : ∀ ns : List Int, ns.length ≤ 63 → (∀ k ∈ ns, Z.nb k ≤ 1048576) → ∃ s, K43.m_law [.frz (ns.map .int)] [] = .ok (.bl true) s) : PySem.Challenge.rw_stillframe_k43_what_is_refused.Holds := by
  w_on; o_law
  refine HandSHeadRun.head_imp (r := OpenLaw.row PySem.Challenge.rw_stillframe_k43_what_is_refused) (q := view (OpenLaw.row PySem.Challenge.rw_stillframe_k43_what_is_refused).prog [39]) (H := K43.hk) (ob := K43.ob) (M := 9000) (loose := [("_wall" : Str), ("FrameError" : Str), ("BadText" : Str), ("BadFrame" : Str), ("BadPlan" : Str), ("BadEdges" : Str), ("BadBodies" : Str), ("BadGrid" : Str), ("BadDrawing" : Str), ("BadPaper" : Str), ("BadDeed" : Str), ("MOST_VERTICES" : Str), ("MOST_EDGES" : Str), ("Edges" : Str), ("MOST_BODIES" : Str), ("MOST_BARS" : Str), ("Bodies" : Str), ("_fits" : Str), ("WORDS" : Str), ("MOST_STRIPS" : Str), ("Grid" : Str), ("_law_cell" : Str), ("_law_source" : Str), ("_law_pick" : Str), ("_law_names" : Str), ("_law_size" : Str), ("_law_edges" : Str), ("_law_place" : Str), ("_law_bodies" : Str), ("_law_grid" : Str), ("_law_made" : Str), ("_law_told" : Str), ("_law_has" : Str), ("_law_right" : Str)]) (d := HandSHeadRun.topDef (OpenLaw.row PySem.Challenge.rw_stillframe_k43_what_is_refused).prog 39) (kwd := []) K43.ob_eq
    K43.run (by kernel_rfl) (by kernel_rfl) (by kernel_rfl) (by rfl) (by first | assumption | decide +kernel) (by decide +kernel) ⟨rfl, rfl, rfl, rfl, rfl, by decide +kernel⟩ ?hw ?hc
  case hw => w_witness2
  case hc =>
    refine Z.walk_ofB (l := PySem.Challenge.rw_stillframe_k43_what_is_refused) (n := 63) (k := 7) (x := "script") (CX := fun w => L2.CX (PySem.Challenge.rw_stillframe_k43_what_is_refused).prog w) rfl (by decide) (by kernel_rfl) ⟨rfl, by decide, by decide⟩ ?F Z.cx_no
    intro w mg fa h Y G hmg0
    obtain ⟨K, KX, c, ci⟩ := Y
    have hmg : mg ("law" : PySem.Str) = some (.ref fa) := by
      have e : (HandSHeadRun.topDef (OpenLaw.row PySem.Challenge.rw_stillframe_k43_what_is_refused).prog 39).name = ("law" : PySem.Str) := by kernel_rfl
      rw [← e]
      exact hmg0
    have T : K43.TT K mg := Z.txtI_of KX G c ci
    have e := hmg.symm.trans (T.glo 128)
    cases e
    refine ⟨K, Z.fdOf K K43.at_law, Z.spM (K43.tx K) 1 K43.m_law, KX, ?_, fun H a ns hn hb _ hS => Z.law_sp rfl rfl hS (hl ns hn hb), fun base KB GB => K43.ok_law T⟩
    exact fun s v => L2.FunD.bindsA (ps := ["script"]) (K43.F_law T) (fun _ _ _ _ _ _ us hl => match us, hl with | [_], _ => rfl) s [v] rfl

theorem PySem.Challenge.cw_stillframe_k43_what_is_refused_holds : PySem.Challenge.rw_stillframe_k43_what_is_refused.Holds := by
  exact PySem.Challenge.holds_of_K43 K43.law_true
#print axioms PySem.Challenge.cw_stillframe_k43_what_is_refused_holds
