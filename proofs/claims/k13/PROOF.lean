import PyProof.Rows.All
import Wide.All
import OpenK.AllK
import Wide.FinOn
import HandS.ForMost
import HandS.ForExc
import HandS.Style
import HandS.Flow
import HandS.Conv
import HandS.IsInst
import HandS.Wide
import HandS.Zip
import HandS.Rev
import HandS.Defaults
import HandS.TupAny
import HandS.CallSlots
import HandS.ExcCtx
import HandS.HotCalls
import HandS.Lambda
import HandS.HeadHook4
import HandS.HeadHook1
import KE.IntBitsLaws
import HandS.Text
import HandS.More
import HandS.RaiseMore
import HandS.HeadHook2
import HandS.HeadEnd
import HandS.HeadWalk
import HandS.SetFor
import HandS.NoneIn
import KE.KExcIs
import PyProof.ReprRoads
import PyProof.CallFns
import PyProof.FitsInt
import PyProof.StrLawsRepr
import HandS.Dict
import HandS.TupMul
import HandS.Nested
import HandS.EndTab
import HandS.Iter
import HandS.Flt
import KE.GoesMore
import HandS.MapJoin
import PyProof.Rows.IntBool
import PyProof.CallStr
import HandS.Deep
import KE.KStrOpen
import HandS.SortInts
import HandS.SortKw
import KE.DatumOrd
import PyProof.EqKinds
import HandS.SortRule
import HandS.List
import HandS.Small
import HandS.Head0
import HandS.Head1
import HandS.Head2
import HandS.HeadHook3
import PySem.Challenge.RW_beatlanes_k13_what_is_a_piece
set_option Elab.async false
set_option linter.all false
set_option maxRecDepth 100000
set_option maxHeartbeats 4000000
namespace DL
open PySem PySem.Spec PyProof.Rows L2

/-! ## data -/
inductive D where
  | non | bl (b : Bool) | int (i : Int) | str (x : Str)
  | tup (l : List D) | lst (l : List D) | fls (l : List D) | dct (ks : List Key) (vs : List D)
  | han (h : Nat) | ref (a : Addr) | ty (n : String)
  /-- a refusal that is kept, by its class -/
  | exc (c : Str)
  /-- a dict that is changed in place, by its handle -/
  | dh (h : Nat)

def KLst (K : PySem.W.Frag) (a : Addr) (xs : List V) : Prop :=
  ∃ (o : Obj) (its : Array Value) (n : Nat), K.lookup a = some o ∧ o.cls = .type "list" ∧ o.dict = none ∧ o.data = .seq its n ∧ its.size ≤ sizeLine ∧ Vals xs its.toList

/-! ## defs that make a function without a name: their code objects and the tables of these -/
def makers : List Str := ["fault_of_takes", "fault_of_lanes", "cut_out", "open_gap"]
structure LamR where
  c : Addr
  p : Addr
  q : Str
def lamRs (K : PySem.W.Frag) : List LamR := makers.filterMap fun n => if PySem.W.codeHdIn K (He.cT K (n, none)).1 (He.cT K (n, none)).2 = true then some ⟨(He.cT K (n, none)).1, (He.cT K (n, none)).2, n ++ ".<locals>.<lambda>"⟩ else none
def lamT (K : PySem.W.Frag) : List (Addr × Str) := (lamRs K).map fun r => (r.p, r.q)
/-- what is true of the object of a kept refusal -/
def ExcO (K : PySem.W.Frag) (a : Addr) (c : Str) : Heap → Prop := fun h => ∃ oe : Obj, h.get? a = some oe ∧ L2N.Zn (.ref (He.ga K c)) none oe ∧ ∃ vs, oe.data = .fields vs
/-- the lists at handles; lists in the making -/
structure Mu where
  h : List Addr
  f : List Addr

/-- a list, or a dict -/
def kd : Option HO → Option Bool
  | some (.lst _) => some true
  | some (.dK _) => some false
  | some (.dT _) => some false
  | _ => none
mutual
inductive Rep (K : PySem.W.Frag) (H : Hp) (μ : Mu) : V → D → Prop
  | non : Rep K H μ .non .non
  | bl (b : Bool) : Rep K H μ (.bl b) (.bl b)
  | int (i : Int) : Rep K H μ (.int i) (.int i)
  | str (x : Str) : Rep K H μ (.str x) (.str x)
  | ty (n : String) : Rep K H μ (.ty n) (.ty n)
  | ref (a : Addr) : Rep K H μ (.ref a) (.ref a)
  | tup {a : Addr} {vs : List V} {ds : List D} : SqT K H a vs → Reps K H μ vs ds → Rep K H μ (.ref a) (.tup ds)
  | lst {a : Addr} {vs : List V} {ds : List D} : H a = some (.lst vs) → a ∉ μ.h → a ∉ μ.f → Reps K H μ vs ds → Rep K H μ (.ref a) (.lst ds)
  | fix {a : Addr} {vs : List V} {ds : List D} : ((∃ o, H a = some (.frz o (.lst vs))) ∨ KLst K a vs) → Reps K H μ vs ds → Rep K H μ (.ref a) (.fls ds)
  | dct {a : Addr} {kvs : List (Key × V)} {ds : List D} : H a = some (.dK kvs) → a ∉ μ.h → Reps K H μ (kvs.map (·.2)) ds → Rep K H μ (.ref a) (.dct (kvs.map (·.1)) ds)
  | han {h : Nat} {a : Addr} : μ.h[h]? = some a → kd (H a) = some true → Rep K H μ (.ref a) (.han h)
  | dh {h : Nat} {a : Addr} : μ.h[h]? = some a → kd (H a) = some false → Rep K H μ (.ref a) (.dh h)
  | exc {a : Addr} {c : Str} : H a = some (.ext (ExcO K a c)) → Rep K H μ (.ref a) (.exc c)
inductive Reps (K : PySem.W.Frag) (H : Hp) (μ : Mu) : List V → List D → Prop
  | nil : Reps K H μ [] []
  | cons {v : V} {vs : List V} {d : D} {ds : List D} : Rep K H μ v d → Reps K H μ vs ds → Reps K H μ (v :: vs) (d :: ds)
end

/-- what a piece of code leaves: everything tracked but the lists at handles stays; handles are added, new ones only -/
structure Keep (H : Hp) (μ : Mu) (H' : Hp) (μ' : Mu) : Prop where
  src : ∀ a ∈ μ.h, kd (H a) ≠ none
  objs : ∀ a o, H a = some o → a ∉ μ.h → (∀ ps, o ≠ .tbl ps) → H' a = some o
  pre : ∃ ν, μ'.h = μ.h ++ ν
  ff : μ'.f = μ.f
  new : ∀ a ∈ μ'.h, a ∈ μ.h ∨ H a = none
  tbs : ∀ a ps, H a = some (.tbl ps) → ∃ ps', H' a = some (.tbl ps')
  knd : ∀ a ∈ μ.h, kd (H' a) = kd (H a)

section
variable {K : PySem.W.Frag} {H H1 H2 : Hp} {μ μ1 μ2 : Mu}
theorem Keep.mem (k : Keep H μ H1 μ1) {a : Addr} (h : a ∈ μ.h) : a ∈ μ1.h := by
  obtain ⟨ν, e⟩ := k.pre
  rw [e]; exact List.mem_append_left _ h
/-- what is tracked and stands at no handle stays tracked -/
theorem Keep.some_ (k : Keep H μ H1 μ1) {a : Addr} {o : HO} (e : H a = some o) (hn : a ∉ μ.h) : ∃ o', H1 a = some o' := by
  by_cases h : ∃ ps, o = .tbl ps
  · obtain ⟨ps, rfl⟩ := h
    obtain ⟨ps', e'⟩ := k.tbs a ps e
    exact ⟨_, e'⟩
  · exact ⟨o, k.objs a o e hn fun ps z => h ⟨ps, z⟩⟩
theorem Keep.trans (a : Keep H μ H1 μ1) (b : Keep H1 μ1 H2 μ2) : Keep H μ H2 μ2 where
  src := a.src
  knd := fun x hx => (b.knd x (a.mem hx)).trans (a.knd x hx)
  objs := fun x o h hn ht => b.objs x o (a.objs x o h hn ht) (fun z => by
    rcases a.new x z with q | q
    · exact hn q
    · rw [h] at q; cases q) ht
  pre := by
    obtain ⟨ν, e⟩ := a.pre
    obtain ⟨ν', e'⟩ := b.pre
    exact ⟨ν ++ ν', by rw [e', e, List.append_assoc]⟩
  ff := b.ff.trans a.ff
  tbs := fun x ps h => by
    obtain ⟨ps1, h1⟩ := a.tbs x ps h
    exact b.tbs x ps1 h1
  new := fun x hx => by
    rcases b.new x hx with q | q
    · exact a.new x q
    · by_cases hm : x ∈ μ.h
      · exact .inl hm
      · right
        cases e : H x with
        | none => rfl
        | some o => obtain ⟨o', e'⟩ := a.some_ e hm; rw [e'] at q; cases q
theorem Keep.get (k : Keep H μ H1 μ1) {h : Nat} {a : Addr} (e : μ.h[h]? = some a) : μ1.h[h]? = some a := by
  obtain ⟨ν, q⟩ := k.pre
  rw [q, List.getElem?_append_left (List.getElem?_eq_some_iff.mp e).1]
  exact e
theorem Keep.nm (k : Keep H μ H1 μ1) {a : Addr} {o : HO} (e : H a = some o) (hn : a ∉ μ.h) : a ∉ μ1.h := fun z => by
  rcases k.new a z with q | q
  · exact hn q
  · rw [e] at q; cases q
theorem Keep.other (k : Keep H μ H1 μ1) {a : Addr} {o : HO} (e : H a = some o) (hne : ∀ xs, o ≠ .lst xs) (ht : ∀ ps, o ≠ .tbl ps := by intro _ z; cases z) (hk : kd (some o) = none := by rfl) : H1 a = some o := k.objs _ _ e (fun z => k.src a z (by rw [e]; exact hk)) ht
theorem Keep.sqT (k : Keep H μ H1 μ1) {a : Addr} {vs : List V} (h : SqT K H a vs) : SqT K H1 a vs := by
  rcases h with (h | ⟨o, h⟩) | h
  · exact .inl (.inl (k.other h fun xs z => by cases z))
  · exact .inl (.inr ⟨o, k.other h fun xs z => by cases z⟩)
  · exact .inr h
mutual
theorem Rep.keep (k : Keep H μ H1 μ1) : ∀ {v : V} {d : D}, Rep K H μ v d → Rep K H1 μ1 v d
  | _, _, .non => .non
  | _, _, .bl b => .bl b
  | _, _, .int i => .int i
  | _, _, .str x => .str x
  | _, _, .ty n => .ty n
  | _, _, .ref a => .ref a
  | _, _, .tup h r => .tup (k.sqT h) (Reps.keep k r)
  | _, _, .lst h n nf r => .lst (k.objs _ _ h n (by intro _ z; cases z)) (k.nm h n) (by rw [k.ff]; exact nf) (Reps.keep k r)
  | _, _, .fix h r => .fix (by
      rcases h with ⟨o, h⟩ | h
      · exact .inl ⟨o, k.other h fun xs z => by cases z⟩
      · exact .inr h) (Reps.keep k r)
  | _, _, .dct h n r => .dct (k.objs _ _ h n (by intro _ z; cases z)) (k.nm h n) (Reps.keep k r)
  | _, _, .han h e => .han (k.get h) ((k.knd _ (List.mem_of_getElem? h)).trans e)
  | _, _, .dh h e => .dh (k.get h) ((k.knd _ (List.mem_of_getElem? h)).trans e)
  | _, _, .exc h => .exc (k.other h fun xs z => by cases z)
theorem Reps.keep (k : Keep H μ H1 μ1) : ∀ {vs : List V} {ds : List D}, Reps K H μ vs ds → Reps K H1 μ1 vs ds
  | _, _, .nil => .nil
  | _, _, .cons r t => .cons (Rep.keep k r) (Reps.keep k t)
end
/-- a general carrying over: the frozen lists that are told stay frozen, the rest stays -/
structure Car (H : Hp) (μ : Mu) (H1 : Hp) (μ1 : Mu) : Prop where
  oth0 : ∀ a o, H a = some o → (∀ xs, o ≠ .lst xs) → (∀ ps, o ≠ .tbl ps) → kd (some o) = none → H1 a = some o
  lst : ∀ a vs, H a = some (.lst vs) → a ∉ μ.h → a ∉ μ.f → H1 a = some (.lst vs) ∧ a ∉ μ1.h ∧ a ∉ μ1.f
  han : ∀ (h : Nat) (a : Addr), μ.h[h]? = some a → μ1.h[h]? = some a
  dct : ∀ a kvs, H a = some (.dK kvs) → a ∉ μ.h → H1 a = some (.dK kvs) ∧ a ∉ μ1.h
  knd : ∀ a ∈ μ.h, kd (H1 a) = kd (H a)
theorem Car.oth (k : Car H μ H1 μ1) (a : Addr) (o : HO) (e : H a = some o) (h : ∀ xs, o ≠ .lst xs) (ht : ∀ ps, o ≠ .tbl ps) (hk : kd (some o) = none := by rfl) : H1 a = some o := k.oth0 a o e h ht hk
theorem Car.sqT (k : Car H μ H1 μ1) {a : Addr} {vs : List V} (h : SqT K H a vs) : SqT K H1 a vs := by
  rcases h with (h | ⟨o, h⟩) | h
  · exact .inl (.inl (k.oth _ _ h (fun xs z => by cases z) fun xs z => by cases z))
  · exact .inl (.inr ⟨o, k.oth _ _ h (fun xs z => by cases z) fun xs z => by cases z⟩)
  · exact .inr h
mutual
theorem Rep.car (k : Car H μ H1 μ1) : ∀ {v : V} {d : D}, Rep K H μ v d → Rep K H1 μ1 v d
  | _, _, .non => .non
  | _, _, .bl b => .bl b
  | _, _, .int i => .int i
  | _, _, .str x => .str x
  | _, _, .ty n => .ty n
  | _, _, .ref a => .ref a
  | _, _, .tup h r => .tup (k.sqT h) (Reps.car k r)
  | _, _, .lst h n nf r => .lst (k.lst _ _ h n nf).1 (k.lst _ _ h n nf).2.1 (k.lst _ _ h n nf).2.2 (Reps.car k r)
  | _, _, .fix h r => .fix (by
      rcases h with ⟨o, h⟩ | h
      · exact .inl ⟨o, k.oth _ _ h (fun xs z => by cases z) fun xs z => by cases z⟩
      · exact .inr h) (Reps.car k r)
  | _, _, .dct h n r => .dct (k.dct _ _ h n).1 (k.dct _ _ h n).2 (Reps.car k r)
  | _, _, .han h e => .han (k.han _ _ h) ((k.knd _ (List.mem_of_getElem? h)).trans e)
  | _, _, .dh h e => .dh (k.han _ _ h) ((k.knd _ (List.mem_of_getElem? h)).trans e)
  | _, _, .exc h => .exc (k.oth _ _ h (fun xs z => by cases z) fun xs z => by cases z)
theorem Reps.car (k : Car H μ H1 μ1) : ∀ {vs : List V} {ds : List D}, Reps K H μ vs ds → Reps K H1 μ1 vs ds
  | _, _, .nil => .nil
  | _, _, .cons r t => .cons (Rep.car k r) (Reps.car k t)
end
theorem Keep.car (k : Keep H μ H1 μ1) : Car H μ H1 μ1 := ⟨fun _ _ e h ht hk => k.other e h ht hk, fun _ _ e n1 n2 => ⟨k.objs _ _ e n1 (by intro _ z; cases z), k.nm e n1, by rw [k.ff]; exact n2⟩, fun _ _ e => k.get e, fun _ _ e n => ⟨k.objs _ _ e n (by intro _ z; cases z), k.nm e n⟩, k.knd⟩
theorem Car.trans (a : Car H μ H1 μ1) (b : Car H1 μ1 H2 μ2) : Car H μ H2 μ2 :=
  ⟨fun x o e h ht hk => b.oth0 x o (a.oth0 x o e h ht hk) h ht hk, fun x vs e n1 n2 => let ⟨h1, h2, h3⟩ := a.lst x vs e n1 n2; b.lst x vs h1 h2 h3, fun h x e => b.han h x (a.han h x e), fun x kvs e n => let ⟨h1, h2⟩ := a.dct x kvs e n; b.dct x kvs h1 h2, fun x hx => by
    obtain ⟨i, hi⟩ := List.getElem?_of_mem hx
    exact (b.knd x (List.mem_of_getElem? (a.han i x hi))).trans (a.knd x hx)⟩
theorem Reps.length : ∀ {vs : List V} {ds : List D}, Reps K H μ vs ds → vs.length = ds.length
  | _, _, .nil => rfl
  | _, _, .cons _ t => congrArg Nat.succ (Reps.length t)
theorem Reps.get : ∀ {vs : List V} {ds : List D} {i : Nat} {d : D}, Reps K H μ vs ds → ds[i]? = some d → ∃ v, vs[i]? = some v ∧ Rep K H μ v d
  | _, _, _, _, .nil, e => by simp at e
  | _, _, 0, _, .cons r _, e => by simp at e; subst e; exact ⟨_, rfl, r⟩
  | _, _, i + 1, d, .cons _ t, e => by
    obtain ⟨u, h1, h2⟩ := Reps.get (i := i) (d := d) t (by simpa using e)
    exact ⟨u, by simpa using h1, h2⟩
theorem Reps.getV : ∀ {vs : List V} {ds : List D} {i : Nat} {v : V}, Reps K H μ vs ds → vs[i]? = some v → ∃ d, ds[i]? = some d ∧ Rep K H μ v d
  | _, _, _, _, .nil, e => by simp at e
  | _, _, 0, _, .cons r _, e => by simp at e; subst e; exact ⟨_, rfl, r⟩
  | _, _, i + 1, d, .cons _ t, e => by
    obtain ⟨u, h1, h2⟩ := Reps.getV (i := i) (v := d) t (by simpa using e)
    exact ⟨u, by simpa using h1, h2⟩
theorem Reps.append : ∀ {vs ws : List V} {ds es : List D}, Reps K H μ vs ds → Reps K H μ ws es → Reps K H μ (vs ++ ws) (ds ++ es)
  | _, _, _, _, .nil, s => s
  | _, _, _, _, .cons r t, s => .cons r (Reps.append t s)
theorem Reps.take : ∀ {vs : List V} {ds : List D} (n : Nat), Reps K H μ vs ds → Reps K H μ (vs.take n) (ds.take n)
  | _, _, 0, _ => .nil
  | _, _, _ + 1, .nil => .nil
  | _, _, n + 1, .cons r t => .cons r (Reps.take n t)
theorem Reps.drop : ∀ {vs : List V} {ds : List D} (n : Nat), Reps K H μ vs ds → Reps K H μ (vs.drop n) (ds.drop n)
  | _, _, 0, r => r
  | _, _, _ + 1, .nil => .nil
  | _, _, n + 1, .cons _ t => Reps.drop n t
theorem Reps.set {v : V} {d : D} (r : Rep K H μ v d) : ∀ {vs : List V} {ds : List D} (i : Nat), Reps K H μ vs ds → Reps K H μ (vs.set i v) (ds.set i d)
  | _, _, _, .nil => .nil
  | _, _, 0, .cons _ t => .cons r t
  | _, _, i + 1, .cons q t => .cons q (Reps.set r i t)
theorem Reps.reverse : ∀ {vs : List V} {ds : List D}, Reps K H μ vs ds → Reps K H μ vs.reverse ds.reverse
  | _, _, .nil => .nil
  | _, _, .cons r t => by
    rw [List.reverse_cons, List.reverse_cons]
    exact (Reps.reverse t).append (.cons r .nil)
theorem Reps.dropLast {vs : List V} {ds : List D} (r : Reps K H μ vs ds) : Reps K H μ vs.dropLast ds.dropLast := by
  rw [List.dropLast_eq_take, List.dropLast_eq_take, r.length]
  exact r.take _
theorem Reps.eraseIdx : ∀ {vs : List V} {ds : List D} (i : Nat), Reps K H μ vs ds → Reps K H μ (vs.eraseIdx i) (ds.eraseIdx i)
  | _, _, _, .nil => .nil
  | _, _, 0, .cons _ t => t
  | _, _, i + 1, .cons q t => .cons q (Reps.eraseIdx i t)
theorem Reps.nil_iff {vs : List V} {ds : List D} (r : Reps K H μ vs ds) : vs = [] ↔ ds = [] := by
  cases r <;> simp
theorem Reps.map {α : Type} {f : α → V} {g : α → D} : ∀ (l : List α), (∀ x ∈ l, Rep K H μ (f x) (g x)) → Reps K H μ (l.map f) (l.map g)
  | [], _ => .nil
  | x :: r, h => .cons (h x List.mem_cons_self) (Reps.map r fun y hy => h y (List.mem_cons_of_mem _ hy))

/-! ## the store of lists at handles, the slots -/
abbrev Me := List (List D)
abbrev En := List (Option D)
def kD : Key → D
  | .inl i => .int i
  | .inr x => .str x
/-- what stands at a handle: a list, a dict with keys of ints and texts, a dict with keys of tuples of them -/
def Cell (K : PySem.W.Frag) (H : Hp) (μ : Mu) (a : Addr) (ds : List D) : Prop :=
  (∃ vs, H a = some (.lst vs) ∧ Reps K H μ vs ds) ∨
  (∃ (kvs : List (Key × V)) (es : List D), H a = some (.dK kvs) ∧ ds = [.dct (kvs.map (·.1)) es] ∧ Reps K H μ (kvs.map (·.2)) es) ∨
  (∃ (kvs : List (List Key × V)) (es : List D), H a = some (.dT kvs) ∧ ds = [.tup (kvs.map fun kv => .tup (kv.1.map kD)), .tup es] ∧ Reps K H μ (kvs.map (·.2)) es)
theorem Cell.to {K : PySem.W.Frag} {a : Addr} {ds : List D} (c : Cell K H μ a ds) (e : H1 a = H a) (f : ∀ vs es, Reps K H μ vs es → Reps K H1 μ1 vs es) : Cell K H1 μ1 a ds := by
  rcases c with ⟨vs, h1, h2⟩ | ⟨kvs, es, h1, h3, h2⟩ | ⟨kvs, es, h1, h3, h2⟩
  · exact .inl ⟨vs, e.trans h1, f _ _ h2⟩
  · exact .inr (.inl ⟨kvs, es, e.trans h1, h3, f _ _ h2⟩)
  · exact .inr (.inr ⟨kvs, es, e.trans h1, h3, f _ _ h2⟩)
theorem Cell.kd_ {K : PySem.W.Frag} {a : Addr} {ds : List D} (c : Cell K H μ a ds) : kd (H a) ≠ none := by
  rcases c with ⟨vs, h1, h2⟩ | ⟨kvs, es, h1, h3, h2⟩ | ⟨kvs, es, h1, h3, h2⟩ <;> (rw [h1]; exact fun z => nomatch z)
theorem Cell.ls {K : PySem.W.Frag} {a : Addr} {ds : List D} (c : Cell K H μ a ds) (hk : kd (H a) = some true) : ∃ vs, H a = some (.lst vs) ∧ Reps K H μ vs ds := by
  rcases c with c | ⟨kvs, es, h1, h3, h2⟩ | ⟨kvs, es, h1, h3, h2⟩
  · exact c
  · rw [h1] at hk; cases hk
  · rw [h1] at hk; cases hk
structure RelS (K : PySem.W.Frag) (H : Hp) (μ : Mu) (M : Me) : Prop where
  len : M.length = μ.h.length
  nd : μ.h.Nodup
  at2 : ∀ (h : Nat) (a : Addr) (ds : List D), μ.h[h]? = some a → M[h]? = some ds → Cell K H μ a ds
  ft : ∀ a ∈ μ.f, a ∉ μ.h ∧ ∃ vs, H a = some (.lst vs)
  tb : LamX.Tabs (lamT K) H
theorem RelS.at_ {M : Me} (r : RelS K H μ M) (h : Nat) (a : Addr) (ds : List D) (e : μ.h[h]? = some a) (e2 : M[h]? = some ds) (hk : kd (H a) = some true := by assumption) : ∃ vs, H a = some (.lst vs) ∧ Reps K H μ vs ds := (r.at2 h a ds e e2).ls hk
theorem RelS.src {M : Me} (r : RelS K H μ M) : ∀ a ∈ μ.h, kd (H a) ≠ none := fun a ha => by
  obtain ⟨h, hl⟩ := List.getElem?_of_mem ha
  have hh : h < μ.h.length := (List.getElem?_eq_some_iff.mp hl).1
  have hm : h < M.length := by rw [r.len]; exact hh
  exact (r.at2 h a (M[h]'hm) hl (List.getElem?_eq_getElem hm)).kd_
theorem RelS.ne_ {M : Me} (r : RelS K H μ M) {p a : Addr} (hp : H p = none) (ha : a ∈ μ.h) : a ≠ p := fun z => r.src a ha (by rw [z, hp]; rfl)
theorem RelS.nmL {M : Me} (r : RelS K H μ M) {a : Addr} {o : HO} (e : H a = some o) (hk : kd (some o) = none := by rfl) : a ∉ μ.h := fun z => r.src a z (by rw [e]; exact hk)
theorem RelS.ext_at {M : Me} (r : RelS K H μ M) {H' : Hp} (ext : ∀ a o, H a = some o → (∀ ps, o ≠ .tbl ps) → H' a = some o) {a : Addr} (ha : a ∈ μ.h) : H' a = H a := by
  have hn := r.src a ha
  cases e : H a with
  | none => rw [e] at hn; exact absurd rfl hn
  | some o => exact ext a o e fun ps z => by subst z; rw [e] at hn; exact hn rfl
theorem tabs_oth2 {T : List (Addr × Str)} {H H' : Hp} (t : LamX.Tabs T H) (e : ∀ b o, H b = some o → kd (some o) = none → H' b = some o) : LamX.Tabs T H' := fun p hp => by
  obtain ⟨ps, h1, h2, h3⟩ := t p hp
  refine ⟨ps, e _ _ h1 rfl, h2, fun pos cv hc => ?_⟩
  obtain ⟨c, e1, e2⟩ := h3 pos cv hc
  exact ⟨c, e1, e _ _ e2 rfl⟩
theorem tabs_oth {T : List (Addr × Str)} {H H' : Hp} (t : LamX.Tabs T H) (e : ∀ b o, H b = some o → (∀ xs, o ≠ .lst xs) → H' b = some o) : LamX.Tabs T H' := fun p hp => by
  obtain ⟨ps, h1, h2, h3⟩ := t p hp
  refine ⟨ps, e _ _ h1 (fun xs z => by cases z), h2, fun pos cv hc => ?_⟩
  obtain ⟨c, e1, e2⟩ := h3 pos cv hc
  exact ⟨c, e1, e _ _ e2 (fun xs z => by unfold LamX.CodeO at z; cases z)⟩
theorem RelS.refl {M : Me} (r : RelS K H μ M) : Keep H μ H μ := ⟨r.src, fun _ _ h _ _ => h, ⟨[], by simp⟩, rfl, fun _ h => .inl h, fun _ ps h => ⟨ps, h⟩, fun _ _ => rfl⟩
structure RelE (K : PySem.W.Frag) (H : Hp) (μ : Mu) (σ : L2.St) (env : En) : Prop where
  len : env.length = σ.length
  at_ : ∀ (i : Nat) (d : D), env[i]? = some (some d) → ∃ v, σ[i]? = some (some v) ∧ Rep K H μ v d
theorem RelE.keep {σ : L2.St} {env : En} (r : RelE K H μ σ env) (k : Keep H μ H1 μ1) : RelE K H1 μ1 σ env := ⟨r.len, fun i d e => let ⟨v, h1, h2⟩ := r.at_ i d e; ⟨v, h1, h2.keep k⟩⟩
theorem RelE.car {σ : L2.St} {env : En} (r : RelE K H μ σ env) (k : Car H μ H1 μ1) : RelE K H1 μ1 σ env := ⟨r.len, fun i d e => let ⟨v, h1, h2⟩ := r.at_ i d e; ⟨v, h1, h2.car k⟩⟩
theorem set_get {α : Type} {l : List α} {i j : Nat} {x y : α} (h : (l.set i x)[j]? = some y) : (i = j ∧ y = x ∧ i < l.length) ∨ (i ≠ j ∧ l[j]? = some y) := by
  by_cases hj : i = j
  · subst hj
    by_cases hl : i < l.length
    · rw [List.getElem?_set_self hl] at h
      cases h
      exact .inl ⟨rfl, rfl, hl⟩
    · rw [List.getElem?_eq_none (by rw [List.length_set]; omega)] at h
      cases h
  · rw [List.getElem?_set_ne hj] at h
    exact .inr ⟨hj, h⟩
theorem RelE.set {σ : L2.St} {env : En} {v : V} {d : D} (r : RelE K H μ σ env) (i : Nat) (rv : Rep K H μ v d) : RelE K H μ (σ.set i (some v)) (env.set i (some d)) := by
  refine ⟨by simp [r.len], fun j e h => ?_⟩
  rcases set_get h with ⟨rfl, q, hl⟩ | ⟨hj, h⟩
  · cases q
    exact ⟨v, List.getElem?_set_self (by rw [← r.len]; exact hl), rv⟩
  · obtain ⟨w, h1, h2⟩ := r.at_ j e h
    exact ⟨w, by rw [List.getElem?_set_ne hj]; exact h1, h2⟩
theorem RelE.setN {σ : L2.St} {env : En} (r : RelE K H μ σ env) (i : Nat) : RelE K H μ (σ.set i none) (env.set i none) := by
  refine ⟨by simp [r.len], fun j e h => ?_⟩
  rcases set_get h with ⟨rfl, q, hl⟩ | ⟨hj, h⟩
  · cases q
  · obtain ⟨w, h1, h2⟩ := r.at_ j e h
    exact ⟨w, by rw [List.getElem?_set_ne hj]; exact h1, h2⟩
theorem nodup_at {α : Type} {N : List α} (hN : N.Nodup) {i j : Nat} {x : α} (a : N[i]? = some x) (b : N[j]? = some x) : i = j := by
  obtain ⟨h1, e1⟩ := List.getElem?_eq_some_iff.mp a
  obtain ⟨h2, e2⟩ := List.getElem?_eq_some_iff.mp b
  exact (List.getElem_inj hN).mp (e1.trans e2.symm)
theorem notMem_of_none {M : Me} {p : Addr} (r : RelS K H μ M) (hp : H p = none) : p ∉ μ.h ∧ p ∉ μ.f := by
  refine ⟨fun z => ?_, fun z => ?_⟩
  · exact r.src p z (by rw [hp]; rfl)
  · obtain ⟨_, vs, e⟩ := r.ft p z
    rw [hp] at e; cases e
/-- an untracked new object laid at p -/
theorem RelS.lay {M : Me} {p : Addr} {o : HO} (r : RelS K H μ M) (hp : H p = none) : Keep H μ (upd H p o) μ ∧ RelS K (upd H p o) μ M := by
  have k : Keep H μ (upd H p o) μ := ⟨r.src, fun a u e _ _ => by rw [upd_ne (ne_of_none e hp)]; exact e, ⟨[], by simp⟩, rfl, fun _ h => .inl h, fun a ps e => ⟨ps, by rw [upd_ne (ne_of_none e hp)]; exact e⟩, fun a ha => by rw [upd_ne (r.ne_ hp ha)]⟩
  refine ⟨k, r.len, r.nd, fun h a ds e1 e2 => ?_, fun a ha => ?_, r.tb.ext fun b o e => by rw [upd_ne (ne_of_none e hp)]; exact e⟩
  · exact (r.at2 h a ds e1 e2).to (upd_ne (r.ne_ hp (List.mem_of_getElem? e1))) fun _ _ z => z.keep k
  · obtain ⟨h1, vs, h2⟩ := r.ft a ha
    exact ⟨h1, vs, by rw [upd_ne (ne_of_none h2 hp)]; exact h2⟩
abbrev Mu.hide (μ : Mu) (p : Addr) : Mu := ⟨μ.h, p :: μ.f⟩
abbrev Mu.more (μ : Mu) (p : Addr) : Mu := ⟨μ.h ++ [p], μ.f⟩
/-- a new list, in the making -/
theorem RelS.hide {M : Me} {p : Addr} {vs : List V} (r : RelS K H μ M) (hp : H p = none) : Car H μ (upd H p (.lst vs)) (μ.hide p) ∧ RelS K (upd H p (.lst vs)) (μ.hide p) M := by
  have c : Car H μ (upd H p (.lst vs)) (μ.hide p) := ⟨fun a o e _ _ _ => by rw [upd_ne (ne_of_none e hp)]; exact e, fun a xs e n1 n2 => ⟨by rw [upd_ne (ne_of_none e hp)]; exact e, n1, fun z => by
    rcases List.mem_cons.mp z with z | z
    · rw [z, hp] at e; cases e
    · exact n2 z⟩, fun _ _ h => h, fun a kvs e n => ⟨by rw [upd_ne (ne_of_none e hp)]; exact e, n⟩, fun a ha => by rw [upd_ne (r.ne_ hp ha)]⟩
  refine ⟨c, r.len, r.nd, fun h a ds e1 e2 => ?_, fun a ha => ?_, LamX.Tabs.ext r.tb fun b o e => by rw [upd_ne (ne_of_none e hp)]; exact e⟩
  · exact (r.at2 h a ds e1 e2).to (upd_ne (r.ne_ hp (List.mem_of_getElem? e1))) fun _ _ z => z.car c
  · rcases List.mem_cons.mp ha with rfl | ha
    · exact ⟨(notMem_of_none r hp).1, _, upd_same⟩
    · obtain ⟨h1, vs, h2⟩ := r.ft a ha
      exact ⟨h1, vs, by rw [upd_ne (ne_of_none h2 hp)]; exact h2⟩
/-- it is written while in the making -/
theorem RelS.hidden {M : Me} {p : Addr} {vs : List V} (r : RelS K H (μ.hide p) M) : Car H (μ.hide p) (upd H p (.lst vs)) (μ.hide p) ∧ RelS K (upd H p (.lst vs)) (μ.hide p) M := by
  obtain ⟨hp, xs0, e0⟩ := r.ft p List.mem_cons_self
  have c : Car H (μ.hide p) (upd H p (.lst vs)) (μ.hide p) := ⟨fun a o e ne _ _ => by
    rw [upd_ne]
    · exact e
    · rintro rfl
      rw [e0] at e; cases e; exact ne _ rfl, fun a xs e n1 n2 => ⟨by
    rw [upd_ne (fun z => n2 (by rw [z]; exact List.mem_cons_self))]; exact e, n1, n2⟩, fun _ _ h => h, fun a kvs e n => ⟨by
    rw [upd_ne (fun z => by
      rw [z, e0] at e
      exact nomatch e)]
    exact e, n⟩, fun a ha => by rw [upd_ne (fun z => hp (by rw [← z]; exact ha))]⟩
  refine ⟨c, r.len, r.nd, fun h a ds e1 e2 => ?_, fun a ha => ?_, tabs_oth2 r.tb fun a o e ne => ?_⟩
  rotate_left 2
  · rw [upd_ne]
    · exact e
    · rintro rfl
      rw [e0] at e; cases e; cases ne
  · exact (r.at2 h a ds e1 e2).to (upd_ne (fun z => hp (by rw [← z]; exact List.mem_of_getElem? e1))) fun _ _ z => z.car c
  · obtain ⟨h1, ws, h2⟩ := r.ft a ha
    refine ⟨h1, ?_⟩
    by_cases z : a = p
    · subst z; exact ⟨_, upd_same⟩
    · exact ⟨ws, by rw [upd_ne z]; exact h2⟩
/-- it is done: frozen -/
theorem Car.show_ {p : Addr} : Car H (μ.hide p) H μ := ⟨fun _ _ e _ _ _ => e, fun _ _ e n1 n2 => ⟨e, n1, fun z => n2 (List.mem_cons_of_mem _ z)⟩, fun _ _ h => h, fun _ _ e n => ⟨e, n⟩, fun _ _ => rfl⟩
theorem RelS.show_ {M : Me} {p : Addr} (r : RelS K H (μ.hide p) M) (hp : p ∉ μ.f) : RelS K H μ M ∧ p ∉ μ.h ∧ p ∉ μ.f :=
  ⟨⟨r.len, r.nd, fun h a ds e1 e2 => (r.at2 h a ds e1 e2).to rfl fun _ _ z => z.car .show_, fun a ha => r.ft a (List.mem_cons_of_mem _ ha), r.tb⟩, (r.ft p List.mem_cons_self).1, hp⟩
/-- .. or at a new handle -/
theorem Car.more {M : Me} {p : Addr} (r : RelS K H (μ.hide p) M) : Car H (μ.hide p) H (μ.more p) := ⟨fun _ _ e _ _ _ => e, fun a _ e n1 n2 => ⟨e, fun z => by
    rcases List.mem_append.mp z with z | z
    · exact n1 z
    · simp at z; subst z; exact n2 List.mem_cons_self, fun z => n2 (List.mem_cons_of_mem _ z)⟩, fun h a e => by
    show (μ.h ++ [p])[h]? = some a
    rw [List.getElem?_append_left (List.getElem?_eq_some_iff.mp e).1]; exact e, fun a kvs e n => ⟨e, fun z => by
    rcases List.mem_append.mp z with z | z
    · exact n z
    · simp at z; subst z
      obtain ⟨_, vs, e2⟩ := r.ft a List.mem_cons_self
      rw [e] at e2; cases e2⟩, fun _ _ => rfl⟩
theorem RelS.more {M : Me} {p : Addr} {vs : List V} {ds : List D} (r : RelS K H (μ.hide p) M) (hp : p ∉ μ.f) (e : H p = some (.lst vs)) (rr : Reps K H (μ.hide p) vs ds) : RelS K H (μ.more p) (M ++ [ds]) := by
  have c := Car.more r
  refine ⟨by simp [r.len], ?_, fun h b es e1 e2 => ?_, fun a ha => ?_, r.tb⟩
  · show (μ.h ++ [p]).Nodup
    rw [List.nodup_append]
    exact ⟨r.nd, by simp, fun x hx y hy => by simp at hy; subst hy; intro z; subst z; exact (r.ft x List.mem_cons_self).1 hx⟩
  · have e1' : (μ.h ++ [p])[h]? = some b := e1
    have rl : M.length = μ.h.length := r.len
    by_cases hl : h < μ.h.length
    · rw [List.getElem?_append_left hl] at e1'
      rw [List.getElem?_append_left (by rw [rl]; exact hl)] at e2
      exact (r.at2 h b es e1' e2).to rfl fun _ _ z => z.car c
    · rw [List.getElem?_append_right (by omega)] at e1'
      rw [List.getElem?_append_right (by rw [rl]; omega), rl] at e2
      have hz : h - μ.h.length = 0 := by
        by_cases hz : h - μ.h.length = 0
        · exact hz
        · rw [List.getElem?_eq_none (by simp; omega)] at e1'; cases e1'
      rw [hz] at e1' e2
      cases e1'; cases e2
      exact .inl ⟨vs, e, rr.car c⟩
  · refine ⟨fun z => ?_, (r.ft a (List.mem_cons_of_mem _ ha)).2⟩
    rcases List.mem_append.mp z with z | z
    · exact (r.ft a (List.mem_cons_of_mem _ ha)).1 z
    · simp at z; subst z; exact hp ha
/-- what stands at a handle is written -/
theorem RelS.put {M : Me} {h : Nat} {a : Addr} {o : HO} {ds : List D} (r : RelS K H μ M) (he : μ.h[h]? = some a) (hk : kd (some o) = kd (H a)) (hc : Keep H μ (upd H a o) μ → Cell K (upd H a o) μ a ds) :
    Keep H μ (upd H a o) μ ∧ RelS K (upd H a o) μ (M.set h ds) := by
  have ha := List.mem_of_getElem? he
  have hn := r.src a ha
  have k : Keep H μ (upd H a o) μ := ⟨r.src, fun b u e hn _ => by
    rw [upd_ne (fun z => hn (by subst z; exact ha))]; exact e, ⟨[], by simp⟩, rfl, fun _ h => .inl h, fun b ps e => ⟨ps, by
    rw [upd_ne]
    · exact e
    · rintro rfl
      rw [e] at hn; exact absurd rfl hn⟩, fun b hb => by
    by_cases z : b = a
    · subst z; rw [upd_same, hk]
    · rw [upd_ne z]⟩
  refine ⟨k, by simp [r.len], r.nd, fun j b es e1 e2 => ?_, fun b hb => ?_, tabs_oth2 r.tb fun b o e ne => ?_⟩
  rotate_left 2
  · rw [upd_ne]
    · exact e
    · rintro rfl
      rw [e] at hn; exact absurd ne hn
  · by_cases hj : h = j
    · subst hj
      rw [he] at e1; cases e1
      have hl : h < M.length := by rw [r.len]; exact (List.getElem?_eq_some_iff.mp he).1
      rw [List.getElem?_set_self hl] at e2
      cases e2
      exact hc k
    · rw [List.getElem?_set_ne hj] at e2
      refine (r.at2 j b es e1 e2).to (upd_ne ?_) fun _ _ z => z.keep k
      rintro rfl
      exact hj (nodup_at r.nd he e1)
  · obtain ⟨h1, ws, h2⟩ := r.ft b hb
    refine ⟨h1, ws, ?_⟩
    rw [upd_ne]
    · exact h2
    · rintro rfl
      exact h1 ha
/-- the list at a handle is written -/
theorem RelS.write {M : Me} {h : Nat} {a : Addr} {vs : List V} {ds : List D} (r : RelS K H μ M) (he : μ.h[h]? = some a) (hr : Reps K H μ vs ds) (hk : kd (H a) = some true := by assumption) :
    Keep H μ (upd H a (.lst vs)) μ ∧ RelS K (upd H a (.lst vs)) μ (M.set h ds) :=
  r.put he (by rw [hk]; rfl) fun k => .inl ⟨vs, upd_same, hr.keep k⟩
/-- a new dict at a new handle -/
theorem RelS.moreD {M : Me} {p : Addr} {o : HO} {ds : List D} (r : RelS K H μ M) (hp : H p = none) (hk : kd (some o) ≠ none) (hc : Keep H μ (upd H p o) (μ.more p) → Cell K (upd H p o) (μ.more p) p ds) :
    Keep H μ (upd H p o) (μ.more p) ∧ RelS K (upd H p o) (μ.more p) (M ++ [ds]) := by
  obtain ⟨np, nf⟩ := notMem_of_none r hp
  have k : Keep H μ (upd H p o) (μ.more p) := ⟨r.src, fun a u e _ _ => by rw [upd_ne (ne_of_none e hp)]; exact e, ⟨[p], rfl⟩, rfl, fun a ha => by
    rcases List.mem_append.mp ha with h | h
    · exact .inl h
    · rw [List.mem_singleton.mp h]; exact .inr hp, fun a ps e => ⟨ps, by rw [upd_ne (ne_of_none e hp)]; exact e⟩, fun a ha => by rw [upd_ne (r.ne_ hp ha)]⟩
  refine ⟨k, by simp [r.len], ?_, fun h b es e1 e2 => ?_, fun a ha => ?_, r.tb.ext fun b o e => by rw [upd_ne (ne_of_none e hp)]; exact e⟩
  · show (μ.h ++ [p]).Nodup
    rw [List.nodup_append]
    exact ⟨r.nd, by simp, fun x hx y hy => by simp at hy; subst hy; intro z; subst z; exact np hx⟩
  · have e1' : (μ.h ++ [p])[h]? = some b := e1
    have rl : M.length = μ.h.length := r.len
    by_cases hl : h < μ.h.length
    · rw [List.getElem?_append_left hl] at e1'
      rw [List.getElem?_append_left (by rw [rl]; exact hl)] at e2
      exact (r.at2 h b es e1' e2).to (upd_ne (r.ne_ hp (List.mem_of_getElem? e1'))) fun _ _ z => z.keep k
    · rw [List.getElem?_append_right (by omega)] at e1'
      rw [List.getElem?_append_right (by rw [rl]; omega), rl] at e2
      have hz : h - μ.h.length = 0 := by
        by_cases hz : h - μ.h.length = 0
        · exact hz
        · rw [List.getElem?_eq_none (by simp; omega)] at e1'; cases e1'
      rw [hz] at e1' e2
      cases e1'; cases e2
      exact hc k
  · obtain ⟨h1, vs, h2⟩ := r.ft a ha
    refine ⟨fun z => ?_, vs, by rw [upd_ne (ne_of_none h2 hp)]; exact h2⟩
    rcases List.mem_append.mp z with z | z
    · exact h1 z
    · rw [List.mem_singleton.mp z] at ha; exact nf ha
/-- from the state ahead of a list in the making to one behind code that ran while it was -/
theorem Keep.thru {p : Addr} {ν : List Addr} (k : Keep H μ H1 μ1) (k2 : Keep H1 (μ1.hide p) H2 ⟨ν, p :: μ1.f⟩) : Keep H μ H2 ⟨ν, μ1.f⟩ where
  src := k.src
  knd := fun x hx => (k2.knd x (k.mem hx)).trans (k.knd x hx)
  objs := fun x o h hn ht => k2.objs x o (k.objs x o h hn ht) (k.nm h hn) ht
  pre := by
    obtain ⟨ν1, e⟩ := k.pre
    obtain ⟨ν2, e'⟩ := k2.pre
    exact ⟨ν1 ++ ν2, by show ν = _; rw [show ν = μ1.h ++ ν2 from e', e, List.append_assoc]⟩
  ff := k.ff
  tbs := fun x ps h => by
    obtain ⟨ps1, h1⟩ := k.tbs x ps h
    exact k2.tbs x ps1 h1
  new := fun x hx => by
    rcases k2.new x hx with q | q
    · exact k.new x q
    · by_cases hm : x ∈ μ.h
      · exact .inl hm
      · right
        cases e : H x with
        | none => rfl
        | some o => obtain ⟨o', e'⟩ := k.some_ e hm; rw [e'] at q; cases q
theorem Keep.upd_new {p : Addr} {o : HO} (k : Keep H μ H1 μ1) (hp : H p = none) : Keep H μ (upd H1 p o) μ1 :=
  ⟨k.src, fun a u e hn ht => by rw [upd_ne (ne_of_none e hp)]; exact k.objs a u e hn ht, k.pre, k.ff, k.new, fun a ps e => by rw [upd_ne (ne_of_none e hp)]; exact k.tbs a ps e, fun a ha => by
    rw [upd_ne (fun z => k.src a ha (by rw [z, hp]; rfl))]; exact k.knd a ha⟩
mutual
def old (n : Nat) : D → Bool
  | .han h => decide (h < n)
  | .dh h => decide (h < n)
  | .tup l => olds n l
  | .lst l => olds n l
  | .fls l => olds n l
  | .dct _ l => olds n l
  | _ => true
def olds (n : Nat) : List D → Bool
  | [] => true
  | d :: l => old n d && olds n l
end
abbrev Mu.cut (μ : Mu) (n : Nat) : Mu := ⟨μ.h.take n, μ.f⟩
mutual
theorem Rep.cut {n : Nat} : ∀ {v : V} {d : D}, Rep K H μ v d → old n d = true → Rep K H (μ.cut n) v d
  | _, _, .non, _ => .non
  | _, _, .bl b, _ => .bl b
  | _, _, .int i, _ => .int i
  | _, _, .str x, _ => .str x
  | _, _, .ty n, _ => .ty n
  | _, _, .ref a, _ => .ref a
  | _, _, .tup h r, o => .tup h (Reps.cut r (by simpa [old] using o))
  | _, _, .lst h n1 nf r, o => .lst h (fun z => n1 (List.mem_of_mem_take z)) nf (Reps.cut r (by simpa [old] using o))
  | _, _, .fix h r, o => .fix h (Reps.cut r (by simpa [old] using o))
  | _, _, .dct h n1 r, o => .dct h (fun z => n1 (List.mem_of_mem_take z)) (Reps.cut r (by simpa [old] using o))
  | _, _, .han (h := i) h e, o => .han (by
      show (μ.h.take n)[i]? = _
      rw [List.getElem?_take_of_lt (by simpa [old] using o)]; exact h) e
  | _, _, .dh (h := i) h e, o => .dh (by
      show (μ.h.take n)[i]? = _
      rw [List.getElem?_take_of_lt (by simpa [old] using o)]; exact h) e
  | _, _, .exc h, _ => .exc h
theorem Reps.cut {n : Nat} : ∀ {vs : List V} {ds : List D}, Reps K H μ vs ds → olds n ds = true → Reps K H (μ.cut n) vs ds
  | _, _, .nil, _ => .nil
  | _, _, .cons r t, o => .cons (Rep.cut r (by simp [olds] at o; exact o.1)) (Reps.cut t (by simp [olds] at o; exact o.2))
end
end
end DL

namespace DL
open PySem PySem.Spec PyProof.Rows L2

/-! ## exceptions, ends, judgements -/
structure EX where
  cls : Str
  arg : Option (Str × D)
def XRep (K : PySem.W.Frag) (H : Hp) (μ : Mu) (cls : Value) (a : Option Addr) (x : EX) : Prop :=
  cls = .ref (He.ga K x.cls) ∧ (x.arg = none → a = none) ∧ ∀ n d, x.arg = some (n, d) → ∃ dd v, a = some dd ∧ H dd = some (.xd [(n, v)]) ∧ Rep K H μ v d
abbrev WE := En → Me → (D → Me → Prop) → (EX → Me → Prop) → Prop
abbrev WT := En → Me → (Bool → Me → Prop) → (EX → Me → Prop) → Prop
abbrev WA := En → Me → (List D → Me → Prop) → (EX → Me → Prop) → Prop
abbrev W0 : WX := fun _ _ _ _ => False
/-- the end for exceptions -/
def XE_ (K : PySem.W.Frag) (W : WX) (σ : L2.St) (H : Hp) (μ : Mu) (ED : EX → Me → Prop) : Prop :=
  ∀ (cls : Value) (a : Option Addr) (H' : Hp) (μ' : Mu) (x : EX) (M' : Me), Keep H μ H' μ' → RelS K H' μ' M' → XRep K H' μ' cls a x → ED x M' → W cls a σ H'
def tD (K : PySem.W.Frag) (W : WX) (w : WE) : TE := fun σ H Q => ∃ (env : En) (μ : Mu) (M : Me) (QD : D → Me → Prop) (ED : EX → Me → Prop), RelE K H μ σ env ∧ RelS K H μ M ∧ w env M QD ED ∧
  (∀ (v : V) (H' : Hp) (μ' : Mu) (d : D) (M' : Me), Keep H μ H' μ' → RelS K H' μ' M' → Rep K H' μ' v d → QD d M' → Q v H') ∧ XE_ K W σ H μ ED
def tDT (K : PySem.W.Frag) (W : WX) (w : WT) : TT := fun σ H Q => ∃ (env : En) (μ : Mu) (M : Me) (QD : Bool → Me → Prop) (ED : EX → Me → Prop), RelE K H μ σ env ∧ RelS K H μ M ∧ w env M QD ED ∧
  (∀ (b : Bool) (H' : Hp) (μ' : Mu) (M' : Me), Keep H μ H' μ' → RelS K H' μ' M' → QD b M' → Q b H') ∧ XE_ K W σ H μ ED
def tDA (K : PySem.W.Frag) (W : WX) (w : WA) : TA := fun σ H Q => ∃ (env : En) (μ : Mu) (M : Me) (QD : List D → Me → Prop) (ED : EX → Me → Prop), RelE K H μ σ env ∧ RelS K H μ M ∧ w env M QD ED ∧
  (∀ (vs : List V) (H' : Hp) (μ' : Mu) (ds : List D) (M' : Me), Keep H μ H' μ' → RelS K H' μ' M' → Reps K H' μ' vs ds → QD ds M' → Q vs H') ∧ XE_ K W σ H μ ED
structure DE (X : Cx) (W : WX) (e : Expr) (w : WE) : Prop where
  pe : PE X e (tD X.K W w)
structure DT (X : Cx) (W : WX) (e : Expr) (w : WT) : Prop where
  pt : PT X e (tDT X.K W w)
structure DA (X : Cx) (W : WX) (es : List Expr) (w : WA) : Prop where
  pa : PA X es (tDA X.K W w)
theorem pe_mono {X : Cx} {e : Expr} {t t' : TE} (h : PE X e t) (m : ∀ σ H Q, t' σ H Q → t σ H Q) : PE X e t' := ⟨fun pins s σ H Q I q => h.run pins s σ H Q I (m _ _ _ q)⟩
theorem pt_mono {X : Cx} {e : Expr} {t t' : TT} (h : PT X e t) (m : ∀ σ H Q, t' σ H Q → t σ H Q) : PT X e t' := ⟨fun pins s σ H Q I q => h.run pins s σ H Q I (m _ _ _ q)⟩
theorem pw_mono {X : Cx} {e : Expr} {t t' : TT} (h : PW X e t) (m : ∀ σ H Q, t' σ H Q → t σ H Q) : PW X e t' := ⟨fun wh pins s σ H Q I q => h.run wh pins s σ H Q I (m _ _ _ q)⟩
theorem pa_mono {X : Cx} {e : List Expr} {t t' : TA} (h : PA X e t) (m : ∀ σ H Q, t' σ H Q → t σ H Q) : PA X e t' := ⟨fun pos pins s σ H Q I q => h.run pos pins s σ H Q I (m _ _ _ q)⟩
theorem ps_mono {X : Cx} {e : Stmt} {t t' : TS} (h : PS X e t) (m : ∀ D σ H, t' D σ H → t D σ H) : PS X e t' := ⟨fun pins s σ H Q I q => h.run pins s σ H Q I (m _ _ _ q)⟩
theorem pss_mono {X : Cx} {e : List Stmt} {t t' : TS} (h : PSs X e t) (m : ∀ D σ H, t' D σ H → t D σ H) : PSs X e t' := ⟨fun pins s σ H Q I q => h.run pins s σ H Q I (m _ _ _ q)⟩
theorem pg_mono {X : Cx} {e : Expr} {t t' : TG} (h : PG X e t) (m : ∀ v σ H Q, t' v σ H Q → t v σ H Q) : PG X e t' := ⟨fun pins s σ H v u Q I r q => h.run pins s σ H v u Q I r (m _ _ _ _ q)⟩
theorem pi_mono {X : Cx} {tg e : Expr} {t t' : TI} (h : PI X tg e t) (m : ∀ σ H R, t' σ H R → t σ H R) : PI X tg e t' := ⟨fun pins s σ H R I q => h.run pins s σ H R I (m _ _ _ q)⟩

theorem XE_.keep {K : PySem.W.Frag} {W : WX} {σ : L2.St} {H H1 : Hp} {μ μ1 : Mu} {ED : EX → Me → Prop} (x : XE_ K W σ H μ ED) (k : Keep H μ H1 μ1) : XE_ K W σ H1 μ1 ED :=
  fun cls a H' μ' y M' k' => x cls a H' μ' y M' (k.trans k')

section
variable {X : Cx} {W : WX} {e a b c : Expr} {wa wb wc : WE} {pos : Pos} {K : PySem.W.Frag}

/-! ### atoms -/
def wVar (i : Nat) : WE := fun env M Q _ => match env[i]? with | some (some d) => Q d M | _ => False
def wC (d : D) : WE := fun _ M Q _ => Q d M
theorem de_var {i : Nat} {x : Str} {pos : Pos} (hN : X.N[i]? = some x) (hv : Vis X.env.scope x) (hd : (x == ("__debug__" : Str)) = false) (hcd : (x == ("__classdict__" : Str)) = false) : DE X W (.Name x pos) (wVar i) := by
  refine ⟨pe_mono (pe_var hN hv hd hcd) fun σ H Q ⟨env, μ, M, QD, ED, re, rs, hw, hq, hx⟩ => ?_⟩
  unfold wVar at hw
  cases e : env[i]? with
  | none => rw [e] at hw; exact hw.elim
  | some o =>
    cases o with
    | none => rw [e] at hw; exact hw.elim
    | some d =>
      rw [e] at hw
      obtain ⟨v, h1, h2⟩ := re.at_ i d e
      exact ⟨v, h1, hq v H μ d M rs.refl rs h2 hw⟩
/-- the facts of a name in a slot -/
structure Nm (N : List Str) (sc : Scope) (i : Nat) (x : Str) : Prop where
  hN : N[i]? = some x
  hv : Vis sc x
  hd : (x == ("__debug__" : Str)) = false
  hc : (x == ("__classdict__" : Str)) = false
theorem dv {i : Nat} {x : Str} (n : Nm X.N X.env.scope i x) {pos : Pos} : DE X W (.Name x pos) (wVar i) := de_var n.hN n.hv n.hd n.hc
theorem tC_D {v : V} {d : D} (r : ∀ H μ, Rep K H μ v d) {σ : L2.St} {H : Hp} {Q : VK} (h : tD K W (wC d) σ H Q) : tC v σ H Q := by
  obtain ⟨env, μ, M, QD, ED, re, rs, hw, hq, hx⟩ := h
  exact hq v H μ d M rs.refl rs (r _ _) hw
theorem de_int {i j pos} : DE X W (.Constant (.int i) j pos) (wC (.int i)) := ⟨pe_mono pe_int fun _ _ _ h => tC_D (fun _ _ => .int i) h⟩
theorem de_bl {b j pos} : DE X W (.Constant (.bool b) j pos) (wC (.bl b)) := ⟨pe_mono pe_bl fun _ _ _ h => tC_D (fun _ _ => .bl b) h⟩
theorem de_non {j pos} : DE X W (.Constant .none j pos) (wC .non) := ⟨pe_mono pe_non fun _ _ _ h => tC_D (fun _ _ => .non) h⟩
theorem de_str {x j pos} : DE X W (.Constant (.str x) j pos) (wC (.str x)) := ⟨pe_mono pe_str fun _ _ _ h => tC_D (fun _ _ => .str x) h⟩
/-- a name of the module: a constant by its value (d), whatever the heap -/
def GlD (K : PySem.W.Frag) (mg : Str → Option Value) (x : Str) (d : D) : Prop := ∃ v u, mg x = some u ∧ RelV v u ∧ ∀ H μ, Rep K H μ v d
theorem de_glob {x : Str} {d : D} {pos : Pos} (hg : Gl X x) (h : GlD X.K X.mg x d) (hd : (x == ("__debug__" : Str)) = false) : DE X W (.Name x pos) (wC d) := by
  obtain ⟨v, u, h1, h2, h3⟩ := h
  exact ⟨pe_mono (pe_glob hg h1 h2 hd) fun _ _ _ h => tC_D h3 h⟩
theorem de_ty {x : Str} {n : String} {pos : Pos} (hg : Gl X x) (hm : X.mg x = none) (hv : bootBuiltins x = some (.type n)) (hn : x ≠ "__name__") (hd : (x == ("__debug__" : Str)) = false) : DE X W (.Name x pos) (wC (.ty n)) :=
  ⟨pe_mono (pe_bltn hg hm hv (show RelV (.ty n) (.type n) from rfl) hn hd) fun _ _ _ h => tC_D (fun _ _ => .ty n) h⟩

/-! ### operators -/
abbrev F2 := D → D → Me → (D → Me → Prop) → Prop
def OkR (K : PySem.W.Frag) (r : R2) (f : F2) : Prop := ∀ (x y : V) (d e : D) (H : Hp) (μ : Mu) (M : Me) (QD : D → Me → Prop) (Q : VK), RelS K H μ M → Rep K H μ x d → Rep K H μ y e → f d e M QD →
  (∀ (v : V) (H' : Hp) (μ' : Mu) (d : D) (M' : Me), Keep H μ H' μ' → RelS K H' μ' M' → Rep K H' μ' v d → QD d M' → Q v H') → r x y H Q
def wBin (f : F2) (wa wb : WE) : WE := fun env M Q E => wa env M (fun d M1 => wb env M1 (fun e M2 => f d e M2 Q) E) E
theorem tOp_D {r : R2} {f : F2} (hf : OkR K r f) {σ : L2.St} {H : Hp} {Q : VK} (h : tD K W (wBin f wa wb) σ H Q) : tOp r (tD K W wa) (tD K W wb) σ H Q := by
  obtain ⟨env, μ, M, QD, ED, re, rs, hw, hq, hx⟩ := h
  refine ⟨env, μ, M, _, ED, re, rs, hw, fun v H1 μ1 d M1 k1 rs1 r1 q1 => ?_, hx⟩
  refine ⟨env, μ1, M1, _, ED, re.keep k1, rs1, q1, fun u H2 μ2 e M2 k2 rs2 r2 q2 => ?_, hx.keep k1⟩
  exact hf v u d e H2 μ2 M2 QD Q rs2 (r1.keep k2) r2 q2 fun z H3 μ3 c M3 k3 => hq z H3 μ3 c M3 ((k1.trans k2).trans k3)
theorem de_bin {op : Operator} {r : R2} {f : F2} (ho : OpR X (binaryOp op) r) (hf : OkR X.K r f) (ha : DE X W a wa) (hb : DE X W b wb) : DE X W (.BinOp a op b pos) (wBin f wa wb) :=
  ⟨pe_mono (pe_op ho ha.pe hb.pe) fun _ _ _ h => tOp_D hf h⟩
theorem de_cmp {op : CmpOp} {r : R2} {f : F2} (ho : OpR X (compareOp op) r) (hf : OkR X.K r f) (ha : DE X W a wa) (hb : DE X W b wb) (hm : behindInMarks op b = false) : DE X W (.Compare a [op] [b] pos) (wBin f wa wb) :=
  ⟨pe_mono (pe_cmpR ho ha.pe hb.pe hm) fun _ _ _ h => tOp_D hf h⟩
/-- a value that is a bool, as a test -/
def wB (w : WE) : WT := fun env M Q E => w env M (fun d M1 => match d with | .bl k => Q k M1 | _ => False) E
theorem dt_val (h : DE X W e wa) (he : ∀ whole, isTrue e X.env whole = (do let v ← whole; standAt e.pos; holding [v] (truthy v)) := by intro _; rfl) : DT X W e (wB wa) := by
  refine ⟨pt_mono (pt_val h.pe he) fun σ H Q ⟨env, μ, M, QD, ED, re, rs, hw, hq, hx⟩ => ⟨env, μ, M, _, ED, re, rs, hw, fun v H1 μ1 d M1 k1 rs1 r1 q1 => ?_, hx⟩⟩
  cases d with
  | bl k =>
    cases r1
    exact ⟨k, rfl, hq k H1 μ1 M1 k1 rs1 q1⟩
  | _ => exact q1.elim
/-- as a test, whatever the value: by truth -/
def truD : D → Me → (Bool → Prop) → Prop
  | .non, _, q => q false
  | .bl b, _, q => q b
  | .int i, _, q => q (i != 0)
  | .str x, _, q => x.length ≤ sizeLine ∧ q ((x.length : Int) != 0)
  | .tup l, _, q => q (!l.isEmpty)
  | .lst l, _, q => q (!l.isEmpty)
  | .fls l, _, q => q (!l.isEmpty)
  | .han h, M, q => ∃ l, M[h]? = some l ∧ q (!l.isEmpty)
  | _, _, _ => False
theorem isEmpty_reps {H : Hp} {μ : Mu} {vs : List V} {ds : List D} (r : Reps K H μ vs ds) : (!vs.isEmpty) = !ds.isEmpty := by cases r <;> rfl
theorem tru_D {x : V} {d : D} {H : Hp} {μ : Mu} {M : Me} {q : Bool → Prop} (rs : RelS K H μ M) (r : Rep K H μ x d) (h : truD d M q) : ∃ k, TruV K x H k ∧ q k := by
  cases r with
  | non => exact ⟨false, rfl, h⟩
  | bl b => exact ⟨b, rfl, h⟩
  | int i => exact ⟨_, rfl, h⟩
  | str x => exact ⟨_, ⟨h.1, rfl⟩, h.2⟩
  | ty n => exact h.elim
  | ref a => exact h.elim
  | exc _ => exact h.elim
  | tup hs rr => exact ⟨_, .inr (.inl ⟨_, hs, (isEmpty_reps rr).symm⟩), h⟩
  | lst hs hn hf rr => exact ⟨_, .inl ⟨_, .of hs, (isEmpty_reps rr).symm⟩, h⟩
  | fix hs rr =>
    refine ⟨_, .inl ⟨_, ?_, (isEmpty_reps rr).symm⟩, h⟩
    rcases hs with ⟨o, hs⟩ | hs
    · exact .inl (.inr ⟨o, hs⟩)
    · exact .inr hs
  | dct hs _ rr => exact h.elim
  | dh _ _ => exact h.elim
  | han hm hk =>
    obtain ⟨l, e, q1⟩ := h
    obtain ⟨vs, h1, h2⟩ := rs.at_ _ _ _ hm e
    exact ⟨_, .inl ⟨_, .of h1, (isEmpty_reps h2).symm⟩, q1⟩
def wTr (w : WE) : WT := fun env M Q E => w env M (fun d M1 => truD d M1 fun k => Q k M1) E
theorem dt_tru (h : DE X W e wa) (he : ∀ whole, isTrue e X.env whole = (do let v ← whole; standAt e.pos; holding [v] (truthy v)) := by intro _; rfl) : DT X W e (wTr wa) := by
  refine ⟨pt_mono (pt_truth h.pe he) fun σ H Q ⟨env, μ, M, QD, ED, re, rs, hw, hq, hx⟩ => ⟨env, μ, M, _, ED, re, rs, hw, fun v H1 μ1 d M1 k1 rs1 r1 q1 => ?_, hx⟩⟩
  obtain ⟨k, h1, h2⟩ := tru_D rs1 r1 q1
  exact ⟨k, h1, hq k H1 μ1 M1 k1 rs1 h2⟩
theorem dt_cmp {op : CmpOp} {r : R2} {f : F2} (ho : OpR X (compareOp op) r) (hf : OkR X.K r f) (ha : DE X W a wa) (hb : DE X W b wb) (hm : behindInMarks op b = false) : DT X W (.Compare a [op] [b] pos) (wB (wBin f wa wb)) := by
  refine ⟨pt_mono (pt_cmpR ho ha.pe hb.pe hm) fun σ H Q ⟨env, μ, M, QD, ED, re, rs, hw, hq, hx⟩ => ?_⟩
  refine tOp_D hf ⟨env, μ, M, _, ED, re, rs, hw, fun v H1 μ1 d M1 k1 rs1 r1 q1 => ?_, hx⟩
  cases d with
  | bl k =>
    cases r1
    exact ⟨k, rfl, hq k H1 μ1 M1 k1 rs1 q1⟩
  | _ => exact q1.elim
/-- a < b < c -/
def wChain (f g : F2) (wa wb wc : WE) : WE := fun env M Q E => wa env M (fun d M1 => wb env M1 (fun e M2 => f d e M2 (fun z M3 => match z with
  | .bl true => wc env M3 (fun c M4 => g e c M4 Q) E
  | .bl false => Q (.bl false) M3
  | _ => False)) E) E
theorem tChain_D {r r' : R2} {f g : F2} (hf : OkR K r f) (hg : OkR K r' g) {σ : L2.St} {H : Hp} {Q : VK} (h : tD K W (wChain f g wa wb wc) σ H Q) : tChain r r' (tD K W wa) (tD K W wb) (tD K W wc) σ H Q := by
  obtain ⟨env, μ, M, QD, ED, re, rs, hw, hq, hx⟩ := h
  refine ⟨env, μ, M, _, ED, re, rs, hw, fun v H1 μ1 d M1 k1 rs1 r1 q1 => ?_, hx⟩
  refine ⟨env, μ1, M1, _, ED, re.keep k1, rs1, q1, fun u H2 μ2 e M2 k2 rs2 r2 q2 => ?_, hx.keep k1⟩
  refine hf v u d e H2 μ2 M2 _ _ rs2 (r1.keep k2) r2 q2 fun z H3 μ3 c M3 k3 rs3 r3 q3 => ?_
  have k13 := (k1.trans k2).trans k3
  cases c with
  | bl k =>
    cases r3
    refine ⟨k, rfl, ?_⟩
    cases k with
    | true =>
      rw [if_pos rfl]
      refine ⟨env, μ3, M3, _, ED, re.keep k13, rs3, q3, fun w' H4 μ4 c M4 k4 rs4 r4 q4 => ?_, hx.keep k13⟩
      exact hg u w' e c H4 μ4 M4 QD Q rs4 ((r2.keep k3).keep k4) r4 q4 fun z H5 μ5 c M5 k5 => hq z H5 μ5 c M5 ((k13.trans k4).trans k5)
    | false =>
      rw [if_neg Bool.false_ne_true]
      exact hq _ H3 μ3 _ M3 k13 rs3 (.bl false) q3
  | _ => exact q3.elim
theorem de_chain {op op' : CmpOp} {r r' : R2} {f g : F2} (ho : OpR X (compareOp op) r) (hf : OkR X.K r f) (ho' : OpR X (compareOp op') r') (hg : OkR X.K r' g) (ha : DE X W a wa) (hb : DE X W b wb) (hc : DE X W c wc)
    (hm : lastMarks [op, op'] [b, c] = false := by rfl) : DE X W (.Compare a [op, op'] [b, c] pos) (wChain f g wa wb wc) :=
  ⟨pe_mono (pe_chain ho ho' ha.pe hb.pe hc.pe (hm := hm)) fun _ _ _ h => tChain_D hf hg h⟩
/-! ### and, or, not -/
def wAndT (t u : WT) : WT := fun env M Q E => t env M (fun k M1 => if k = true then u env M1 Q E else Q false M1) E
def wOrT (t u : WT) : WT := fun env M Q E => t env M (fun k M1 => if k = true then Q true M1 else u env M1 Q E) E
def wNotT (t : WT) : WT := fun env M Q E => t env M (fun k M1 => Q (!k) M1) E
structure DW (X : Cx) (W : WX) (e : Expr) (w : WT) : Prop where
  pw : PW X e (tDT X.K W w)
theorem DW.dt {w : WT} (h : DW X W e w) : DT X W e w := ⟨h.pw.pt⟩
variable {ta tb : WT} {rest : List Expr}
theorem dw_and1 (ha : DT X W a ta) : DW X W (.BoolOp .And [a] pos) ta := ⟨pw_and1 ha.pt⟩
theorem dw_or1 (ha : DT X W a ta) : DW X W (.BoolOp .Or [a] pos) ta := ⟨pw_or1 ha.pt⟩
theorem dw_and (ha : DT X W a ta) (hb : DW X W (.BoolOp .And (b :: rest) pos) tb) : DW X W (.BoolOp .And (a :: b :: rest) pos) (wAndT ta tb) := by
  refine ⟨pw_mono (pw_and ha.pt hb.pw) fun σ H Q ⟨env, μ, M, QD, ED, re, rs, hw, hq, hx⟩ => ⟨env, μ, M, _, ED, re, rs, hw, fun k H1 μ1 M1 k1 rs1 q1 => ?_, hx⟩⟩
  cases k with
  | true =>
    rw [if_pos rfl] at q1 ⊢
    exact ⟨env, μ1, M1, _, ED, re.keep k1, rs1, q1, fun b H2 μ2 M2 k2 => hq b H2 μ2 M2 (k1.trans k2), hx.keep k1⟩
  | false =>
    rw [if_neg Bool.false_ne_true] at q1 ⊢
    exact hq false H1 μ1 M1 k1 rs1 q1
theorem dw_or (ha : DT X W a ta) (hb : DW X W (.BoolOp .Or (b :: rest) pos) tb) : DW X W (.BoolOp .Or (a :: b :: rest) pos) (wOrT ta tb) := by
  refine ⟨pw_mono (pw_or ha.pt hb.pw) fun σ H Q ⟨env, μ, M, QD, ED, re, rs, hw, hq, hx⟩ => ⟨env, μ, M, _, ED, re, rs, hw, fun k H1 μ1 M1 k1 rs1 q1 => ?_, hx⟩⟩
  cases k with
  | true =>
    rw [if_pos rfl] at q1 ⊢
    exact hq true H1 μ1 M1 k1 rs1 q1
  | false =>
    rw [if_neg Bool.false_ne_true] at q1 ⊢
    exact ⟨env, μ1, M1, _, ED, re.keep k1, rs1, q1, fun b H2 μ2 M2 k2 => hq b H2 μ2 M2 (k1.trans k2), hx.keep k1⟩
theorem dt_not (ha : DT X W a ta) : DT X W (.UnaryOp .Not a pos) (wNotT ta) :=
  ⟨pt_mono (pt_not ha.pt) fun σ H Q ⟨env, μ, M, QD, ED, re, rs, hw, hq, hx⟩ => ⟨env, μ, M, _, ED, re, rs, hw, fun k H1 μ1 M1 k1 rs1 q1 => hq (!k) H1 μ1 M1 k1 rs1 q1, hx⟩⟩
/-- values, by truth -/
def wOrV (wa wb : WE) : WE := fun env M Q E => wa env M (fun d M1 => truD d M1 fun k => if k = true then Q d M1 else wb env M1 Q E) E
def wAndV (wa wb : WE) : WE := fun env M Q E => wa env M (fun d M1 => truD d M1 fun k => if k = true then wb env M1 Q E else Q d M1) E
def wNotV (wa : WE) : WE := fun env M Q E => wa env M (fun d M1 => truD d M1 fun k => Q (.bl (!k)) M1) E
theorem de_one {op} (h : DE X W a wa) : DE X W (.BoolOp op [a] pos) wa := ⟨pe_one h.pe⟩
theorem de_or (ha : DE X W a wa) (hb : DE X W (.BoolOp .Or (b :: rest) pos) wb) : DE X W (.BoolOp .Or (a :: b :: rest) pos) (wOrV wa wb) := by
  refine ⟨pe_mono (pe_orT ha.pe hb.pe) fun σ H Q ⟨env, μ, M, QD, ED, re, rs, hw, hq, hx⟩ => ⟨env, μ, M, _, ED, re, rs, hw, fun v H1 μ1 d M1 k1 rs1 r1 q1 => ?_, hx⟩⟩
  obtain ⟨k, h1, h2⟩ := tru_D rs1 r1 q1
  refine ⟨k, h1, ?_⟩
  cases k with
  | true =>
    rw [if_pos rfl] at h2 ⊢
    exact hq v H1 μ1 d M1 k1 rs1 r1 h2
  | false =>
    rw [if_neg Bool.false_ne_true] at h2 ⊢
    exact ⟨env, μ1, M1, _, ED, re.keep k1, rs1, h2, fun v H2 μ2 d M2 k2 => hq v H2 μ2 d M2 (k1.trans k2), hx.keep k1⟩
theorem de_and (ha : DE X W a wa) (hb : DE X W (.BoolOp .And (b :: rest) pos) wb) : DE X W (.BoolOp .And (a :: b :: rest) pos) (wAndV wa wb) := by
  refine ⟨pe_mono (pe_andT ha.pe hb.pe) fun σ H Q ⟨env, μ, M, QD, ED, re, rs, hw, hq, hx⟩ => ⟨env, μ, M, _, ED, re, rs, hw, fun v H1 μ1 d M1 k1 rs1 r1 q1 => ?_, hx⟩⟩
  obtain ⟨k, h1, h2⟩ := tru_D rs1 r1 q1
  refine ⟨k, h1, ?_⟩
  cases k with
  | false =>
    rw [if_neg Bool.false_ne_true] at h2 ⊢
    exact hq v H1 μ1 d M1 k1 rs1 r1 h2
  | true =>
    rw [if_pos rfl] at h2 ⊢
    exact ⟨env, μ1, M1, _, ED, re.keep k1, rs1, h2, fun v H2 μ2 d M2 k2 => hq v H2 μ2 d M2 (k1.trans k2), hx.keep k1⟩
theorem de_not (ha : DE X W a wa) : DE X W (.UnaryOp .Not a pos) (wNotV wa) := by
  refine ⟨pe_mono (pe_notT ha.pe) fun σ H Q ⟨env, μ, M, QD, ED, re, rs, hw, hq, hx⟩ => ⟨env, μ, M, _, ED, re, rs, hw, fun v H1 μ1 d M1 k1 rs1 r1 q1 => ?_, hx⟩⟩
  obtain ⟨k, h1, h2⟩ := tru_D rs1 r1 q1
  exact ⟨k, h1, hq _ H1 μ1 _ M1 k1 rs1 (.bl _) h2⟩
def wIfE (t : WT) (wa wb : WE) : WE := fun env M Q E => t env M (fun k M1 => if k = true then wa env M1 Q E else wb env M1 Q E) E
theorem de_ifE (hc : DT X W c ta) (ha : DE X W a wa) (hb : DE X W b wb) : DE X W (.IfExp c a b pos) (wIfE ta wa wb) := by
  refine ⟨pe_mono (pe_ifExp hc.pt ha.pe hb.pe) fun σ H Q ⟨env, μ, M, QD, ED, re, rs, hw, hq, hx⟩ => ⟨env, μ, M, _, ED, re, rs, hw, fun k H1 μ1 M1 k1 rs1 q1 => ?_, hx⟩⟩
  cases k with
  | true =>
    rw [if_pos rfl] at q1 ⊢
    exact ⟨env, μ1, M1, _, ED, re.keep k1, rs1, q1, fun v H2 μ2 d M2 k2 => hq v H2 μ2 d M2 (k1.trans k2), hx.keep k1⟩
  | false =>
    rw [if_neg Bool.false_ne_true] at q1 ⊢
    exact ⟨env, μ1, M1, _, ED, re.keep k1, rs1, q1, fun v H2 μ2 d M2 k2 => hq v H2 μ2 d M2 (k1.trans k2), hx.keep k1⟩
/-- a unary operator -/
abbrev F1 := D → Me → (D → Me → Prop) → Prop
def wUn (f : F1) (wa : WE) : WE := fun env M Q E => wa env M (fun d M1 => f d M1 Q) E
def fNeg : F1
  | .int i, M, Q => Q (.int (-i)) M
  | _, _, _ => False
abbrev wNeg (wa : WE) : WE := wUn fNeg wa
theorem de_neg (ha : DE X W a wa) : DE X W (.UnaryOp .USub a pos) (wNeg wa) := by
  refine ⟨pe_mono (pe_un un_neg ha.pe) fun σ H Q ⟨env, μ, M, QD, ED, re, rs, hw, hq, hx⟩ => ⟨env, μ, M, _, ED, re, rs, hw, fun v H1 μ1 d M1 k1 rs1 r1 q1 => ?_, hx⟩⟩
  cases d with
  | int i =>
    cases r1
    exact ⟨i, rfl, hq _ H1 μ1 _ M1 k1 rs1 (.int _) q1⟩
  | _ => exact q1.elim
/-! ### lists of expressions, displays -/
def wNil : WA := fun _ M Q _ => Q [] M
def wCons (wa : WE) (wr : WA) : WA := fun env M Q E => wa env M (fun d M1 => wr env M1 (fun ds M2 => Q (d :: ds) M2) E) E
theorem da_nil : DA X W [] wNil := ⟨pa_mono pa_nil fun σ H Q ⟨env, μ, M, QD, ED, re, rs, hw, hq, hx⟩ => hq [] H μ [] M rs.refl rs .nil hw⟩
theorem da_cons {es : List Expr} {wr : WA} (ha : DE X W e wa) (hr : DA X W es wr) (hs : starEach (e :: es) X.env = (false, eval e X.env) :: starEach es X.env := by rfl) : DA X W (e :: es) (wCons wa wr) := by
  refine ⟨pa_mono (pa_cons ha.pe hr.pa hs) fun σ H Q ⟨env, μ, M, QD, ED, re, rs, hw, hq, hx⟩ => ⟨env, μ, M, _, ED, re, rs, hw, fun v H1 μ1 d M1 k1 rs1 r1 q1 => ?_, hx⟩⟩
  refine ⟨env, μ1, M1, _, ED, re.keep k1, rs1, q1, fun vs H2 μ2 ds M2 k2 rs2 r2 q2 => ?_, hx.keep k1⟩
  exact hq _ H2 μ2 _ M2 (k1.trans k2) rs2 (.cons (r1.keep k2) r2) q2
theorem tup_rep {H : Hp} {μ : Mu} {M : Me} {vs : List V} {ds : List D} {p : Addr} (rs : RelS K H μ M) (r : Reps K H μ vs ds) (hp : H p = none) :
    Keep H μ (upd H p (.tup vs)) μ ∧ RelS K (upd H p (.tup vs)) μ M ∧ Rep K (upd H p (.tup vs)) μ (.ref p) (.tup ds) := by
  obtain ⟨k, rs'⟩ := rs.lay (o := .tup vs) hp
  exact ⟨k, rs', .tup (.of upd_same) (r.keep k)⟩
def wTup (wr : WA) : WE := fun env M Q E => wr env M (fun ds M1 => ds.length ≤ sizeLine ∧ Q (.tup ds) M1) E
theorem de_tup {es : List Expr} {wr : WA} {x1} (h : DA X W es wr) : DE X W (.Tuple es x1 pos) (wTup wr) := by
  refine ⟨pe_mono (pe_tup h.pa) fun σ H Q ⟨env, μ, M, QD, ED, re, rs, hw, hq, hx⟩ => ⟨env, μ, M, _, ED, re, rs, hw, fun vs H1 μ1 ds M1 k1 rs1 r1 q1 => ?_, hx⟩⟩
  refine ⟨by rw [r1.length]; exact q1.1, fun p hp => ?_⟩
  obtain ⟨k, rs', rr⟩ := tup_rep rs1 r1 hp
  exact hq _ _ μ1 _ M1 (k1.trans k) rs' rr q1.2

/-! ### fresh lists: frozen, or at a new handle -/
abbrev WFr := En → Me → (List D → Me → Prop) → (EX → Me → Prop) → Prop
def tF (K : PySem.W.Frag) (W : WX) (w : WFr) : TE := fun σ H Q => ∃ (env : En) (μ : Mu) (M : Me) (QD : List D → Me → Prop) (ED : EX → Me → Prop), RelE K H μ σ env ∧ RelS K H μ M ∧ w env M QD ED ∧
  (∀ (p : Addr) (vs : List V) (H' : Hp) (μ' : Mu) (ds : List D) (M' : Me), Keep H μ H' μ' → RelS K H' (μ'.hide p) M' → H p = none → p ∉ μ'.f → H' p = some (.lst vs) → Reps K H' (μ'.hide p) vs ds → QD ds M' → Q (.ref p) H') ∧ XE_ K W σ H μ ED
structure DF (X : Cx) (W : WX) (e : Expr) (w : WFr) : Prop where
  pe : PE X e (tF X.K W w)
def wFz (w : WFr) : WE := fun env M Q E => w env M (fun ds M1 => Q (.lst ds) M1) E
def wMu (w : WFr) : WE := fun env M Q E => w env M (fun ds M1 => Q (.han M1.length) (M1 ++ [ds])) E
theorem df_fz {w : WFr} (h : DF X W e w) : DE X W e (wFz w) :=
  ⟨pe_mono h.pe fun σ H Q ⟨env, μ, M, QD, ED, re, rs, hw, hq, hx⟩ => ⟨env, μ, M, _, ED, re, rs, hw, fun p vs H1 μ1 ds M1 k1 rs1 hp pf e1 r1 q1 => by
    obtain ⟨r, n1, n2⟩ := rs1.show_ pf
    exact hq _ H1 μ1 _ M1 k1 r (.lst e1 n1 n2 (r1.car .show_)) q1, hx⟩⟩
theorem Keep.more {H H1 : Hp} {μ μ1 : Mu} {p : Addr} (k : Keep H μ H1 μ1) (hp : H p = none) : Keep H μ H1 (μ1.more p) :=
  ⟨k.src, k.objs, let ⟨ν, e⟩ := k.pre; ⟨ν ++ [p], by show μ1.h ++ [p] = _; rw [e, List.append_assoc]⟩, k.ff, fun a ha => by
    rcases List.mem_append.mp ha with z | z
    · exact k.new a z
    · simp at z; subst z; exact .inr hp, k.tbs, k.knd⟩
theorem df_mu {w : WFr} (h : DF X W e w) : DE X W e (wMu w) :=
  ⟨pe_mono h.pe fun σ H Q ⟨env, μ, M, QD, ED, re, rs, hw, hq, hx⟩ => ⟨env, μ, M, _, ED, re, rs, hw, fun p vs H1 μ1 ds M1 k1 rs1 hp pf e1 r1 q1 => by
    have r := rs1.more pf e1 r1
    refine hq _ H1 (μ1.more p) _ _ (k1.more hp) r (.han ?_ (by rw [e1]; rfl)) q1
    show (μ1.h ++ [p])[M1.length]? = some p
    rw [show M1.length = μ1.h.length from rs1.len]
    simp, hx⟩⟩
/-- a new list laid at p behind the data of the parts -/
theorem fin_lst {σ : L2.St} {H H1 : Hp} {μ μ1 : Mu} {M1 : Me} {vs : List V} {ds : List D} {Q : VK} {QD : List D → Me → Prop}
    (hq : ∀ (p : Addr) (vs : List V) (H' : Hp) (μ' : Mu) (ds : List D) (M' : Me), Keep H μ H' μ' → RelS K H' (μ'.hide p) M' → H p = none → p ∉ μ'.f → H' p = some (.lst vs) → Reps K H' (μ'.hide p) vs ds → QD ds M' → Q (.ref p) H')
    (k1 : Keep H μ H1 μ1) (rs1 : RelS K H1 μ1 M1) (r1 : Reps K H1 μ1 vs ds) (q1 : QD ds M1) (p : Addr) (hp : H1 p = none) (hp0 : H p = none) : Q (.ref p) (upd H1 p (.lst vs)) := by
  obtain ⟨k, _⟩ := rs1.lay (o := .lst vs) hp
  obtain ⟨c, rs2⟩ := rs1.hide (vs := vs) hp
  exact hq p vs _ μ1 ds M1 (k1.trans k) rs2 hp0 (notMem_of_none rs1 hp).2 upd_same (r1.car c) q1
theorem none_of_keep {H H1 : Hp} {μ μ1 : Mu} {M1 : Me} {p : Addr} (k : Keep H μ H1 μ1) (rs1 : RelS K H1 μ1 M1) (hp : H1 p = none) : H p = none := by
  cases e : H p with
  | none => rfl
  | some o =>
    by_cases hm : p ∈ μ.h
    · obtain ⟨ν, q⟩ := k.pre
      exact absurd (by rw [q]; exact List.mem_append_left _ hm) (notMem_of_none rs1 hp).1
    · obtain ⟨o', e'⟩ := k.some_ e hm; rw [e'] at hp; cases hp
def wLst (wr : WA) : WFr := fun env M Q E => wr env M (fun ds M1 => ds.length ≤ sizeLine ∧ Q ds M1) E
theorem df_lst {es : List Expr} {wr : WA} (h : DA X W es wr) : DF X W (.List es pos) (wLst wr) := by
  refine ⟨pe_mono (pe_lst h.pa) fun σ H Q ⟨env, μ, M, QD, ED, re, rs, hw, hq, hx⟩ => ⟨env, μ, M, _, ED, re, rs, hw, fun vs H1 μ1 ds M1 k1 rs1 r1 q1 => ?_, hx⟩⟩
  refine ⟨by rw [r1.length]; exact q1.1, fun p hp => ?_⟩
  exact fin_lst (σ := σ) hq k1 rs1 r1 q1.2 (p := p) (hp := hp) (hp0 := none_of_keep k1 rs1 hp)
end
end DL

namespace DL
open PySem PySem.Spec PyProof.Rows L2
section
variable {X : Cx} {W : WX} {a b c e : Expr} {wa wb wc : WE} {pos : Pos} {K : PySem.W.Frag}

/-! ## operators by data -/
theorem Rep.tup_ {H : Hp} {μ : Mu} {v : V} {l : List D} (r : Rep K H μ v (.tup l)) : ∃ a vs, v = .ref a ∧ SqT K H a vs ∧ Reps K H μ vs l := by cases r with | tup h r => exact ⟨_, _, rfl, h, r⟩
theorem KLst.sq {H : Hp} {a : Addr} {vs : List V} (h : (∃ o, H a = some (.frz o (.lst vs))) ∨ KLst K a vs) : SqL K H a vs := by
  rcases h with ⟨o, h⟩ | h
  · exact .inl (.inr ⟨o, h⟩)
  · exact .inr h
/-- the items of a tracked list -/
def lsD : D → Me → Option (List D)
  | .lst l, _ => some l
  | .han h, M => M[h]?
  | _, _ => none
/-- the items of a list or tuple -/
def sqD : D → Me → Option (List D)
  | .lst l, _ => some l
  | .fls l, _ => some l
  | .tup l, _ => some l
  | .han h, M => M[h]?
  | _, _ => none
theorem Rep.ls {H : Hp} {μ : Mu} {M : Me} {v : V} {d : D} {l : List D} (rs : RelS K H μ M) (r : Rep K H μ v d) (h : lsD d M = some l) : ∃ a vs, v = .ref a ∧ H a = some (.lst vs) ∧ Reps K H μ vs l := by
  cases r with
  | lst h1 _ _ rr => cases h; exact ⟨_, _, rfl, h1, rr⟩
  | han hm hk => obtain ⟨vs, h1, h2⟩ := rs.at_ _ _ _ hm h; exact ⟨_, _, rfl, h1, h2⟩
  | _ => cases h
theorem Rep.sq {H : Hp} {μ : Mu} {M : Me} {v : V} {d : D} {l : List D} (rs : RelS K H μ M) (r : Rep K H μ v d) (h : sqD d M = some l) : ∃ a vs, v = .ref a ∧ (SqL K H a vs ∨ SqT K H a vs) ∧ Reps K H μ vs l := by
  cases r with
  | tup h1 rr => cases h; exact ⟨_, _, rfl, .inr h1, rr⟩
  | lst h1 _ _ rr => cases h; exact ⟨_, _, rfl, .inl (.of h1), rr⟩
  | fix h1 rr => cases h; exact ⟨_, _, rfl, .inl (KLst.sq h1), rr⟩
  | han hm hk => obtain ⟨vs, h1, h2⟩ := rs.at_ _ _ _ hm h; exact ⟨_, _, rfl, .inl (.of h1), h2⟩
  | _ => cases h

/-- ints -/
def fI (C : Int → Int → Prop) (g : Int → Int → D) : F2
  | .int i, .int j, M, Q => C i j ∧ Q (g i j) M
  | _, _, _, _ => False
theorem ok_I {C : Int → Int → Prop} {g : Int → Int → D} {gv : Int → Int → V} (hg : ∀ i j H μ, Rep K H μ (gv i j) (g i j)) : OkR K (rI C gv) (fI C g) := fun x y d e H μ M QD Q rs rx ry h hq => by
  cases d with
  | int i =>
    cases e with
    | int j =>
      cases rx; cases ry
      exact ⟨i, j, rfl, rfl, h.1, hq _ H μ _ M rs.refl rs (hg i j H μ) h.2⟩
    | _ => exact h.elim
  | _ => exact h.elim
theorem opI0_I {f : Value → Value → Sem Value} {gv : Int → Int → V} (h : OpR X f (rI0 gv)) : OpR X f (rI (fun _ _ => True) gv) := fun pins s σ H x y v u Q I rx ry hh => by
  obtain ⟨i, j, e1, e2, _, q⟩ := hh
  exact h pins s σ H x y v u Q I rx ry ⟨i, j, e1, e2, q⟩

def DivOk (i j : Int) : Prop := j ≠ 0 ∧ (j.natAbs.log2 < 9000 ∨ i.natAbs.log2 < 13500)
theorem DivOk.np {i j : Int} (h : DivOk i j) : Builtin.divisionGoesByPylong i j = false := by
  rcases h.2 with h2 | h2
  · exact PyProof.noPylong_of_log2 h2
  · have h0 : (j == 0) = false := by simpa using h.1
    unfold Builtin.divisionGoesByPylong
    have hx : (if i == 0 then 0 else i.natAbs.log2 / 30 + 1) ≤ 450 := by split <;> omega
    by_cases hy : (if j == 0 then 0 else j.natAbs.log2 / 30 + 1) > 300
    · show (decide ((if j == 0 then 0 else j.natAbs.log2 / 30 + 1) > 300) && decide ((if i == 0 then 0 else i.natAbs.log2 / 30 + 1) > (if j == 0 then 0 else j.natAbs.log2 / 30 + 1) + 150)) = false
      rw [decide_eq_false (show ¬ ((if i == 0 then 0 else i.natAbs.log2 / 30 + 1) > (if j == 0 then 0 else j.natAbs.log2 / 30 + 1) + 150) by omega), Bool.and_false]
    · show (decide ((if j == 0 then 0 else j.natAbs.log2 / 30 + 1) > 300) && decide ((if i == 0 then 0 else i.natAbs.log2 / 30 + 1) > (if j == 0 then 0 else j.natAbs.log2 / 30 + 1) + 150)) = false
      rw [decide_eq_false hy, Bool.false_and]
theorem o_div : OpR X (binaryOp .FloorDiv) (rI DivOk fun i j => .int (i.fdiv j)) := opI fun _ _ _ _ _ _ _ hc q => floordiv_int hc.1 q (.inl hc.np)
theorem o_mul : OpR X (binaryOp .Mult) (rI IntMulOk fun i j => .int (i * j)) := opI fun _ _ _ _ _ _ _ hc q => mul_int q hc
abbrev kI (g : Int → Int → Int) : Int → Int → D := fun i j => .int (g i j)
abbrev fSub : F2 := fI (fun _ _ => True) fun i j => .int (i - j)
abbrev fDiv : F2 := fI DivOk fun i j => .int (i.fdiv j)
abbrev fMod : F2 := fI (fun _ j => j ≠ 0) fun i j => .int (i.fmod j)
abbrev fPow : F2 := fI CPow fun i j => .int (i ^ j.toNat)
theorem de_sub (ha : DE X W a wa) (hb : DE X W b wb) : DE X W (.BinOp a .Sub b pos) (wBin fSub wa wb) := de_bin (opI0_I op_sub) (ok_I fun _ _ _ _ => .int _) ha hb
theorem de_div (ha : DE X W a wa) (hb : DE X W b wb) : DE X W (.BinOp a .FloorDiv b pos) (wBin fDiv wa wb) := de_bin o_div (ok_I fun _ _ _ _ => .int _) ha hb
theorem de_mod (ha : DE X W a wa) (hb : DE X W b wb) : DE X W (.BinOp a .Mod b pos) (wBin fMod wa wb) := de_bin op_modN (ok_I fun _ _ _ _ => .int _) ha hb
theorem de_pow (ha : DE X W a wa) (hb : DE X W b wb) : DE X W (.BinOp a .Pow b pos) (wBin fPow wa wb) := de_bin op_pow (ok_I fun _ _ _ _ => .int _) ha hb

/-- the end where the value is laid new -/
theorem fin_tup {H : Hp} {μ : Mu} {M : Me} {vs : List V} {ds : List D} {QD : D → Me → Prop} {Q : VK} (rs : RelS K H μ M)
    (hq : ∀ (v : V) (H' : Hp) (μ' : Mu) (d : D) (M' : Me), Keep H μ H' μ' → RelS K H' μ' M' → Rep K H' μ' v d → QD d M' → Q v H') (r : Reps K H μ vs ds) (q : QD (.tup ds) M) {p : Addr} (hp : H p = none) : Q (.ref p) (upd H p (.tup vs)) := by
  obtain ⟨k, rs', rr⟩ := tup_rep rs r hp
  exact hq _ _ μ _ M k rs' rr q
theorem fin_fz {H : Hp} {μ : Mu} {M : Me} {vs : List V} {ds : List D} {QD : D → Me → Prop} {Q : VK} (rs : RelS K H μ M)
    (hq : ∀ (v : V) (H' : Hp) (μ' : Mu) (d : D) (M' : Me), Keep H μ H' μ' → RelS K H' μ' M' → Rep K H' μ' v d → QD d M' → Q v H') (r : Reps K H μ vs ds) (q : QD (.lst ds) M) {p : Addr} (hp : H p = none) : Q (.ref p) (upd H p (.lst vs)) := by
  obtain ⟨k, rs'⟩ := rs.lay (o := .lst vs) hp
  exact hq _ _ μ _ M k rs' (.lst upd_same (notMem_of_none rs hp).1 (notMem_of_none rs hp).2 (r.keep k)) q
def fAdd : F2
  | .int i, .int j, M, Q => Q (.int (i + j)) M
  | .str x, .str y, M, Q => x.length + y.length ≤ sizeLine ∧ Q (.str (x ++ y)) M
  | .tup xs, .tup ys, M, Q => xs.length + ys.length ≤ sizeLine ∧ Q (.tup (xs ++ ys)) M
  | _, _, _, _ => False
theorem ok_add : OkR K (fun x y H Q => (rI0 fun i j => .int (i + j)) x y H Q ∨ (∃ i j, x = .str i ∧ y = .str j ∧ i.length + j.length ≤ sizeLine ∧ Q (.str (i ++ j)) H) ∨ rCatA K x y H Q) fAdd := fun x y d e H μ M QD Q rs rx ry h hq => by
  cases d with
  | int i =>
    cases e with
    | int j =>
      cases rx; cases ry
      exact .inl ⟨i, j, rfl, rfl, hq _ H μ _ M rs.refl rs (.int _) h⟩
    | _ => exact h.elim
  | str i =>
    cases e with
    | str j =>
      cases rx; cases ry
      exact .inr (.inl ⟨i, j, rfl, rfl, h.1, hq _ H μ _ M rs.refl rs (.str _) h.2⟩)
    | _ => exact h.elim
  | tup xs =>
    cases e with
    | tup ys =>
      obtain ⟨a, vs, rfl, h1, r1⟩ := rx.tup_
      obtain ⟨b, ws, rfl, h2, r2⟩ := ry.tup_
      refine .inr (.inr ⟨a, b, vs, ws, rfl, rfl, h1, h2, by rw [r1.length, r2.length]; exact h.1, fun z => ?_, fun _ z => ?_, fun _ _ p hp => fin_tup rs hq (r1.append r2) h.2 hp⟩)
      · have z' := (r1.nil_iff).mp z
        subst z'
        exact hq _ H μ _ M rs.refl rs (.tup h2 r2) h.2
      · have z' := (r2.nil_iff).mp z
        subst z'
        refine hq _ H μ _ M rs.refl rs (.tup h1 r1) ?_
        have := h.2
        rwa [List.append_nil] at this
    | _ => exact h.elim
  | _ => exact h.elim
theorem de_add (ha : DE X W a wa) (hb : DE X W b wb) : DE X W (.BinOp a .Add b pos) (wBin fAdd wa wb) := de_bin (op_add.or (op_add_str.or op_catA)) ok_add ha hb
abbrev fMul : F2 := fI IntMulOk fun i j => .int (i * j)
theorem de_mul (ha : DE X W a wa) (hb : DE X W b wb) : DE X W (.BinOp a .Mult b pos) (wBin fMul wa wb) := de_bin o_mul (ok_I fun _ _ _ _ => .int _) ha hb

/-! ### lists made new -/
abbrev FL2 := D → D → Me → (List D → Me → Prop) → Prop
def wBinF (f : FL2) (wa wb : WE) : WFr := fun env M Q E => wa env M (fun d M1 => wb env M1 (fun e M2 => f d e M2 Q) E) E
def OkF (K : PySem.W.Frag) (r : R2) (f : FL2) : Prop := ∀ (x y : V) (d e : D) (H : Hp) (μ : Mu) (M : Me) (QD : List D → Me → Prop) (Q : VK), RelS K H μ M → Rep K H μ x d → Rep K H μ y e → f d e M QD →
  (∀ (p : Addr) (vs : List V) (ds : List D), H p = none → Reps K H μ vs ds → QD ds M → Q (.ref p) (upd H p (.lst vs))) → r x y H Q
theorem tOp_F {r : R2} {f : FL2} (hf : OkF K r f) {σ : L2.St} {H : Hp} {Q : VK} (h : tF K W (wBinF f wa wb) σ H Q) : tOp r (tD K W wa) (tD K W wb) σ H Q := by
  obtain ⟨env, μ, M, QD, ED, re, rs, hw, hq, hx⟩ := h
  refine ⟨env, μ, M, _, ED, re, rs, hw, fun v H1 μ1 d M1 k1 rs1 r1 q1 => ?_, hx⟩
  refine ⟨env, μ1, M1, _, ED, re.keep k1, rs1, q1, fun u H2 μ2 e M2 k2 rs2 r2 q2 => ?_, hx.keep k1⟩
  exact hf v u d e H2 μ2 M2 QD Q rs2 (r1.keep k2) r2 q2 fun p vs ds hp rr qq => fin_lst (σ := σ) hq (k1.trans k2) rs2 rr qq (p := p) (hp := hp) (hp0 := none_of_keep (k1.trans k2) rs2 hp)
def fCat : FL2 := fun d e M Q => ∃ xs ys, lsD d M = some xs ∧ lsD e M = some ys ∧ xs.length + ys.length ≤ sizeLine ∧ Q (xs ++ ys) M
theorem ok_cat : OkF K rCat fCat := fun x y d e H μ M QD Q rs rx ry ⟨xs, ys, h1, h2, hz, q⟩ hq => by
  obtain ⟨l, vs, rfl, e1, r1⟩ := rx.ls rs h1
  obtain ⟨b, ws, rfl, e2, r2⟩ := ry.ls rs h2
  exact ⟨l, b, vs, ws, rfl, rfl, e1, e2, by rw [r1.length, r2.length]; exact hz, fun p hp => hq p _ _ hp (r1.append r2) q⟩
theorem df_cat (ha : DE X W a wa) (hb : DE X W b wb) : DF X W (.BinOp a .Add b pos) (wBinF fCat wa wb) := ⟨pe_mono (pe_op op_cat ha.pe hb.pe) fun _ _ _ h => tOp_F ok_cat h⟩
def fRep : FL2 := fun d e M Q => ∃ xs k, lsD d M = some xs ∧ e = .int k ∧ -(2 ^ 63) ≤ k ∧ k < 2 ^ 63 ∧ xs.length * k.toNat ≤ sizeLine ∧ Q (List.replicate k.toNat xs).flatten M
theorem Reps.rep {H : Hp} {μ : Mu} {vs : List V} {ds : List D} (r : Reps K H μ vs ds) : ∀ k : Nat, Reps K H μ (List.replicate k vs).flatten (List.replicate k ds).flatten
  | 0 => .nil
  | k + 1 => by
    rw [List.replicate_succ, List.replicate_succ, List.flatten_cons, List.flatten_cons]
    exact r.append (Reps.rep r k)
theorem ok_rep : OkF K rRep fRep := fun x y d e H μ M QD Q rs rx ry ⟨xs, k, h1, h2, h3, h4, hz, q⟩ hq => by
  subst h2
  obtain ⟨l, vs, rfl, e1, r1⟩ := rx.ls rs h1
  cases ry
  exact ⟨l, k, vs, rfl, rfl, e1, h3, h4, by rw [r1.length]; exact hz, fun p hp => hq p _ _ hp (r1.rep _) q⟩
theorem df_rep (ha : DE X W a wa) (hb : DE X W b wb) : DF X W (.BinOp a .Mult b pos) (wBinF fRep wa wb) := ⟨pe_mono (pe_op op_rep ha.pe hb.pe) fun _ _ _ h => tOp_F ok_rep h⟩

/-! ### comparisons -/
abbrev fLt : F2 := fI (fun _ _ => True) fun i j => .bl (decide (i < j))
abbrev fLe : F2 := fI (fun _ _ => True) fun i j => .bl (decide (i ≤ j))
abbrev fGt : F2 := fI (fun _ _ => True) fun i j => .bl (decide (j < i))
abbrev fGe : F2 := fI (fun _ _ => True) fun i j => .bl (decide (j ≤ i))
theorem o_lt : OpR X (compareOp .Lt) (rI (fun _ _ => True) fun i j => .bl (decide (i < j))) := opI0_I op_lt
theorem o_le : OpR X (compareOp .LtE) (rI (fun _ _ => True) fun i j => .bl (decide (i ≤ j))) := opI0_I op_le
theorem o_gt : OpR X (compareOp .Gt) (rI (fun _ _ => True) fun i j => .bl (decide (j < i))) := opI0_I op_gt
theorem o_ge : OpR X (compareOp .GtE) (rI (fun _ _ => True) fun i j => .bl (decide (j ≤ i))) := opI0_I op_ge
theorem k_b {g : Int → Int → Bool} : ∀ (i j : Int) (H : Hp) (μ : Mu), Rep K H μ (.bl (g i j)) (.bl (g i j)) := fun _ _ _ _ => .bl _
theorem de_lt (ha : DE X W a wa) (hb : DE X W b wb) : DE X W (.Compare a [.Lt] [b] pos) (wBin fLt wa wb) := de_cmp o_lt (ok_I k_b) ha hb (nomark _)
theorem de_le (ha : DE X W a wa) (hb : DE X W b wb) : DE X W (.Compare a [.LtE] [b] pos) (wBin fLe wa wb) := de_cmp o_le (ok_I k_b) ha hb (nomark _)
theorem de_gt (ha : DE X W a wa) (hb : DE X W b wb) : DE X W (.Compare a [.Gt] [b] pos) (wBin fGt wa wb) := de_cmp o_gt (ok_I k_b) ha hb (nomark _)
theorem de_ge (ha : DE X W a wa) (hb : DE X W b wb) : DE X W (.Compare a [.GtE] [b] pos) (wBin fGe wa wb) := de_cmp o_ge (ok_I k_b) ha hb (nomark _)
theorem dt_lt (ha : DE X W a wa) (hb : DE X W b wb) : DT X W (.Compare a [.Lt] [b] pos) (wB (wBin fLt wa wb)) := dt_cmp o_lt (ok_I k_b) ha hb (nomark _)
theorem dt_le (ha : DE X W a wa) (hb : DE X W b wb) : DT X W (.Compare a [.LtE] [b] pos) (wB (wBin fLe wa wb)) := dt_cmp o_le (ok_I k_b) ha hb (nomark _)
theorem dt_gt (ha : DE X W a wa) (hb : DE X W b wb) : DT X W (.Compare a [.Gt] [b] pos) (wB (wBin fGt wa wb)) := dt_cmp o_gt (ok_I k_b) ha hb (nomark _)
theorem dt_ge (ha : DE X W a wa) (hb : DE X W b wb) : DT X W (.Compare a [.GtE] [b] pos) (wB (wBin fGe wa wb)) := dt_cmp o_ge (ok_I k_b) ha hb (nomark _)
-- data without handles, as the library's
mutual
def pyD : D → Option PyData
  | .non => some .none
  | .bl b => some (.bool b)
  | .int i => some (.int i)
  | .str x => some (.str x)
  | .tup l => (pyDs l).map .tuple
  | .lst l => (pyDs l).map .list
  | .fls l => (pyDs l).map .list
  | _ => none
def pyDs : List D → Option (List PyData)
  | [] => some []
  | d :: l => (pyD d).bind fun x => (pyDs l).map fun xs => x :: xs
end
def pyM (M : Me) : D → Option PyData
  | .han h => (M[h]?).bind fun l => (pyDs l).map .list
  | d => pyD d
mutual
theorem dp_of {H : Hp} {μ : Mu} : ∀ {d : D} {v : V} {p : PyData}, Rep K H μ v d → pyD d = some p → Dp K H v p
  | .non, _, _, r, e => by cases r; cases e; exact .non
  | .bl b, _, _, r, e => by cases r; cases e; exact .bl b
  | .int i, _, _, r, e => by cases r; cases e; exact .int i
  | .str x, _, _, r, e => by cases r; cases e; exact .str x
  | .tup l, _, _, r, e => by
    cases r with
    | tup h rr =>
      simp only [pyD, Option.map_eq_some_iff] at e
      obtain ⟨ps, e1, rfl⟩ := e
      exact .tup h (dps_of rr e1)
  | .lst l, _, _, r, e => by
    cases r with
    | lst h _ _ rr =>
      simp only [pyD, Option.map_eq_some_iff] at e
      obtain ⟨ps, e1, rfl⟩ := e
      exact .lst (.of h) (dps_of rr e1)
  | .fls l, _, _, r, e => by
    cases r with
    | fix h rr =>
      simp only [pyD, Option.map_eq_some_iff] at e
      obtain ⟨ps, e1, rfl⟩ := e
      exact .lst (KLst.sq h) (dps_of rr e1)
  | .dct _ _, _, _, _, e => by simp [pyD] at e
  | .han _, _, _, _, e => by simp [pyD] at e
  | .ref _, _, _, _, e => by simp [pyD] at e
  | .ty _, _, _, _, e => by simp [pyD] at e
theorem dps_of {H : Hp} {μ : Mu} : ∀ {ds : List D} {vs : List V} {ps : List PyData}, Reps K H μ vs ds → pyDs ds = some ps → DpAll K H vs ps
  | [], _, _, r, e => by
    cases r
    simp only [pyDs, Option.some.injEq] at e
    subst e
    exact .nil
  | d :: l, _, _, r, e => by
    cases r with
    | cons r t =>
      simp only [pyDs, Option.bind_eq_some_iff, Option.map_eq_some_iff] at e
      obtain ⟨x, e1, xs, e2, rfl⟩ := e
      exact .cons (dp_of r e1) (dps_of t e2)
end
theorem dpM_of {H : Hp} {μ : Mu} {M : Me} {d : D} {v : V} {p : PyData} (rs : RelS K H μ M) (r : Rep K H μ v d) (e : pyM M d = some p) : Dp K H v p := by
  cases d with
  | han h =>
    cases r with
    | han hm hk =>
      have e : (M[h]?).bind (fun l => (pyDs l).map PyData.list) = some p := e
      simp only [Option.bind_eq_some_iff, Option.map_eq_some_iff] at e
      obtain ⟨l, e1, ps, e2, rfl⟩ := e
      obtain ⟨vs, h1, h2⟩ := rs.at_ _ _ _ hm e1
      exact .lst (.of h1) (dps_of h2 e2)
  | _ => exact dp_of r e
/-- == -/
def fEqG (neg : Bool) (M : Me) (d e : D) (Q : D → Me → Prop) : Prop := ∃ x y, pyM M d = some x ∧ pyM M e = some y ∧ SeqAt.shaped x = true ∧ SeqAt.shaped y = true ∧ Q (.bl (if neg then !PyData.eqv x y else PyData.eqv x y)) M
def fEq : F2
  | .int i, .int j, M, Q => Q (.bl (decide (i = j))) M
  | .str x, .str y, M, Q => Q (.bl (decide (x = y))) M
  | d, e, M, Q => fEqG false M d e Q
def fNe : F2
  | .int i, .int j, M, Q => Q (.bl (!decide (i = j))) M
  | .str x, .str y, M, Q => Q (.bl (!decide (x = y))) M
  | d, e, M, Q => fEqG true M d e Q
theorem ok_eqG {d e : D} {x y : V} {H : Hp} {μ : Mu} {M : Me} {QD : D → Me → Prop} {Q : VK} (rs : RelS K H μ M) (rx : Rep K H μ x d) (ry : Rep K H μ y e) (h : fEqG false M d e QD)
    (hq : ∀ (v : V) (H' : Hp) (μ' : Mu) (d : D) (M' : Me), Keep H μ H' μ' → RelS K H' μ' M' → Rep K H' μ' v d → QD d M' → Q v H') : rEqD K x y H Q := by
  obtain ⟨p, q, h1, h2, h3, h4, h5⟩ := h
  exact ⟨p, q, dpM_of rs rx h1, dpM_of rs ry h2, h3, h4, hq _ H μ _ M rs.refl rs (.bl _) h5⟩
theorem ok_neG {d e : D} {x y : V} {H : Hp} {μ : Mu} {M : Me} {QD : D → Me → Prop} {Q : VK} (rs : RelS K H μ M) (rx : Rep K H μ x d) (ry : Rep K H μ y e) (h : fEqG true M d e QD)
    (hq : ∀ (v : V) (H' : Hp) (μ' : Mu) (d : D) (M' : Me), Keep H μ H' μ' → RelS K H' μ' M' → Rep K H' μ' v d → QD d M' → Q v H') : rNeD K x y H Q := by
  obtain ⟨p, q, h1, h2, h3, h4, h5⟩ := h
  exact ⟨p, q, dpM_of rs rx h1, dpM_of rs ry h2, h3, h4, hq _ H μ _ M rs.refl rs (.bl _) h5⟩
theorem dI (i j : Int) : decide (V.int i = V.int j) = decide (i = j) := by simp
theorem dS (i j : Str) : decide (V.str i = V.str j) = decide (i = j) := by simp
theorem ok_eq : OkR K (fun x y H Q => rEq x y H Q ∨ rEqD K x y H Q) fEq := fun x y d e H μ M QD Q rs rx ry h hq => by
  unfold fEq at h
  split at h
  · cases rx; cases ry
    refine .inl ⟨rfl, ?_⟩
    rw [dI]
    exact hq _ H μ _ M rs.refl rs (.bl _) h
  · cases rx; cases ry
    refine .inl ⟨rfl, ?_⟩
    rw [dS]
    exact hq _ H μ _ M rs.refl rs (.bl _) h
  · exact .inr (ok_eqG rs rx ry h hq)
theorem ok_ne : OkR K (fun x y H Q => rNe x y H Q ∨ rNeD K x y H Q) fNe := fun x y d e H μ M QD Q rs rx ry h hq => by
  unfold fNe at h
  split at h
  · cases rx; cases ry
    refine .inl ⟨rfl, ?_⟩
    rw [dI]
    exact hq _ H μ _ M rs.refl rs (.bl _) h
  · cases rx; cases ry
    refine .inl ⟨rfl, ?_⟩
    rw [dS]
    exact hq _ H μ _ M rs.refl rs (.bl _) h
  · exact .inr (ok_neG rs rx ry h hq)
theorem o_eq (hu : X.A.units + 64 < cLine) : OpR X (compareOp .Eq) (fun x y H Q => rEq x y H Q ∨ rEqD X.K x y H Q) := op_eq.or (op_eqD hu)
theorem o_ne (hu : X.A.units + 64 < cLine) : OpR X (compareOp .NotEq) (fun x y H Q => rNe x y H Q ∨ rNeD X.K x y H Q) := op_ne.or (op_neD hu)
theorem de_eq (hu : X.A.units + 64 < cLine) (ha : DE X W a wa) (hb : DE X W b wb) : DE X W (.Compare a [.Eq] [b] pos) (wBin fEq wa wb) := de_cmp (o_eq hu) ok_eq ha hb (nomark _)
theorem de_ne (hu : X.A.units + 64 < cLine) (ha : DE X W a wa) (hb : DE X W b wb) : DE X W (.Compare a [.NotEq] [b] pos) (wBin fNe wa wb) := de_cmp (o_ne hu) ok_ne ha hb (nomark _)
theorem dt_eq (hu : X.A.units + 64 < cLine) (ha : DE X W a wa) (hb : DE X W b wb) : DT X W (.Compare a [.Eq] [b] pos) (wB (wBin fEq wa wb)) := dt_cmp (o_eq hu) ok_eq ha hb (nomark _)
theorem dt_ne (hu : X.A.units + 64 < cLine) (ha : DE X W a wa) (hb : DE X W b wb) : DT X W (.Compare a [.NotEq] [b] pos) (wB (wBin fNe wa wb)) := dt_cmp (o_ne hu) ok_ne ha hb (nomark _)
/-- is None, is a truth -/
def isNon : D → Bool
  | .non => true
  | _ => false
def fIs : F2
  | d, .non, M, Q => Q (.bl (isNon d)) M
  | .bl i, .bl j, M, Q => Q (.bl (decide (i = j))) M
  | _, _, _, _ => False
def fIsNot : F2
  | d, .non, M, Q => Q (.bl (!isNon d)) M
  | .bl i, .bl j, M, Q => Q (.bl (!decide (i = j))) M
  | _, _, _, _ => False
theorem isNon_eq {H : Hp} {μ : Mu} {v : V} {d : D} (r : Rep K H μ v d) : decide (v = .non) = isNon d := by cases r <;> simp [isNon]
theorem ok_is : OkR K (fun x y H Q => (y = .non ∧ Q (.bl (decide (x = .non))) H) ∨ rIsB x y H Q) fIs := fun x y d e H μ M QD Q rs rx ry h hq => by
  unfold fIs at h
  split at h
  · cases ry
    refine .inl ⟨rfl, ?_⟩
    rw [isNon_eq rx]
    exact hq _ H μ _ M rs.refl rs (.bl _) h
  · cases rx; cases ry
    exact .inr ⟨_, _, rfl, rfl, hq _ H μ _ M rs.refl rs (.bl _) h⟩
  · exact h.elim
theorem ok_isNot : OkR K (fun x y H Q => (y = .non ∧ Q (.bl (!decide (x = .non))) H) ∨ rNotB x y H Q) fIsNot := fun x y d e H μ M QD Q rs rx ry h hq => by
  unfold fIsNot at h
  split at h
  · cases ry
    refine .inl ⟨rfl, ?_⟩
    rw [isNon_eq rx]
    exact hq _ H μ _ M rs.refl rs (.bl _) h
  · cases rx; cases ry
    exact .inr ⟨_, _, rfl, rfl, hq _ H μ _ M rs.refl rs (.bl _) h⟩
  · exact h.elim
theorem de_is (ha : DE X W a wa) (hb : DE X W b wb) : DE X W (.Compare a [.Is] [b] pos) (wBin fIs wa wb) := de_cmp (op_isN.or op_isBl) ok_is ha hb (nomark _)
theorem de_isNot (ha : DE X W a wa) (hb : DE X W b wb) : DE X W (.Compare a [.IsNot] [b] pos) (wBin fIsNot wa wb) := de_cmp (op_notN.or op_notBl) ok_isNot ha hb (nomark _)
theorem dt_is (ha : DE X W a wa) (hb : DE X W b wb) : DT X W (.Compare a [.Is] [b] pos) (wB (wBin fIs wa wb)) := dt_cmp (op_isN.or op_isBl) ok_is ha hb (nomark _)
theorem dt_isNot (ha : DE X W a wa) (hb : DE X W b wb) : DT X W (.Compare a [.IsNot] [b] pos) (wB (wBin fIsNot wa wb)) := dt_cmp (op_notN.or op_notBl) ok_isNot ha hb (nomark _)
end
end DL

namespace DL
open PySem PySem.Spec PyProof.Rows L2
section
variable {X : Cx} {W : WX} {a b c e : Expr} {wa wb wc : WE} {pos : Pos} {K : PySem.W.Frag}

/-! ## in, items, slices, calls -/
def flatD : D → Bool
  | .non => true
  | .bl _ => true
  | .int _ => true
  | .str _ => true
  | _ => false
def eqF : D → D → Bool
  | .non, .non => true
  | .bl a, .bl b => a == b
  | .bl a, .int b => (if a then 1 else 0) == b
  | .int a, .bl b => a == (if b then 1 else 0)
  | .int a, .int b => a == b
  | .str a, .str b => a == b
  | _, _ => false
def inD (x : D) (l : List D) : Bool := l.any fun y => eqF y x
theorem flat_V {H : Hp} {μ : Mu} {v : V} {d : D} (r : Rep K H μ v d) (h : flatD d = true) : flatV v = true := by
  cases r <;> first | rfl | (cases h; done)
theorem flats_V {H : Hp} {μ : Mu} : ∀ {vs : List V} {ds : List D}, Reps K H μ vs ds → ds.all flatD = true → vs.all flatV = true
  | _, _, .nil, _ => rfl
  | _, _, .cons r t, h => by
    rw [List.all_cons, Bool.and_eq_true] at h ⊢
    exact ⟨flat_V r h.1, flats_V t h.2⟩
theorem eq_F {H : Hp} {μ : Mu} {v u : V} {d e : D} (r : Rep K H μ v d) (q : Rep K H μ u e) (h : flatD d = true) (h' : flatD e = true) : eqV v u = eqF d e := by
  cases r <;> first | (cases h; done) | (cases q <;> first | rfl | (cases h'; done))
theorem in_V {H : Hp} {μ : Mu} {v : V} {d : D} (r : Rep K H μ v d) (h : flatD d = true) : ∀ {vs : List V} {ds : List D}, Reps K H μ vs ds → ds.all flatD = true → inV v vs = inD d ds
  | _, _, .nil, _ => rfl
  | _, _, .cons q t, h' => by
    rw [List.all_cons, Bool.and_eq_true] at h'
    have := in_V r h t h'.2
    unfold inV inD at this ⊢
    rw [List.any_cons, List.any_cons, this, eq_F q r h'.1 h]
def inStr (x y : Str) : Bool := !(Builtin.Str.occurrences y x 0 y.length 1).isEmpty
def fIn (neg : Bool) : F2
  | .str x, .str y, M, Q => Q (.bl (if neg then !inStr x y else inStr x y)) M
  | d, e, M, Q => ∃ l, sqD e M = some l ∧ flatD d = true ∧ l.all flatD = true ∧ Q (.bl (if neg then !inD d l else inD d l)) M
theorem ok_inG {neg : Bool} {d e : D} {x y : V} {H : Hp} {μ : Mu} {M : Me} {QD : D → Me → Prop} {Q : VK} (rs : RelS K H μ M) (rx : Rep K H μ x d) (ry : Rep K H μ y e)
    (h : ∃ l, sqD e M = some l ∧ flatD d = true ∧ l.all flatD = true ∧ QD (.bl (if neg then !inD d l else inD d l)) M)
    (hq : ∀ (v : V) (H' : Hp) (μ' : Mu) (d : D) (M' : Me), Keep H μ H' μ' → RelS K H' μ' M' → Rep K H' μ' v d → QD d M' → Q v H') : rIn K neg x y H Q := by
  obtain ⟨l, h1, h2, h3, h4⟩ := h
  obtain ⟨p, vs, rfl, hs, rr⟩ := ry.sq rs h1
  refine ⟨p, vs, rfl, hs, flat_V rx h2, flats_V rr h3, ?_⟩
  rw [in_V rx h2 rr h3]
  exact hq _ H μ _ M rs.refl rs (.bl _) h4
theorem ok_in : OkR K (fun x y H Q => (∃ i j, x = .str i ∧ y = .str j ∧ Q (.bl (!(Builtin.Str.occurrences j i 0 j.length 1).isEmpty)) H) ∨ rIn K false x y H Q) (fIn false) := fun x y d e H μ M QD Q rs rx ry h hq => by
  unfold fIn at h
  split at h
  · cases rx; cases ry
    exact .inl ⟨_, _, rfl, rfl, hq _ H μ _ M rs.refl rs (.bl _) h⟩
  · exact .inr (ok_inG rs rx ry h hq)
theorem ok_notIn : OkR K (fun x y H Q => (∃ i j, x = .str i ∧ y = .str j ∧ Q (.bl (!(!(Builtin.Str.occurrences j i 0 j.length 1).isEmpty))) H) ∨ rIn K true x y H Q) (fIn true) := fun x y d e H μ M QD Q rs rx ry h hq => by
  unfold fIn at h
  split at h
  · cases rx; cases ry
    exact .inl ⟨_, _, rfl, rfl, hq _ H μ _ M rs.refl rs (.bl _) h⟩
  · exact .inr (ok_inG rs rx ry h hq)
theorem de_in (ha : DE X W a wa) (hb : DE X W b wb) (hm : behindInMarks .In b = false := by rfl) : DE X W (.Compare a [.In] [b] pos) (wBin (fIn false) wa wb) := de_cmp (op_in_str.or op_in_seq) ok_in ha hb hm
theorem de_notIn (ha : DE X W a wa) (hb : DE X W b wb) (hm : behindInMarks .NotIn b = false := by rfl) : DE X W (.Compare a [.NotIn] [b] pos) (wBin (fIn true) wa wb) := de_cmp (op_notin_str.or op_notIn_seq) ok_notIn ha hb hm
theorem dt_in (ha : DE X W a wa) (hb : DE X W b wb) (hm : behindInMarks .In b = false := by rfl) : DT X W (.Compare a [.In] [b] pos) (wB (wBin (fIn false) wa wb)) := dt_cmp (op_in_str.or op_in_seq) ok_in ha hb hm
theorem dt_notIn (ha : DE X W a wa) (hb : DE X W b wb) (hm : behindInMarks .NotIn b = false := by rfl) : DT X W (.Compare a [.NotIn] [b] pos) (wB (wBin (fIn true) wa wb)) := dt_cmp (op_notin_str.or op_notIn_seq) ok_notIn ha hb hm

/-! ### items -/
def fIx : F2
  | .str z, .int i, M, Q => z.length ≤ sizeLine ∧ ∃ c, atI z.cps.toList i = some c ∧ Q (.str ⟨#[c]⟩) M
  | d, .int i, M, Q => ∃ l x, sqD d M = some l ∧ atI l i = some x ∧ Q x M
  | _, _, _, _ => False
theorem at_V {H : Hp} {μ : Mu} {vs : List V} {ds : List D} {i : Int} {d : D} (r : Reps K H μ vs ds) (h : atI ds i = some d) : ∃ v, atI vs i = some v ∧ Rep K H μ v d := by
  unfold atI at h ⊢
  rw [r.length]
  cases e : ixN ds.length i with
  | none => rw [e] at h; cases h
  | some j =>
    rw [e] at h
    exact r.get h
theorem ok_ix : OkR K (rIx K) fIx := fun x y d e H μ M QD Q rs rx ry h hq => by
  unfold fIx at h
  split at h
  · cases rx; cases ry
    obtain ⟨h1, c, h2, h3⟩ := h
    exact .inr (.inr ⟨_, _, c, rfl, rfl, h1, h2, hq _ H μ _ M rs.refl rs (.str _) h3⟩)
  · cases ry
    obtain ⟨l, z, h1, h2, h3⟩ := h
    obtain ⟨p, vs, rfl, hs, rr⟩ := rx.sq rs h1
    obtain ⟨v, e1, r1⟩ := at_V rr h2
    rcases hs with hs | hs
    · exact .inl ⟨p, vs, _, v, rfl, rfl, hs, e1, hq _ H μ _ M rs.refl rs r1 h3⟩
    · exact .inr (.inl ⟨p, vs, _, v, rfl, rfl, hs, e1, hq _ H μ _ M rs.refl rs r1 h3⟩)
  · exact h.elim
theorem de_ix (ha : DE X W a wa) (hb : DE X W b wb) (hs : PlainIx b := by intro _ _; rfl) : DE X W (.Subscript a b pos) (wBin fIx wa wb) := ⟨pe_mono (pe_ix ix_seq ha.pe hb.pe hs) fun _ _ _ h => tOp_D ok_ix h⟩

/-! ### slices -/
abbrev WO := En → Me → (Option Int → Me → Prop) → (EX → Me → Prop) → Prop
def tDO (K : PySem.W.Frag) (W : WX) (w : WO) : TO := fun σ H Q => ∃ (env : En) (μ : Mu) (M : Me) (QD : Option Int → Me → Prop) (ED : EX → Me → Prop), RelE K H μ σ env ∧ RelS K H μ M ∧ w env M QD ED ∧
  (∀ (b : Option Int) (H' : Hp) (μ' : Mu) (M' : Me), Keep H μ H' μ' → RelS K H' μ' M' → QD b M' → Q b H') ∧ XE_ K W σ H μ ED
structure DO (X : Cx) (W : WX) (e : Option Expr) (w : WO) : Prop where
  po : PO X e (tDO X.K W w)
theorem po_mono {X : Cx} {e : Option Expr} {t t' : TO} (h : PO X e t) (m : ∀ σ H Q, t' σ H Q → t σ H Q) : PO X e t' := by
  obtain ⟨h⟩ := h
  constructor
  intros
  apply h <;> first | assumption | (apply m; assumption)
def wNo : WO := fun _ M Q _ => Q none M
def wPart (wa : WE) : WO := fun env M Q E => wa env M (fun d M1 => match d with | .int i => Q (some i) M1 | _ => False) E
theorem do_no : DO X W none wNo := ⟨po_mono po_none fun σ H Q ⟨env, μ, M, QD, ED, re, rs, hw, hq, hx⟩ => hq none H μ M rs.refl rs hw⟩
theorem do_at (ha : DE X W a wa) : DO X W (some a) (wPart wa) := by
  refine ⟨po_mono (po_some ha.pe) fun σ H Q ⟨env, μ, M, QD, ED, re, rs, hw, hq, hx⟩ => ⟨env, μ, M, _, ED, re, rs, hw, fun v H1 μ1 d M1 k1 rs1 r1 q1 => ?_, hx⟩⟩
  cases d with
  | int i =>
    cases r1
    exact ⟨i, rfl, hq _ H1 μ1 M1 k1 rs1 q1⟩
  | _ => exact q1.elim
def cutD (l : List D) (lo hi : Option Int) : List D := (l.drop (HT.sIx l.length 0 lo)).take (HT.sIx l.length l.length hi - HT.sIx l.length 0 lo)
theorem cut_V {H : Hp} {μ : Mu} {vs : List V} {ds : List D} {lo hi : Option Int} (r : Reps K H μ vs ds) : Reps K H μ (cutV vs lo hi) (cutD ds lo hi) := by
  unfold cutV cutD
  rw [r.length]
  exact (r.drop _).take _
/-- a slice of a text, a tuple -/
def wSl (wa : WE) (wl wh : WO) : WE := fun env M Q E => wa env M (fun d M1 => wl env M1 (fun lo M2 => wh env M2 (fun hi M3 => match d with
  | .str z => z.length ≤ sizeLine ∧ Q (.str (cutS z lo hi)) M3
  | .tup l => Q (.tup (cutD l lo hi)) M3
  | _ => False) E) E) E
def rSlST (K : PySem.W.Frag) : V → Option Int → Option Int → Hp → VK → Prop := fun x lo hi H Q => rSlS x lo hi H Q ∨ rSlA K x lo hi H Q
variable {lo hi : Option Expr} {wl wh : WO} {p2 : Pos}
theorem de_sl (ha : DE X W a wa) (hl : DO X W lo wl) (hh : DO X W hi wh) : DE X W (.Subscript a (.Slice lo hi none p2) pos) (wSl wa wl wh) := by
  refine ⟨pe_mono (pe_slice (sl_str.or sl_tupA) ha.pe hl.po hh.po) fun σ H Q ⟨env, μ, M, QD, ED, re, rs, hw, hq, hx⟩ => ⟨env, μ, M, _, ED, re, rs, hw, fun v H1 μ1 d M1 k1 rs1 r1 q1 => ?_, hx⟩⟩
  refine ⟨env, μ1, M1, _, ED, re.keep k1, rs1, q1, fun l H2 μ2 M2 k2 rs2 q2 => ?_, hx.keep k1⟩
  refine ⟨env, μ2, M2, _, ED, re.keep (k1.trans k2), rs2, q2, fun h H3 μ3 M3 k3 rs3 q3 => ?_, hx.keep (k1.trans k2)⟩
  have r3 := (r1.keep k2).keep k3
  have k := (k1.trans k2).trans k3
  cases d with
  | str z =>
    cases r1
    exact .inl ⟨z, rfl, q3.1, hq _ H3 μ3 _ M3 k rs3 (.str _) q3.2⟩
  | tup ds =>
    obtain ⟨a, vs, rfl, h1, rr⟩ := r3.tup_
    refine .inr ⟨a, vs, rfl, h1, fun hw => ?_, fun _ p hp => ?_⟩
    · have e : cutD ds l h = ds := by
        unfold cutD
        rw [← rr.length, hw.1, hw.2]
        simp [rr.length]
      have q3 : QD (.tup (cutD ds l h)) M3 := q3
      rw [e] at q3
      exact hq _ H3 μ3 _ M3 k rs3 (.tup h1 rr) q3
    · obtain ⟨k', rs', r'⟩ := tup_rep rs3 (cut_V (lo := l) (hi := h) rr) hp
      exact hq _ _ μ3 _ M3 (k.trans k') rs' r' q3
  | _ => exact q3.elim
/-- a slice of a list: a new list -/
def wSlL (wa : WE) (wl wh : WO) : WFr := fun env M Q E => wa env M (fun d M1 => wl env M1 (fun lo M2 => wh env M2 (fun hi M3 => match d with
  | .han h => ∃ l, M3[h]? = some l ∧ Q (cutD l lo hi) M3
  | .lst l => Q (cutD l lo hi) M3
  | .fls l => Q (cutD l lo hi) M3
  | _ => False) E) E) E
theorem df_sl (ha : DE X W a wa) (hl : DO X W lo wl) (hh : DO X W hi wh) : DF X W (.Subscript a (.Slice lo hi none p2) pos) (wSlL wa wl wh) := by
  refine ⟨pe_mono (pe_slice sl_list ha.pe hl.po hh.po) fun σ H Q ⟨env, μ, M, QD, ED, re, rs, hw, hq, hx⟩ => ⟨env, μ, M, _, ED, re, rs, hw, fun v H1 μ1 d M1 k1 rs1 r1 q1 => ?_, hx⟩⟩
  refine ⟨env, μ1, M1, _, ED, re.keep k1, rs1, q1, fun l H2 μ2 M2 k2 rs2 q2 => ?_, hx.keep k1⟩
  refine ⟨env, μ2, M2, _, ED, re.keep (k1.trans k2), rs2, q2, fun h H3 μ3 M3 k3 rs3 q3 => ?_, hx.keep (k1.trans k2)⟩
  have r3 := (r1.keep k2).keep k3
  have k := (k1.trans k2).trans k3
  cases d with
  | han i =>
    obtain ⟨ds, e1, q3⟩ := q3
    obtain ⟨a, vs, rfl, h1, rr⟩ := r3.ls rs3 (show lsD (.han i) M3 = some ds from e1)
    exact ⟨a, vs, rfl, .of h1, fun p hp => fin_lst (σ := σ) hq k rs3 (cut_V (lo := l) (hi := h) rr) q3 (p := p) (hp := hp) (hp0 := none_of_keep k rs3 hp)⟩
  | lst ds =>
    obtain ⟨a, vs, rfl, h1, rr⟩ := r3.ls rs3 (show lsD (.lst ds) M3 = some ds from rfl)
    exact ⟨a, vs, rfl, .of h1, fun p hp => fin_lst (σ := σ) hq k rs3 (cut_V (lo := l) (hi := h) rr) q3 (p := p) (hp := hp) (hp0 := none_of_keep k rs3 hp)⟩
  | fls ds =>
    cases r3 with
    | fix h1 rr => exact ⟨_, _, rfl, KLst.sq h1, fun p hp => fin_lst (σ := σ) hq k rs3 (cut_V (lo := l) (hi := h) rr) q3 (p := p) (hp := hp) (hp0 := none_of_keep k rs3 hp)⟩
  | _ => exact q3.elim
/-- xs[::-1] -/
def wRevL (wa : WE) : WFr := fun env M Q E => wa env M (fun d M1 => ∃ l, lsD d M1 = some l ∧ Q l.reverse M1) E
theorem df_revL {k : Nat} {p1 p2 p3 : Pos} (ha : DE X W a wa) : DF X W (.Subscript a (.Slice none none (some (.UnaryOp .USub (.Constant (.int 1) k p1) p2)) p3) pos) (wRevL wa) := by
  refine ⟨pe_mono (pe_revL ha.pe) fun σ H Q ⟨env, μ, M, QD, ED, re, rs, hw, hq, hx⟩ => ⟨env, μ, M, _, ED, re, rs, hw, fun v H1 μ1 d M1 k1 rs1 r1 q1 => ?_, hx⟩⟩
  obtain ⟨ds, e1, q1⟩ := q1
  obtain ⟨a, vs, rfl, h1, rr⟩ := r1.ls rs1 e1
  exact ⟨a, vs, rfl, .of h1, fun p hp => fin_lst (σ := σ) hq k1 rs1 rr.reverse q1 (p := p) (hp := hp) (hp0 := none_of_keep k1 rs1 hp)⟩
end
end DL

namespace DL
open PySem PySem.Spec PyProof.Rows L2
section
variable {X : Cx} {W : WX} {a b c e : Expr} {es : List Expr} {wa wb wc : WE} {wr : WA} {pos p : Pos} {x : Str} {K : PySem.W.Frag}

/-! ## built-ins -/
abbrev FC := List D → Me → (D → Me → Prop) → Prop
def OkC (K : PySem.W.Frag) (r : List V → Hp → VK → Prop) (f : FC) : Prop := ∀ (vs : List V) (ds : List D) (H : Hp) (μ : Mu) (M : Me) (QD : D → Me → Prop) (Q : VK), RelS K H μ M → Reps K H μ vs ds → f ds M QD →
  (∀ (v : V) (H' : Hp) (μ' : Mu) (d : D) (M' : Me), Keep H μ H' μ' → RelS K H' μ' M' → Rep K H' μ' v d → QD d M' → Q v H') → r vs H Q
def wCB (f : FC) (wr : WA) : WE := fun env M Q E => wr env M (fun ds M1 => f ds M1 Q) E
theorem tCB_D {r : List V → Hp → VK → Prop} {f : FC} (hf : OkC K r f) {σ : L2.St} {H : Hp} {Q : VK} (h : tD K W (wCB f wr) σ H Q) : tCB r (tDA K W wr) σ H Q := by
  obtain ⟨env, μ, M, QD, ED, re, rs, hw, hq, hx⟩ := h
  refine ⟨env, μ, M, _, ED, re, rs, hw, fun vs H1 μ1 ds M1 k1 rs1 r1 q1 => ?_, hx⟩
  exact hf vs ds H1 μ1 M1 QD Q rs1 r1 q1 fun z H3 μ3 c M3 k3 => hq z H3 μ3 c M3 (k1.trans k3)
theorem de_blt {id : String} {r : List V → Hp → VK → Prop} {f : FC} (hc : CallR X (.builtin id) r) (hf : OkC X.K r f) (hg : Gl X x) (hm : X.mg x = none) (hv : bootBuiltins x = some (.builtin id)) (ha : DA X W (e :: es) wr)
    (hn : x ≠ "__name__") (hdb : (x == ("__debug__" : Str)) = false) (he : starEach (e :: es) X.env = (false, eval e X.env) :: starEach es X.env) (hpl : (backTo pos (starEach es X.env)).any (·.1) = false) :
    DE X W (.Call (.Name x p) (e :: es) [] pos) (wCB f wr) :=
  ⟨pe_mono (pe_callB hc hg hm hv ha.pa hn hdb he hpl) fun _ _ _ h => tCB_D hf h⟩
theorem de_btp {T : String} {r : List V → Hp → VK → Prop} {f : FC} (hc : CallR X (.type T) r) (hf : OkC X.K r f) (hg : Gl X x) (hm : X.mg x = none) (hv : bootBuiltins x = some (.type T)) (ha : DA X W (e :: es) wr)
    (hn : x ≠ "__name__") (hdb : (x == ("__debug__" : Str)) = false) (he : starEach (e :: es) X.env = (false, eval e X.env) :: starEach es X.env) (hpl : (backTo pos (starEach es X.env)).any (·.1) = false) :
    DE X W (.Call (.Name x p) (e :: es) [] pos) (wCB f wr) :=
  ⟨pe_mono (pe_callTy hc hg hm hv ha.pa hn hdb he hpl) fun _ _ _ h => tCB_D hf h⟩
theorem reps1 {H : Hp} {μ : Mu} {vs : List V} {d : D} (r : Reps K H μ vs [d]) : ∃ v, vs = [v] ∧ Rep K H μ v d := by
  cases r with | cons r t => cases t; exact ⟨_, rfl, r⟩
theorem reps2 {H : Hp} {μ : Mu} {vs : List V} {d e : D} (r : Reps K H μ vs [d, e]) : ∃ v u, vs = [v, u] ∧ Rep K H μ v d ∧ Rep K H μ u e := by
  cases r with | cons r t => cases t with | cons r' t => cases t; exact ⟨_, _, rfl, r, r'⟩
def fAbs : FC
  | [.int i], M, Q => Q (.int (if i < 0 then -i else i)) M
  | _, _, _ => False
theorem ok_abs : OkC K (fun xs H Q => ∃ i, xs = [.int i] ∧ Q (.int (if i < 0 then -i else i)) H) fAbs := fun vs ds H μ M QD Q rs r h hq => by
  unfold fAbs at h
  split at h
  · obtain ⟨v, rfl, r1⟩ := reps1 r
    cases r1
    exact ⟨_, rfl, hq _ H μ _ M rs.refl rs (.int _) h⟩
  · exact h.elim
def fMin2 : FC
  | [.int i, .int j], M, Q => Q (.int (if j < i then j else i)) M
  | _, _, _ => False
theorem ok_min2 : OkC K (fun xs H Q => ∃ i j, xs = [.int i, .int j] ∧ Q (.int (if j < i then j else i)) H) fMin2 := fun vs ds H μ M QD Q rs r h hq => by
  unfold fMin2 at h
  split at h
  · obtain ⟨v, u, rfl, r1, r2⟩ := reps2 r
    cases r1; cases r2
    exact ⟨_, _, rfl, hq _ H μ _ M rs.refl rs (.int _) h⟩
  · exact h.elim
def fMax2 : FC
  | [.int i, .int j], M, Q => Q (.int (if j > i then j else i)) M
  | _, _, _ => False
theorem ok_max2 : OkC K (fun xs H Q => ∃ i j, xs = [.int i, .int j] ∧ Q (.int (if j > i then j else i)) H) fMax2 := fun vs ds H μ M QD Q rs r h hq => by
  unfold fMax2 at h
  split at h
  · obtain ⟨v, u, rfl, r1, r2⟩ := reps2 r
    cases r1; cases r2
    exact ⟨_, _, rfl, hq _ H μ _ M rs.refl rs (.int _) h⟩
  · exact h.elim
def fLen : FC
  | [.str z], M, Q => z.length ≤ sizeLine ∧ Q (.int z.length) M
  | [d], M, Q => ∃ l, sqD d M = some l ∧ Q (.int l.length) M
  | _, _, _ => False
theorem ok_len : OkC K (fun vs H Q => (∃ z, vs = [.str z] ∧ z.length ≤ sizeLine ∧ Q (.int z.length) H) ∨ (∃ p ys, vs = [.ref p] ∧ (SqL K H p ys ∨ SqT K H p ys) ∧ Q (.int ys.length) H)) fLen := fun vs ds H μ M QD Q rs r h hq => by
  unfold fLen at h
  split at h
  · obtain ⟨v, rfl, r1⟩ := reps1 r
    cases r1
    exact .inl ⟨_, rfl, h.1, hq _ H μ _ M rs.refl rs (.int _) h.2⟩
  · obtain ⟨v, rfl, r1⟩ := reps1 r
    obtain ⟨l, h1, h2⟩ := h
    obtain ⟨p, vs, rfl, hs, rr⟩ := r1.sq rs h1
    refine .inr ⟨p, vs, rfl, hs, ?_⟩
    rw [rr.length]
    exact hq _ H μ _ M rs.refl rs (.int _) h2
  · exact h.elim
def fInt : FC
  | [.int i], M, Q => Q (.int i) M
  | [.bl k], M, Q => Q (.int (if k then 1 else 0)) M
  | _, _, _ => False
theorem ok_int : OkC K (fun xs H Q => (∃ i, xs = [.int i] ∧ Q (.int i) H) ∨ ∃ k, xs = [.bl k] ∧ Q (.int (if k then 1 else 0)) H) fInt := fun vs ds H μ M QD Q rs r h hq => by
  unfold fInt at h
  split at h
  · obtain ⟨v, rfl, r1⟩ := reps1 r
    cases r1
    exact .inl ⟨_, rfl, hq _ H μ _ M rs.refl rs (.int _) h⟩
  · obtain ⟨v, rfl, r1⟩ := reps1 r
    cases r1
    exact .inr ⟨_, rfl, hq _ H μ _ M rs.refl rs (.int _) h⟩
  · exact h.elim
def fStr : FC
  | [.int i], M, Q => i.natAbs.log2 < 1920 ∧ Q (.str (toString i)) M
  | _, _, _ => False
theorem ok_str : OkC K (fun xs H Q => ∃ i, xs = [.int i] ∧ i.natAbs.log2 < 1920 ∧ Q (.str (toString i)) H) fStr := fun vs ds H μ M QD Q rs r h hq => by
  unfold fStr at h
  split at h
  · obtain ⟨v, rfl, r1⟩ := reps1 r
    cases r1
    exact ⟨_, rfl, h.1, hq _ H μ _ M rs.refl rs (.str _) h.2⟩
  · exact h.elim
/-- lists of ints, of truths -/
def insD : List D → Option (List Int)
  | [] => some []
  | .int i :: l => (insD l).map (i :: ·)
  | _ => none
def blsD : List D → Option (List Bool)
  | [] => some []
  | .bl i :: l => (blsD l).map (i :: ·)
  | _ => none
theorem ins_V {H : Hp} {μ : Mu} : ∀ {ds : List D} {vs : List V} {ns : List Int}, Reps K H μ vs ds → insD ds = some ns → vs = ns.map V.int
  | [], _, _, .nil, e => by cases e; rfl
  | .int i :: l, _, _, .cons r t, e => by
    simp only [insD, Option.map_eq_some_iff] at e
    obtain ⟨ns, e1, rfl⟩ := e
    cases r
    rw [List.map_cons, ins_V t e1]
  | .non :: l, _, _, _, e => by simp [insD] at e
  | .bl _ :: l, _, _, _, e => by simp [insD] at e
  | .str _ :: l, _, _, _, e => by simp [insD] at e
  | .tup _ :: l, _, _, _, e => by simp [insD] at e
  | .lst _ :: l, _, _, _, e => by simp [insD] at e
  | .fls _ :: l, _, _, _, e => by simp [insD] at e
  | .dct _ _ :: l, _, _, _, e => by simp [insD] at e
  | .han _ :: l, _, _, _, e => by simp [insD] at e
  | .ref _ :: l, _, _, _, e => by simp [insD] at e
  | .ty _ :: l, _, _, _, e => by simp [insD] at e
theorem bls_V {H : Hp} {μ : Mu} : ∀ {ds : List D} {vs : List V} {ns : List Bool}, Reps K H μ vs ds → blsD ds = some ns → vs = ns.map V.bl
  | [], _, _, .nil, e => by cases e; rfl
  | .bl i :: l, _, _, .cons r t, e => by
    simp only [blsD, Option.map_eq_some_iff] at e
    obtain ⟨ns, e1, rfl⟩ := e
    cases r
    rw [List.map_cons, bls_V t e1]
  | .non :: l, _, _, _, e => by simp [blsD] at e
  | .int _ :: l, _, _, _, e => by simp [blsD] at e
  | .str _ :: l, _, _, _, e => by simp [blsD] at e
  | .tup _ :: l, _, _, _, e => by simp [blsD] at e
  | .lst _ :: l, _, _, _, e => by simp [blsD] at e
  | .fls _ :: l, _, _, _, e => by simp [blsD] at e
  | .dct _ _ :: l, _, _, _, e => by simp [blsD] at e
  | .han _ :: l, _, _, _, e => by simp [blsD] at e
  | .ref _ :: l, _, _, _, e => by simp [blsD] at e
  | .ty _ :: l, _, _, _, e => by simp [blsD] at e
theorem insD_map (ns : List Int) : insD (ns.map D.int) = some ns := by
  induction ns with
  | nil => rfl
  | cons x r ih => simp [insD, ih]
theorem blsD_map (ns : List Bool) : blsD (ns.map D.bl) = some ns := by
  induction ns with
  | nil => rfl
  | cons x r ih => simp [blsD, ih]
def fSum : FC
  | [d], M, Q => ∃ l ns, lsD d M = some l ∧ insD l = some ns ∧ Q (.int ns.sum) M
  | _, _, _ => False
theorem ok_sum : OkC K (rSum K) fSum := fun vs ds H μ M QD Q rs r h hq => by
  unfold fSum at h
  split at h
  · obtain ⟨v, rfl, r1⟩ := reps1 r
    obtain ⟨l, ns, h1, h2, h3⟩ := h
    obtain ⟨a, ws, rfl, e1, rr⟩ := r1.ls rs h1
    have ew := ins_V rr h2
    subst ew
    exact ⟨a, ns, rfl, .of e1, hq _ H μ _ M rs.refl rs (.int _) h3⟩
  · exact h.elim
def fAny : FC
  | [d], M, Q => ∃ l bs, lsD d M = some l ∧ blsD l = some bs ∧ Q (.bl (bs.any id)) M
  | _, _, _ => False
theorem ok_any : OkC K (rAny K) fAny := fun vs ds H μ M QD Q rs r h hq => by
  unfold fAny at h
  split at h
  · obtain ⟨v, rfl, r1⟩ := reps1 r
    obtain ⟨l, ns, h1, h2, h3⟩ := h
    obtain ⟨a, ws, rfl, e1, rr⟩ := r1.ls rs h1
    have ew := bls_V rr h2
    subst ew
    exact ⟨a, ns, rfl, .of e1, hq _ H μ _ M rs.refl rs (.bl _) h3⟩
  · exact h.elim
def fAll : FC
  | [d], M, Q => ∃ l bs, lsD d M = some l ∧ blsD l = some bs ∧ Q (.bl (bs.all id)) M
  | _, _, _ => False
theorem ok_all : OkC K (rAll K) fAll := fun vs ds H μ M QD Q rs r h hq => by
  unfold fAll at h
  split at h
  · obtain ⟨v, rfl, r1⟩ := reps1 r
    obtain ⟨l, ns, h1, h2, h3⟩ := h
    obtain ⟨a, ws, rfl, e1, rr⟩ := r1.ls rs h1
    have ew := bls_V rr h2
    subst ew
    exact ⟨a, ns, rfl, .of e1, hq _ H μ _ M rs.refl rs (.bl _) h3⟩
  · exact h.elim
def fTuple : FC
  | [d], M, Q => ∃ l, sqD d M = some l ∧ Q (.tup l) M
  | _, _, _ => False
theorem ok_tuple : OkC K (fun xs H Q => ∃ p ys, xs = [.ref p] ∧ ((SqL K H p ys ∧ ∀ l, H l = none → Q (.ref l) (upd H l (.tup ys))) ∨ (SqT K H p ys ∧ Q (.ref p) H))) fTuple := fun vs ds H μ M QD Q rs r h hq => by
  unfold fTuple at h
  split at h
  · obtain ⟨v, rfl, r1⟩ := reps1 r
    obtain ⟨l, h1, h2⟩ := h
    obtain ⟨p, vs, rfl, hs, rr⟩ := r1.sq rs h1
    refine ⟨p, vs, rfl, ?_⟩
    rcases hs with hs | hs
    · exact .inl ⟨hs, fun q hp => fin_tup rs hq rr h2 hp⟩
    · exact .inr ⟨hs, hq _ H μ _ M rs.refl rs (.tup hs rr) h2⟩
  · exact h.elim
/-- a call that makes a list -/
abbrev FCL := List D → Me → (List D → Me → Prop) → Prop
def wCBF (f : FCL) (wr : WA) : WFr := fun env M Q E => wr env M (fun ds M1 => f ds M1 Q) E
def OkCF (K : PySem.W.Frag) (r : List V → Hp → VK → Prop) (f : FCL) : Prop := ∀ (vs : List V) (ds : List D) (H : Hp) (μ : Mu) (M : Me) (QD : List D → Me → Prop) (Q : VK), RelS K H μ M → Reps K H μ vs ds → f ds M QD →
  (∀ (p : Addr) (ws : List V) (es : List D), H p = none → Reps K H μ ws es → QD es M → Q (.ref p) (upd H p (.lst ws))) → r vs H Q
theorem tCB_F {r : List V → Hp → VK → Prop} {f : FCL} (hf : OkCF K r f) {σ : L2.St} {H : Hp} {Q : VK} (h : tF K W (wCBF f wr) σ H Q) : tCB r (tDA K W wr) σ H Q := by
  obtain ⟨env, μ, M, QD, ED, re, rs, hw, hq, hx⟩ := h
  refine ⟨env, μ, M, _, ED, re, rs, hw, fun vs H1 μ1 ds M1 k1 rs1 r1 q1 => ?_, hx⟩
  exact hf vs ds H1 μ1 M1 QD Q rs1 r1 q1 fun p ws es hp rr qq => fin_lst (σ := σ) hq k1 rs1 rr qq (p := p) (hp := hp) (hp0 := none_of_keep k1 rs1 hp)
def fList : FCL
  | [d], M, Q => ∃ l, sqD d M = some l ∧ Q l M
  | _, _, _ => False
theorem ok_list : OkCF K (fun xs H Q => ∃ p ys, xs = [.ref p] ∧ (SqL K H p ys ∨ SqT K H p ys) ∧ ∀ l, H l = none → Q (.ref l) (upd H l (.lst ys))) fList := fun vs ds H μ M QD Q rs r h hq => by
  unfold fList at h
  split at h
  · obtain ⟨v, rfl, r1⟩ := reps1 r
    obtain ⟨l, h1, h2⟩ := h
    obtain ⟨p, vs, rfl, hs, rr⟩ := r1.sq rs h1
    exact ⟨p, vs, rfl, hs, fun q hp => hq q _ _ hp rr h2⟩
  · exact h.elim
/-- isinstance, a built-in class -/
inductive T7 where
  | bool | int | str | tuple | list | dict
def T7.nm : T7 → String
  | .bool => "bool" | .int => "int" | .str => "str" | .tuple => "tuple" | .list => "list" | .dict => "dict"
/-- whether it has a type that is told -/
def hasT : D → Bool
  | .ref _ => false
  | .ty _ => false
  | .exc _ => false
  | _ => true
def isT : T7 → D → Bool
  | .bool, .bl _ => true
  | .int, .int _ => true
  | .int, .bl _ => true
  | .str, .str _ => true
  | .tuple, .tup _ => true
  | .list, .lst _ => true
  | .list, .fls _ => true
  | .list, .han _ => true
  | .dict, .dct _ _ => true
  | .dict, .dh _ => true
  | _, _ => false
def tyN : D → String
  | .non => "NoneType" | .bl _ => "bool" | .int _ => "int" | .str _ => "str" | .tup _ => "tuple" | .dct _ _ => "dict" | .dh _ => "dict" | _ => "list"
def isN : T7 → String → Bool
  | .bool, n => n == "bool"
  | .int, n => n == "int" || n == "bool"
  | .str, n => n == "str"
  | .tuple, n => n == "tuple"
  | .list, n => n == "list"
  | .dict, n => n == "dict"
theorem kit_tab : (["NoneType", "bool", "int", "str", "tuple", "dict", "list"].all fun n => [T7.bool, .int, .str, .tuple, .list, .dict].all fun T => decide (kitB n T.nm = some (isN T n))) = true := by decide +kernel
theorem kit_at (T : T7) (d : D) : kitB (tyN d) T.nm = some (isN T (tyN d)) := by
  have h1 : tyN d ∈ ["NoneType", "bool", "int", "str", "tuple", "dict", "list"] := by cases d <;> simp [tyN]
  have h2 : T ∈ [T7.bool, .int, .str, .tuple, .list, .dict] := by cases T <;> simp
  exact of_decide_eq_true (List.all_eq_true.mp (List.all_eq_true.mp kit_tab _ h1) _ h2)
theorem isN_eq (T : T7) (d : D) (h : hasT d = true) : isN T (tyN d) = isT T d := by
  cases d <;> first | (cases h; done) | (cases T <;> rfl)
theorem tyx_of {H : Hp} {μ : Mu} {M : Me} {v : V} {d : D} (rs : RelS K H μ M) (r : Rep K H μ v d) (h : hasT d = true) : TyX K H v (.type (tyN d)) := by
  cases r with
  | non => exact .base .non
  | bl b => exact .base (.bl b)
  | int i => exact .base (.int i)
  | str x => exact .base (.str x)
  | ty n => cases h
  | ref a => cases h
  | exc _ => cases h
  | tup hs rr =>
    rcases hs with (hs | ⟨o, hs⟩) | ⟨o, its, n, e, c, _⟩
    · exact .base (.tup hs)
    · exact .fTuple hs
    · exact .kTuple e c
  | lst hs _ _ rr => exact .base (.lst hs)
  | fix hs rr =>
    rcases hs with ⟨o, hs⟩ | ⟨o, its, n, e, c, _⟩
    · exact .base (.frz hs)
    · exact .kList e c
  | dct hs _ rr => exact .base (.dK hs)
  | han hm hk =>
    rename_i h a
    cases e : H a with
    | none => rw [e] at hk; cases hk
    | some o =>
      cases o with
      | lst xs => exact .base (.lst e)
      | _ => rw [e] at hk; cases hk
  | dh hm hk =>
    rename_i h a
    cases e : H a with
    | none => rw [e] at hk; cases hk
    | some o =>
      cases o with
      | dK xs => exact .base (.dK e)
      | dT xs => exact .base (.dT e)
      | _ => rw [e] at hk; cases hk
def T7.of : String → Option T7
  | "bool" => some .bool | "int" => some .int | "str" => some .str | "tuple" => some .tuple | "list" => some .list | "dict" => some .dict | _ => none
/-- isinstance(a, T) -/
def wIsi (T : T7) (wa : WE) : WE := fun env M Q E => wa env M (fun d M1 => hasT d = true ∧ Q (.bl (isT T d)) M1) E
theorem de_isi {T : T7} {q r : Pos} (hg : Gl X "isinstance") (hm : X.mg "isinstance" = none) (hg2 : Gl X x) (hm2 : X.mg x = none) (hx : x = Str.ofString T.nm) (ha : DE X W a wa)
    (he : starEach [a, .Name x r] X.env = (false, eval a X.env) :: starEach [.Name x r] X.env := by rfl) :
    DE X W (.Call (.Name "isinstance" q) [a, .Name x r] [] pos) (wIsi T wa) := by
  have hb : bootBuiltins x = some (.type T.nm) := by subst hx; cases T <;> decide +kernel
  have hn : x ≠ "__name__" := by subst hx; cases T <;> decide
  have hd : (x == ("__debug__" : Str)) = false := by subst hx; cases T <;> decide
  have h2 := pa_cons ha.pe (pa_cons (pe_bltn hg2 hm2 hb (show RelV (.ty T.nm) (.type T.nm) from rfl) hn hd (pos := r)) pa_nil) he
  refine ⟨pe_mono (pe_callB call_isi hg hm (by decide +kernel) h2 (by decide) (by decide) he (by rfl)) fun σ H Q ⟨env, μ, M, QD, ED, re, rs, hw, hq, hx⟩ => ?_⟩
  refine ⟨env, μ, M, _, ED, re, rs, hw, fun v H1 μ1 d M1 k1 rs1 r1 q1 => ?_, hx⟩
  refine ⟨v, .ty T.nm, .type (tyN d), .type T.nm, _, rfl, .ty _, tyx_of rs1 r1 q1.1, kit_ty (kit_at T d), ?_⟩
  rw [isN_eq T d q1.1]
  exact hq _ H1 μ1 _ M1 k1 rs1 (.bl _) q1.2
/-- isinstance(a, (T1, T2)) -/
def wIsi2 (T1 T2 : T7) (wa : WE) : WE := fun env M Q E => wa env M (fun d M1 => hasT d = true ∧ Q (.bl (isT T1 d || isT T2 d)) M1) E
theorem de_isi2 {T1 T2 : T7} {y : Str} {q r r2 r3 : Pos} {k : Nat} (hg : Gl X "isinstance") (hm : X.mg "isinstance" = none) (hg1 : Gl X x) (hm1 : X.mg x = none) (hx1 : x = Str.ofString T1.nm) (hg2 : Gl X y) (hm2 : X.mg y = none) (hx2 : y = Str.ofString T2.nm) (ha : DE X W a wa)
    (he : starEach [a, .Tuple [.Name x r, .Name y r2] k r3] X.env = (false, eval a X.env) :: starEach [.Tuple [.Name x r, .Name y r2] k r3] X.env := by rfl) :
    DE X W (.Call (.Name "isinstance" q) [a, .Tuple [.Name x r, .Name y r2] k r3] [] pos) (wIsi2 T1 T2 wa) := by
  have bb : ∀ (T : T7) (z : Str), z = Str.ofString T.nm → bootBuiltins z = some (.type T.nm) ∧ z ≠ "__name__" ∧ (z == ("__debug__" : Str)) = false := fun T z hz => by
    subst hz; cases T <;> exact ⟨by decide +kernel, by decide, by decide⟩
  obtain ⟨b1, n1, d1⟩ := bb T1 x hx1
  obtain ⟨b2, n2, d2⟩ := bb T2 y hx2
  have h2 := pa_cons ha.pe (pa_cons (pe_tup (x1 := k) (pos := r3) (pa_cons (pe_bltn hg1 hm1 b1 (show RelV (.ty T1.nm) (.type T1.nm) from rfl) n1 d1 (pos := r)) (pa_cons (pe_bltn hg2 hm2 b2 (show RelV (.ty T2.nm) (.type T2.nm) from rfl) n2 d2 (pos := r2)) pa_nil))) pa_nil) he
  refine ⟨pe_mono (pe_callB call_isiT hg hm (by decide +kernel) h2 (by decide) (by decide) he (by rfl)) fun σ H Q ⟨env, μ, M, QD, ED, re, rs, hw, hq, hx⟩ => ?_⟩
  refine ⟨env, μ, M, _, ED, re, rs, hw, fun v H1 μ1 d M1 k1 rs1 r1 q1 => ?_, hx⟩
  refine ⟨by show 2 ≤ sizeLine; decide, fun p hp => ?_⟩
  obtain ⟨k', rs'⟩ := rs1.lay (o := .tup [.ty T1.nm, .ty T2.nm]) hp
  refine ⟨v, p, [.ty T1.nm, .ty T2.nm], .type (tyN d), [.type T1.nm, .type T2.nm], isT T1 d || isT T2 d, rfl, upd_same, .cons (.ty _) (.cons (.ty _) .nil), tyx_of rs' (r1.keep k') q1.1, ?_, hq _ _ μ1 _ M1 (k1.trans k') rs' (.bl _) q1.2⟩
  have e1 := kit_ty (K := X.K) (kit_at T1 d)
  have e2 := kit_ty (K := X.K) (kit_at T2 d)
  rw [isN_eq T1 d q1.1] at e1
  rw [isN_eq T2 d q1.1] at e2
  refine kitAny_cons e1 (fun z => ?_) (fun z => by rw [z]; rfl)
  refine kitAny_cons e2 (fun z' => ?_) (fun z' => by rw [z']; simp)
  rw [z, z']
  exact kitAny_nil
/-! ## calls of the text's own defs -/
abbrev WF := List D → Me → (D → Me → Prop) → (EX → Me → Prop) → Prop
def spD (K : PySem.W.Frag) (n : Nat) (wf : WF) : Sp := fun vs H Q E => ∃ (ds : List D) (μ : Mu) (M : Me) (QD : D → Me → Prop) (ED : EX → Me → Prop), Reps K H μ vs ds ∧ RelS K H μ M ∧ ds.length = n ∧ wf ds M QD ED ∧
  (∀ (v : V) (H' : Hp) (μ' : Mu) (d : D) (M' : Me), Keep H μ H' μ' → RelS K H' μ' M' → Rep K H' μ' v d → QD d M' → Q v H') ∧
  (∀ (cls : Value) (a : Option Addr) (H' : Hp) (μ' : Mu) (x : EX) (M' : Me), Keep H μ H' μ' → RelS K H' μ' M' → XRep K H' μ' cls a x → ED x M' → E cls a H')
/-- a def of the text that keeps its promise wf, at level k -/
def DCal (P : Program) (w : World) (K : PySem.W.Frag) (mg : Str → Option Value) (base : Heap) (k : Nat) (x : Str) (n : Nat) (wf : WF) : Prop :=
  ∃ (f : Addr) (fd : FuncData) (ps : List Str), mg x = some (.ref f) ∧ PySem.W.keepIn K (.ref f) = true ∧ Binds K fd ps [] ∧ ps.length = n ∧ FnOk P w K mg base (L2N.CX P w) k f fd ps (spD K n wf)
def wCall (n : Nat) (wf : WF) (wr : WA) : WE := fun env M Q E => wr env M (fun ds M1 => ds.length = n ∧ wf ds M1 Q E) E
theorem de_call {k j n : Nat} {wf : WF} (c : DCal X.prog X.w X.K X.mg X.base k x n wf) (hr : Room j X.A) (hk : k ≤ j) (hg : Gl X x) (tk : L2N.Takes X W) (ha : DA X W (e :: es) wr) (hdb : (x == ("__debug__" : Str)) = false)
    (he : starEach (e :: es) X.env = (false, eval e X.env) :: starEach es X.env := by rfl) (hpl : (backTo pos (starEach es X.env)).any (·.1) = false := by rfl) : DE X W (.Call (.Name x p) (e :: es) [] pos) (wCall n wf wr) := by
  obtain ⟨f, fd, ps, hm, hkp, hb, hn, F⟩ := c
  refine ⟨pe_mono (pe_callS F (hr.mono hk) hg hm hkp hb (fun σ => L2N.passAt tk σ) ha.pa hdb he hpl) fun σ H Q ⟨env, μ, M, QD, ED, re, rs, hw, hq, hx⟩ => ?_⟩
  refine ⟨env, μ, M, _, ED, re, rs, hw, fun vs H1 μ1 ds M1 k1 rs1 r1 q1 => ?_, hx⟩
  exact ⟨ds, μ1, M1, QD, ED, r1, rs1, q1.1, q1.2, fun v H' μ' d M' k' => hq v H' μ' d M' (k1.trans k'), fun cls a H' μ' y M' k' => hx cls a H' μ' y M' (k1.trans k')⟩
end
end DL

namespace DL
open PySem PySem.Spec PyProof.Rows L2

/-! ## statements -/
structure EndD where
  nx : En → Me → Prop
  rt : D → Me → Prop
  bk : En → Me → Prop
  ct : En → Me → Prop
  ex : EX → En → Me → Prop
abbrev WS := En → Me → EndD → Prop
structure EndOk (K : PySem.W.Frag) (W : WX) (H : Hp) (μ : Mu) (D' : Ends) (DD : EndD) : Prop where
  nx : ∀ (σ : L2.St) (H' : Hp) (μ' : Mu) (env : En) (M' : Me), Keep H μ H' μ' → RelE K H' μ' σ env → RelS K H' μ' M' → DD.nx env M' → D'.nx σ H'
  rt : ∀ (v : V) (H' : Hp) (μ' : Mu) (d : D) (M' : Me), Keep H μ H' μ' → RelS K H' μ' M' → Rep K H' μ' v d → DD.rt d M' → D'.rt v H'
  bk : ∀ (σ : L2.St) (H' : Hp) (μ' : Mu) (env : En) (M' : Me), Keep H μ H' μ' → RelE K H' μ' σ env → RelS K H' μ' M' → DD.bk env M' → D'.bk σ H'
  ct : ∀ (σ : L2.St) (H' : Hp) (μ' : Mu) (env : En) (M' : Me), Keep H μ H' μ' → RelE K H' μ' σ env → RelS K H' μ' M' → DD.ct env M' → D'.ct σ H'
  ex : ∀ (cls : Value) (a : Option Addr) (σ : L2.St) (H' : Hp) (μ' : Mu) (x : EX) (env : En) (M' : Me), Keep H μ H' μ' → RelE K H' μ' σ env → RelS K H' μ' M' → XRep K H' μ' cls a x → DD.ex x env M' → W cls a σ H'
theorem EndOk.keep {K : PySem.W.Frag} {W : WX} {H H1 : Hp} {μ μ1 : Mu} {D' : Ends} {DD : EndD} (o : EndOk K W H μ D' DD) (k : Keep H μ H1 μ1) : EndOk K W H1 μ1 D' DD where
  nx := fun σ H' μ' env M' k' => o.nx σ H' μ' env M' (k.trans k')
  rt := fun v H' μ' d M' k' => o.rt v H' μ' d M' (k.trans k')
  bk := fun σ H' μ' env M' k' => o.bk σ H' μ' env M' (k.trans k')
  ct := fun σ H' μ' env M' k' => o.ct σ H' μ' env M' (k.trans k')
  ex := fun cls a σ H' μ' x env M' k' => o.ex cls a σ H' μ' x env M' (k.trans k')
theorem EndOk.xe {K : PySem.W.Frag} {W : WX} {H : Hp} {μ : Mu} {D' : Ends} {DD : EndD} (o : EndOk K W H μ D' DD) {σ : L2.St} {env : En} (re : RelE K H μ σ env) : XE_ K W σ H μ (fun x M => DD.ex x env M) :=
  fun cls a H' μ' x M' k rs r q => o.ex cls a σ H' μ' x env M' k (re.keep k) rs r q
def tS (K : PySem.W.Frag) (W : WX) (w : WS) : TS := fun D' σ H => ∃ (env : En) (μ : Mu) (M : Me) (DD : EndD), RelE K H μ σ env ∧ RelS K H μ M ∧ w env M DD ∧ EndOk K W H μ D' DD
structure DS (X : Cx) (W : WX) (s : Stmt) (w : WS) : Prop where
  ps : PS X s (tS X.K W w)
structure DB (X : Cx) (W : WX) (s : List Stmt) (w : WS) : Prop where
  pss : PSs X s (tS X.K W w)
section
variable {X : Cx} {W : WX} {a b c e : Expr} {es : List Expr} {wa wb wc we : WE} {wr : WA} {pos p : Pos} {x : Str} {K : PySem.W.Frag} {st : Stmt} {rest : List Stmt} {t u : WS}
def wNext : WS := fun env M DD => DD.nx env M
def wSeq (t u : WS) : WS := fun env M DD => t env M { DD with nx := fun env1 M1 => u env1 M1 DD }
theorem db_nil : DB X W [] wNext := ⟨pss_mono pss_nil fun D' σ H ⟨env, μ, M, DD, re, rs, hw, o⟩ => o.nx σ H μ env M rs.refl re rs hw⟩
theorem db_one (h : DS X W st t) : DB X W [st] t := ⟨pss_one h.ps⟩
theorem db_cons (h1 : DS X W st t) (h2 : DB X W rest u) : DB X W (st :: rest) (wSeq t u) := by
  refine ⟨pss_mono (pss_cons h1.ps h2.pss) fun D' σ H ⟨env, μ, M, DD, re, rs, hw, o⟩ => ⟨env, μ, M, _, re, rs, hw, ?_⟩⟩
  exact ⟨fun σ1 H1 μ1 env1 M1 k1 re1 rs1 q1 => ⟨env1, μ1, M1, DD, re1, rs1, q1, o.keep k1⟩, o.rt, o.bk, o.ct, o.ex⟩
def wBrk : WS := fun env M DD => DD.bk env M
def wCnt : WS := fun env M DD => DD.ct env M
theorem ds_pass : DS X W (.Pass pos) wNext := ⟨ps_mono ps_pass fun D' σ H ⟨env, μ, M, DD, re, rs, hw, o⟩ => o.nx σ H μ env M rs.refl re rs hw⟩
theorem ds_break : DS X W (.Break pos) wBrk := ⟨ps_mono ps_break fun D' σ H ⟨env, μ, M, DD, re, rs, hw, o⟩ => o.bk σ H μ env M rs.refl re rs hw⟩
theorem ds_continue : DS X W (.Continue pos) wCnt := ⟨ps_mono ps_continue fun D' σ H ⟨env, μ, M, DD, re, rs, hw, o⟩ => o.ct σ H μ env M rs.refl re rs hw⟩
def wRet (we : WE) : WS := fun env M DD => we env M DD.rt (fun x M => DD.ex x env M)
theorem ds_ret (h : DE X W e we) : DS X W (.Return (some e) pos) (wRet we) := ⟨ps_mono (ps_ret h.pe) fun D' σ H ⟨env, μ, M, DD, re, rs, hw, o⟩ => ⟨env, μ, M, _, _, re, rs, hw, o.rt, o.xe re⟩⟩
def wRetN : WS := fun _ M DD => DD.rt .non M
theorem ds_retN : DS X W (.Return none pos) wRetN := ⟨ps_mono ps_retN fun D' σ H ⟨env, μ, M, DD, re, rs, hw, o⟩ => o.rt .non H μ .non M rs.refl rs .non hw⟩
def wDrop (we : WE) : WS := fun env M DD => we env M (fun _ M1 => DD.nx env M1) (fun x M => DD.ex x env M)
theorem ds_expr (h : DE X W e we) (hs : swapsWith e none pos.line X.env = pure false := by rfl) : DS X W (.Expr e pos) (wDrop we) :=
  ⟨ps_mono (ps_expr h.pe hs) fun D' σ H ⟨env, μ, M, DD, re, rs, hw, o⟩ => ⟨env, μ, M, _, _, re, rs, hw, fun v H1 μ1 d M1 k1 rs1 _ q1 => o.nx σ H1 μ1 env M1 k1 (re.keep k1) rs1 q1, o.xe re⟩⟩
def wIf (c : WT) (t u : WS) : WS := fun env M DD => c env M (fun k M1 => if k = true then t env M1 DD else u env M1 DD) (fun x M => DD.ex x env M)
theorem ds_if {wt : WT} {s1 s2 : List Stmt} (hc : DT X W c wt) (ha : DB X W s1 t) (hb : DB X W s2 u) : DS X W (.If c s1 s2 pos) (wIf wt t u) := by
  refine ⟨ps_mono (ps_if hc.pt ha.pss hb.pss) fun D' σ H ⟨env, μ, M, DD, re, rs, hw, o⟩ => ⟨env, μ, M, _, _, re, rs, hw, fun k H1 μ1 M1 k1 rs1 q1 => ?_, o.xe re⟩⟩
  cases k with
  | true =>
    rw [if_pos rfl] at q1 ⊢
    exact ⟨env, μ1, M1, DD, re.keep k1, rs1, q1, o.keep k1⟩
  | false =>
    rw [if_neg Bool.false_ne_true] at q1 ⊢
    exact ⟨env, μ1, M1, DD, re.keep k1, rs1, q1, o.keep k1⟩
/-! ### assignments -/
def wSet (i : Nat) (we : WE) : WS := fun env M DD => we env M (fun d M1 => DD.nx (env.set i (some d)) M1) (fun x M => DD.ex x env M)
/-- the facts of a name that is stored -/
structure Lc (N : List Str) (sc : Scope) (i : Nat) (x : Str) : Prop where
  hN : N[i]? = some x
  hx : Loc sc x
theorem ds_set {i : Nat} {pos' : Pos} (hN : X.N.Nodup) (l : Lc X.N X.env.scope i x) (he : DE X W e we) (hs : swapsWith e (some (.Name x pos')) pos.line X.env = pure false := by rfl) (hf : X.fn x = true ∨ X.env.scope.names.lookup x = some .local := by first | exact .inl rfl | exact .inr rfl | assumption) :
    DS X W (.Assign [.Name x pos'] e pos) (wSet i we) := by
  refine ⟨ps_mono (ps_set hN l.hN l.hx he.pe hs hf) fun D' σ H ⟨env, μ, M, DD, re, rs, hw, o⟩ => ⟨env, μ, M, _, _, re, rs, hw, fun v H1 μ1 d M1 k1 rs1 r1 q1 => ?_, o.xe re⟩⟩
  exact o.nx _ H1 μ1 _ M1 k1 ((re.keep k1).set i r1) rs1 q1
/-- a target; the slots that it may store -/
abbrev WG := D → En → Me → (En → Me → Prop) → Prop
def Apart (is : List Nat) (σ σ' : L2.St) : Prop := σ'.length = σ.length ∧ ∀ j, j ∉ is → σ'[j]? = σ[j]?
def tDG (K : PySem.W.Frag) (is : List Nat) (w : WG) : TG := fun v σ H Q => ∃ (env : En) (μ : Mu) (M : Me) (d : D) (QD : En → Me → Prop), RelE K H μ σ env ∧ RelS K H μ M ∧ Rep K H μ v d ∧ w d env M QD ∧
  (∀ (σ' : L2.St) (H' : Hp) (μ' : Mu) (env' : En) (M' : Me), Apart is σ σ' → Keep H μ H' μ' → RelE K H' μ' σ' env' → RelS K H' μ' M' → QD env' M' → Q σ' H')
structure DG (X : Cx) (e : Expr) (is : List Nat) (w : WG) : Prop where
  pg : PG X e (tDG X.K is w)
def gSet (i : Nat) : WG := fun d env M Q => Q (env.set i (some d)) M
theorem dg_name {i : Nat} (hN : X.N.Nodup) (hNi : X.N[i]? = some x) (hL : Loc X.env.scope x) (hf : X.fn x = true ∨ X.env.scope.names.lookup x = some .local := by first | exact .inl rfl | exact .inr rfl | assumption) : DG X (.Name x pos) [i] (gSet i) :=
  ⟨pg_mono (pg_name hN hNi hL hf) fun v σ H Q ⟨env, μ, M, d, QD, re, rs, r, hw, hq⟩ => hq _ H μ _ M ⟨by simp, fun j hj => List.getElem?_set_ne (fun z => hj (by simp [z]))⟩ rs.refl (re.set i r) rs hw⟩
abbrev WGs := List D → En → Me → (En → Me → Prop) → Prop
def tDGs (K : PySem.W.Frag) (is : List Nat) (w : WGs) : TGs := fun vs σ H Q => ∃ (env : En) (μ : Mu) (M : Me) (ds : List D) (QD : En → Me → Prop), RelE K H μ σ env ∧ RelS K H μ M ∧ Reps K H μ vs ds ∧ w ds env M QD ∧
  (∀ (σ' : L2.St) (H' : Hp) (μ' : Mu) (env' : En) (M' : Me), Apart is σ σ' → Keep H μ H' μ' → RelE K H' μ' σ' env' → RelS K H' μ' M' → QD env' M' → Q σ' H')
structure DGs (X : Cx) (e : List Expr) (is : List Nat) (w : WGs) : Prop where
  pg : PGs X e (tDGs X.K is w)
theorem pgs_mono {X : Cx} {e : List Expr} {t t' : TGs} (h : PGs X e t) (m : ∀ v σ H Q, t' v σ H Q → t v σ H Q) : PGs X e t' := ⟨fun pins s σ H v u Q I r q => h.run pins s σ H v u Q I r (m _ _ _ _ q)⟩
def gN : WGs
  | [], env, M, Q => Q env M
  | _, _, _, _ => False
def gC (g : WG) (gs : WGs) : WGs
  | d :: ds, env, M, Q => g d env M fun env1 M1 => gs ds env1 M1 Q
  | _, _, _, _ => False
theorem dgs_nil : DGs X [] [] gN := by
  refine ⟨pgs_mono pgs_nil fun v σ H Q ⟨env, μ, M, ds, QD, re, rs, r, hw, hq⟩ => ?_⟩
  cases r with
  | nil => exact ⟨rfl, hq σ H μ env M ⟨rfl, fun _ _ => rfl⟩ rs.refl re rs hw⟩
  | cons _ _ => exact hw.elim
theorem Apart.trans {is js : List Nat} {σ σ1 σ2 : L2.St} (a : Apart is σ σ1) (b : Apart js σ1 σ2) : Apart (is ++ js) σ σ2 :=
  ⟨b.1.trans a.1, fun j hj => (b.2 j fun z => hj (List.mem_append_right _ z)).trans (a.2 j fun z => hj (List.mem_append_left _ z))⟩
theorem dgs_cons {g : WG} {gs : WGs} {is js : List Nat} (h1 : DG X e is g) (h2 : DGs X es js gs) (hs : (assignEach (e :: es) X.env).map (·.2) = assign e X.env :: (assignEach es X.env).map (·.2) := by rfl) : DGs X (e :: es) (is ++ js) (gC g gs) := by
  refine ⟨pgs_mono (pgs_cons h1.pg h2.pg hs) fun v σ H Q ⟨env, μ, M, ds, QD, re, rs, r, hw, hq⟩ => ?_⟩
  cases r with
  | nil => exact hw.elim
  | cons r t =>
    refine ⟨_, _, rfl, env, μ, M, _, _, re, rs, r, hw, fun σ1 H1 μ1 env1 M1 a1 k1 re1 rs1 q1 => ?_⟩
    exact ⟨env1, μ1, M1, _, QD, re1, rs1, t.keep k1, q1, fun σ' H' μ' env' M' a2 k' => hq σ' H' μ' env' M' (a1.trans a2) (k1.trans k')⟩
/-- (a, b, ..) = a tuple -/
def gTupD (n : Nat) (gs : WGs) : WG
  | .tup l, env, M, Q => l.length = n ∧ gs l env M Q
  | _, _, _, _ => False
theorem dg_tup {k n : Nat} {gs : WGs} {is : List Nat} (hc : X.calm = true) (h : DGs X es is gs) (hn : (assignEach es X.env).length = n := by rfl) (hst : (assignEach es X.env).findIdx? (·.1) = none := by rfl) : DG X (.Tuple es k pos) is (gTupD n gs) := by
  refine ⟨pg_mono (pg_tup hc h.pg hn hst) fun v σ H Q ⟨env, μ, M, d, QD, re, rs, r, hw, hq⟩ => ?_⟩
  cases d with
  | tup l' =>
    obtain ⟨a, vs, rfl, h1, rr⟩ := r.tup_
    exact ⟨a, vs, rfl, h1, by rw [rr.length, hw.1], env, μ, M, _, QD, re, rs, rr, hw.2, hq⟩
  | _ => exact hw.elim
/-- target = e -/
def wAsg (we : WE) (g : WG) : WS := fun env M DD => we env M (fun d M1 => g d env M1 DD.nx) (fun x M => DD.ex x env M)
theorem ds_asg {tg : Expr} {g : WG} {is : List Nat} (he : DE X W e we) (hg : DG X tg is g) (hs : swapsWithSole [tg] e pos.line X.env = pure false := by rfl) (hw : swappedStores [tg] e X.env = pure none := by rfl)
    (h1 : (assignEach [tg] X.env).map (·.2) = [assign tg X.env] := by rfl) : DS X W (.Assign [tg] e pos) (wAsg we g) := by
  refine ⟨ps_mono (ps_asg he.pe hg.pg hs hw h1) fun D' σ H ⟨env, μ, M, DD, re, rs, hw, o⟩ => ⟨env, μ, M, _, _, re, rs, hw, fun v H1 μ1 d M1 k1 rs1 r1 q1 => ?_, o.xe re⟩⟩
  exact ⟨env, μ1, M1, d, _, re.keep k1, rs1, r1, q1, fun σ' H' μ' env' M' _ k' => o.nx σ' H' μ' env' M' (k1.trans k')⟩
/-- a, b = e1, e2 -/
def wPar (i j : Nat) (wr : WA) : WS := fun env M DD => wr env M (fun ds M1 => match ds with | [d, e] => DD.nx ((env.set i (some d)).set j (some e)) M1 | _ => False) (fun x M => DD.ex x env M)
theorem ds_par {i j : Nat} {x y : Str} {px py pt : Pos} {kt k2 pt2} (hc : X.calm = true) (hN : X.N.Nodup) (hi : X.N[i]? = some x) (hj : X.N[j]? = some y) (hij : i ≠ j)
    (hx : X.env.scope.names.lookup x = some .local) (hy : X.env.scope.names.lookup y = some .local) (ha : DA X W [a, b] wr)
    (hw : swappedStores [.Tuple [.Name x px, .Name y py] kt pt] (.Tuple [a, b] k2 pt2) X.env = pure (some [x, y]))
    (hs : swapsWithSole [.Tuple [.Name x px, .Name y py] kt pt] (.Tuple [a, b] k2 pt2) pos.line X.env = pure false := by rfl) :
    DS X W (.Assign [.Tuple [.Name x px, .Name y py] kt pt] (.Tuple [a, b] k2 pt2) pos) (wPar i j wr) := by
  refine ⟨ps_mono (ps_par hc hN hi hj hij hx hy ha.pa hw hs) fun D' σ H ⟨env, μ, M, DD, re, rs, hw, o⟩ => ⟨env, μ, M, _, _, re, rs, hw, fun vs H1 μ1 ds M1 k1 rs1 r1 q1 => ?_, o.xe re⟩⟩
  match ds, q1 with
  | [d, f], q1 =>
    obtain ⟨v, u, rfl, r1, r2⟩ := reps2 r1
    exact ⟨v, u, rfl, o.nx _ H1 μ1 _ M1 k1 (((re.keep k1).set i r1).set j r2) rs1 q1⟩
def wPar3 (i j l : Nat) (wr : WA) : WS := fun env M DD => wr env M (fun ds M1 => match ds with | [d, e, f] => DD.nx (((env.set i (some d)).set j (some e)).set l (some f)) M1 | _ => False) (fun x M => DD.ex x env M)
theorem reps3 {H : Hp} {μ : Mu} {vs : List V} {d e f : D} (r : Reps K H μ vs [d, e, f]) : ∃ v u t, vs = [v, u, t] ∧ Rep K H μ v d ∧ Rep K H μ u e ∧ Rep K H μ t f := by
  cases r with
  | cons r1 t1 =>
    obtain ⟨u, t, rfl, r2, r3⟩ := reps2 t1
    exact ⟨_, u, t, rfl, r1, r2, r3⟩
theorem ds_par3 {i j l : Nat} {x y z : Str} {px py pz pt : Pos} {kt k2 pt2} (hc : X.calm = true) (hN : X.N.Nodup) (hi : X.N[i]? = some x) (hj : X.N[j]? = some y) (hl : X.N[l]? = some z) (hij : i ≠ j) (hil : i ≠ l) (hjl : j ≠ l)
    (hx : X.env.scope.names.lookup x = some .local) (hy : X.env.scope.names.lookup y = some .local) (hz : X.env.scope.names.lookup z = some .local) (ha : DA X W [a, b, c] wr)
    (hw : swappedStores [.Tuple [.Name x px, .Name y py, .Name z pz] kt pt] (.Tuple [a, b, c] k2 pt2) X.env = pure (some [x, y, z]))
    (hs : swapsWithSole [.Tuple [.Name x px, .Name y py, .Name z pz] kt pt] (.Tuple [a, b, c] k2 pt2) pos.line X.env = pure false := by rfl) :
    DS X W (.Assign [.Tuple [.Name x px, .Name y py, .Name z pz] kt pt] (.Tuple [a, b, c] k2 pt2) pos) (wPar3 i j l wr) := by
  refine ⟨ps_mono (ps_par3 hc hN hi hj hl hij hil hjl hx hy hz ha.pa hw hs) fun D' σ H ⟨env, μ, M, DD, re, rs, hw, o⟩ => ⟨env, μ, M, _, _, re, rs, hw, fun vs H1 μ1 ds M1 k1 rs1 r1 q1 => ?_, o.xe re⟩⟩
  match ds, q1 with
  | [d, f, g], q1 =>
    obtain ⟨v, u, t, rfl, r1, r2, r3⟩ := reps3 r1
    exact ⟨v, u, t, rfl, o.nx _ H1 μ1 _ M1 k1 ((((re.keep k1).set i r1).set j r2).set l r3) rs1 q1⟩
/-- o[i] = e, o a list at a handle -/
def wSetI (we wo wi : WE) : WS := fun env M DD => we env M (fun d M1 => wo env M1 (fun o M2 => wi env M2 (fun i M3 => match o, i with
  | .han h, .int k => ∃ l j, M3[h]? = some l ∧ ixN l.length k = some j ∧ DD.nx env (M3.set h (l.set j d))
  | _, _ => False) (fun x M => DD.ex x env M)) (fun x M => DD.ex x env M)) (fun x M => DD.ex x env M)
theorem ds_setI {o i : Expr} {wo wi : WE} {pt : Pos} (he : DE X W e we) (ho : DE X W o wo) (hi : DE X W i wi)
    (hh : ∀ v, assign (.Subscript o i pt) X.env v = (do
      let ov ← holding [v] (eval o X.env)
      let iv ← holding [v, ov] (eval i X.env)
      standAt pt
      holding [v, ov, iv] (setItem ov iv v)
      release [v, ov, iv] []) := by intro _; rfl)
    (hs : swapsWithSole [.Subscript o i pt] e pos.line X.env = pure false := by rfl) (hw : swappedStores [.Subscript o i pt] e X.env = pure none := by rfl)
    (h1 : (assignEach [.Subscript o i pt] X.env).map (·.2) = [assign (.Subscript o i pt) X.env] := by rfl) : DS X W (.Assign [.Subscript o i pt] e pos) (wSetI we wo wi) := by
  refine ⟨ps_mono (ps_asg he.pe (pg_sub ho.pe hi.pe set_list hh) hs hw h1) fun D' σ H ⟨env, μ, M, DD, re, rs, hw, O⟩ => ⟨env, μ, M, _, _, re, rs, hw, fun v H1 μ1 d M1 k1 rs1 r1 q1 => ?_, O.xe re⟩⟩
  refine ⟨env, μ1, M1, _, _, re.keep k1, rs1, q1, fun ov H2 μ2 od M2 k2 rs2 r2 q2 => ?_, (O.keep k1).xe (re.keep k1)⟩
  have k12 := k1.trans k2
  refine ⟨env, μ2, M2, _, _, re.keep k12, rs2, q2, fun iv H3 μ3 id M3 k3 rs3 r3 q3 => ?_, (O.keep k12).xe (re.keep k12)⟩
  have k13 := k12.trans k3
  match od, id, q3 with
  | .han h, .int k, q3 =>
    obtain ⟨l, j, e1, e2, q⟩ := q3
    cases r3
    have r2' := r2.keep k3
    cases r2' with
    | han hm hk =>
      obtain ⟨ws, h1, h2⟩ := rs3.at_ _ _ _ hm e1
      refine ⟨_, ws, k, j, rfl, rfl, h1, by rw [h2.length]; exact e2, ?_⟩
      obtain ⟨k4, rs4⟩ := rs3.write hm (h2.set ((r1.keep k2).keep k3) j)
      exact O.nx σ _ μ3 env _ (k13.trans k4) (re.keep (k13.trans k4)) rs4 q
/-! ### methods of lists -/
variable {o : Expr} {wo : WE} {apos : Pos} {name : Str} {id : String}
def isLs : D → Bool
  | .lst _ => true
  | .fls _ => true
  | .han _ => true
  | _ => false
abbrev FM := D → List D → Me → (D → Me → Prop) → Prop
def wBM (f : FM) (wo : WE) (wr : WA) : WE := fun env M Q E => wo env M (fun o M1 => isLs o = true ∧ wr env M1 (fun ds M2 => f o ds M2 Q) E) E
def OkM (K : PySem.W.Frag) (r : V → List V → Hp → VK → Prop) (f : FM) : Prop := ∀ (x : V) (vs : List V) (o : D) (ds : List D) (H : Hp) (μ : Mu) (M : Me) (QD : D → Me → Prop) (Q : VK), RelS K H μ M → Rep K H μ x o → Reps K H μ vs ds → f o ds M QD →
  (∀ (v : V) (H' : Hp) (μ' : Mu) (d : D) (M' : Me), Keep H μ H' μ' → RelS K H' μ' M' → Rep K H' μ' v d → QD d M' → Q v H') → r x vs H Q
theorem tyv_of {H : Hp} {μ : Mu} {M : Me} {v : V} {d : D} (rs : RelS K H μ M) (r : Rep K H μ v d) (h : isLs d = true) : tyV K "list" v H := by
  cases r with
  | lst hs _ _ rr => exact .inl ⟨rfl, _, .of hs⟩
  | fix hs rr => exact .inl ⟨rfl, _, KLst.sq hs⟩
  | han hm hk =>
    rename_i h a
    cases e : H a with
    | none => rw [e] at hk; cases hk
    | some o =>
      cases o with
      | lst xs => exact .inl ⟨rfl, _, .of e⟩
      | _ => rw [e] at hk; cases hk
  | _ => cases h
theorem de_bm {r : V → List V → Hp → VK → Prop} {f : FM} (slot : Slot "list" name id) (hty : typeOf (.builtin id) = pure (.type "method_descriptor")) (hm : MtR X id r) (hf : OkM X.K r f) (ho : DE X W o wo) (ha : DA X W (e :: es) wr)
    (hbase : attributeBase o name X.env (eval o X.env) = eval o X.env := by rfl)
    (hfew : ((backTo pos (starEach (e :: es) X.env)).all (fun x => !x.1) && (backToKw pos (keywordEach [] X.env)).all (fun x => x.1.isSome)
      && decide ((e :: es).length + ([] : List Keyword).length + (if ([] : List Keyword).isEmpty then 0 else 1) < 30)) = true := by rfl)
    (hline : (apos.endLine == pos.line) = true := by rfl) (hs : starEach (e :: es) X.env = (false, eval e X.env) :: starEach es X.env := by rfl) (hplain : (backTo pos (starEach es X.env)).any (·.1) = false := by rfl) :
    DE X W (.Call (.Attribute o name apos) (e :: es) [] pos) (wBM f wo wr) := by
  refine ⟨pe_mono (pe_bm PySem.F.plainAttrs_list slot hty hm ho.pe ha.pa hbase hfew hline hs hplain) fun σ H Q ⟨env, μ, M, QD, ED, re, rs, hw, hq, hx⟩ => ⟨env, μ, M, _, ED, re, rs, hw, fun v H1 μ1 d M1 k1 rs1 r1 q1 => ?_, hx⟩⟩
  refine ⟨tyv_of rs1 r1 q1.1, env, μ1, M1, _, ED, re.keep k1, rs1, q1.2, fun vs H2 μ2 ds M2 k2 rs2 r2 q2 => ?_, hx.keep k1⟩
  exact hf v vs d ds H2 μ2 M2 QD Q rs2 (r1.keep k2) r2 q2 fun v H' μ' d M' k' => hq v H' μ' d M' ((k1.trans k2).trans k')
theorem de_bm0 {r : V → List V → Hp → VK → Prop} {f : FM} (slot : Slot "list" name id) (hty : typeOf (.builtin id) = pure (.type "method_descriptor")) (hm : MtR X id r) (hf : OkM X.K r f) (ho : DE X W o wo)
    (hbase : attributeBase o name X.env (eval o X.env) = eval o X.env := by rfl) (hline : (apos.endLine == pos.line) = true := by rfl) : DE X W (.Call (.Attribute o name apos) [] [] pos) (wBM f wo wNil) := by
  refine ⟨pe_mono (pe_bm0 PySem.F.plainAttrs_list slot hty hm ho.pe hbase hline) fun σ H Q ⟨env, μ, M, QD, ED, re, rs, hw, hq, hx⟩ => ⟨env, μ, M, _, ED, re, rs, hw, fun v H1 μ1 d M1 k1 rs1 r1 q1 => ?_, hx⟩⟩
  exact ⟨tyv_of rs1 r1 q1.1, hf v [] d [] H1 μ1 M1 QD Q rs1 r1 .nil q1.2 fun v H' μ' d M' k' => hq v H' μ' d M' (k1.trans k')⟩
def fAppend : FM
  | .han h, [d], M, Q => ∃ l, M[h]? = some l ∧ l.length < sizeLine ∧ Q .non (M.set h (l ++ [d]))
  | _, _, _, _ => False
theorem ok_append : OkM K rAppend fAppend := fun x vs o ds H μ M QD Q rs rx r h hq => by
  unfold fAppend at h
  split at h
  · obtain ⟨u, rfl, ru⟩ := reps1 r
    obtain ⟨l, e2, hl, q2⟩ := h
    cases rx with
    | han hm hk =>
      obtain ⟨ws, h1, h2⟩ := rs.at_ _ _ _ hm e2
      refine ⟨_, ws, u, rfl, rfl, h1, by rw [h2.length]; exact hl, ?_⟩
      obtain ⟨k4, rs4⟩ := rs.write hm (h2.append (.cons ru .nil))
      exact hq _ _ μ _ _ k4 rs4 .non q2
  · exact h.elim
theorem de_append (ho : DE X W o wo) (ha : DE X W a wa) (hbase : attributeBase o "append" X.env (eval o X.env) = eval o X.env := by rfl)
    (hfew : ((backTo pos (starEach (a :: []) X.env)).all (fun x => !x.1) && (backToKw pos (keywordEach [] X.env)).all (fun x => x.1.isSome)
      && decide ((a :: []).length + ([] : List Keyword).length + (if ([] : List Keyword).isEmpty then 0 else 1) < 30)) = true := by rfl)
    (hline : (apos.endLine == pos.line) = true := by rfl) (hs : starEach (a :: []) X.env = (false, eval a X.env) :: starEach [] X.env := by rfl) :
    DE X W (.Call (.Attribute o "append" apos) [a] [] pos) (wBM fAppend wo (wCons wa wNil)) := de_bm PySem.F.slot_list_append PySem.F.type_list_append mt_append ok_append ho (da_cons ha da_nil hs) hbase hfew hline hs
def fExtend : FM
  | .han h, [d], M, Q => ∃ l m, M[h]? = some l ∧ lsD d M = some m ∧ l.length + m.length ≤ sizeLine ∧ Q .non (M.set h (l ++ m))
  | _, _, _, _ => False
theorem ok_extend : OkM K rExtend fExtend := fun x vs o ds H μ M QD Q rs rx r h hq => by
  unfold fExtend at h
  split at h
  · obtain ⟨u, rfl, ru⟩ := reps1 r
    obtain ⟨l, m, e2, e3, hl, q2⟩ := h
    obtain ⟨b, zs, rfl, h3, r3⟩ := ru.ls rs e3
    cases rx with
    | han hm hk =>
      obtain ⟨ws, h1, h2⟩ := rs.at_ _ _ _ hm e2
      refine ⟨_, b, ws, zs, rfl, rfl, h1, h3, by rw [h2.length, r3.length]; exact hl, ?_⟩
      obtain ⟨k4, rs4⟩ := rs.write hm (h2.append r3)
      exact hq _ _ μ _ _ k4 rs4 .non q2
  · exact h.elim
theorem de_extend (ho : DE X W o wo) (ha : DE X W a wa) (hbase : attributeBase o "extend" X.env (eval o X.env) = eval o X.env := by rfl)
    (hfew : ((backTo pos (starEach (a :: []) X.env)).all (fun x => !x.1) && (backToKw pos (keywordEach [] X.env)).all (fun x => x.1.isSome)
      && decide ((a :: []).length + ([] : List Keyword).length + (if ([] : List Keyword).isEmpty then 0 else 1) < 30)) = true := by rfl)
    (hline : (apos.endLine == pos.line) = true := by rfl) (hs : starEach (a :: []) X.env = (false, eval a X.env) :: starEach [] X.env := by rfl) :
    DE X W (.Call (.Attribute o "extend" apos) [a] [] pos) (wBM fExtend wo (wCons wa wNil)) := de_bm PySem.F.slot_list_extend PySem.F.type_list_extend mt_extend ok_extend ho (da_cons ha da_nil hs) hbase hfew hline hs
def fPop : FM
  | .han h, [], M, Q => ∃ l d, M[h]? = some l ∧ l[l.length - 1]? = some d ∧ Q d (M.set h l.dropLast)
  | _, _, _, _ => False
theorem ok_pop : OkM K rPop fPop := fun x vs o ds H μ M QD Q rs rx r h hq => by
  unfold fPop at h
  split at h
  · cases r
    obtain ⟨l, d, e2, e3, q2⟩ := h
    cases rx with
    | han hm hk =>
      obtain ⟨ws, h1, h2⟩ := rs.at_ _ _ _ hm e2
      obtain ⟨v, h3, r3⟩ := h2.get e3
      refine ⟨_, ws, v, rfl, rfl, h1, by rw [h2.length]; exact h3, ?_⟩
      obtain ⟨k4, rs4⟩ := rs.write hm h2.dropLast
      exact hq _ _ μ _ _ k4 rs4 (r3.keep k4) q2
  · exact h.elim
theorem de_pop (ho : DE X W o wo) (hbase : attributeBase o "pop" X.env (eval o X.env) = eval o X.env := by rfl) (hline : (apos.endLine == pos.line) = true := by rfl) :
    DE X W (.Call (.Attribute o "pop" apos) [] [] pos) (wBM fPop wo wNil) := de_bm0 PySem.F.slot_list_pop PySem.F.type_list_pop mt_pop ok_pop ho hbase hline

/-! ### while -/
def wWhile (c : WT) (t : WS) : WS := fun env M DD => ∃ I : Nat → En → Me → Prop, (∃ m, I m env M) ∧ ∀ m env M, I m env M →
  c env M (fun k M1 => if k = true then t env M1 { DD with nx := fun env' M' => ∃ m', m' < m ∧ I m' env' M', ct := fun env' M' => ∃ m', m' < m ∧ I m' env' M', bk := DD.nx } else DD.nx env M1) (fun x M => DD.ex x env M)
theorem ds_while {wt : WT} {body : List Stmt} (hp : PassesOwn (model X.prog X.w) X.A X.env X.xe) (hc : DT X W c wt) (hb : DB X W body t) : DS X W (.While c body [] pos) (wWhile wt t) := by
  refine ⟨ps_mono (ps_while hp hc.pt hb.pss) fun D' σ0 H0 ⟨env0, μ0, M0, DD, re0, rs0, ⟨I, ⟨m0, i0⟩, turn⟩, o⟩ => ?_⟩
  refine ⟨fun m σ H => ∃ env μ M, Keep H0 μ0 H μ ∧ RelE X.K H μ σ env ∧ RelS X.K H μ M ∧ I m env M, ⟨m0, env0, μ0, M0, rs0.refl, re0, rs0, i0⟩, fun m σ H ⟨env, μ, M, k0, re, rs, i⟩ => ?_⟩
  have o1 := o.keep k0
  refine ⟨env, μ, M, _, _, re, rs, turn m env M i, fun k H1 μ1 M1 k1 rs1 q1 => ?_, o1.xe re⟩
  cases k with
  | false =>
    rw [if_neg Bool.false_ne_true] at q1 ⊢
    exact o1.nx σ H1 μ1 env M1 k1 (re.keep k1) rs1 q1
  | true =>
    rw [if_pos rfl] at q1 ⊢
    refine ⟨fun σ' H' => ∃ m', m' < m ∧ ∃ env μ M, Keep H0 μ0 H' μ ∧ RelE X.K H' μ σ' env ∧ RelS X.K H' μ M ∧ I m' env M, fun σ' H' z => z, ?_⟩
    refine ⟨env, μ1, M1, _, re.keep k1, rs1, q1, ?_⟩
    have o2 := o1.keep k1
    exact ⟨fun σ2 H2 μ2 env2 M2 k2 re2 rs2 ⟨m', hm, i2⟩ => ⟨m', hm, env2, μ2, M2, (k0.trans k1).trans k2, re2, rs2, i2⟩, o2.rt, o2.nx,
      fun σ2 H2 μ2 env2 M2 k2 re2 rs2 ⟨m', hm, i2⟩ => ⟨m', hm, env2, μ2, M2, (k0.trans k1).trans k2, re2, rs2, i2⟩, o2.ex⟩

/-! ### for -/
/-- what is walked: the items, as they are at the beginning; a guard that must hold at each turn -/
abbrev WI := En → Me → (List D → (Me → Prop) → Me → Prop) → (EX → Me → Prop) → Prop
/-- the iterator J yields these items -/
def JOk (K : PySem.W.Frag) (J : It) (H : Hp) (μ : Mu) (items : List D) (G : Me → Prop) : Prop :=
  ∀ (H1 : Hp) (μ1 : Mu) (M1 : Me) (i : Nat), Car H μ H1 μ1 → RelS K H1 μ1 M1 → G M1 →
    (items.length ≤ i → J.stop i H1) ∧ ∀ d, items[i]? = some d → J.go i H1 ∧ ∀ x H2, J.yld i H1 x H2 → Keep H1 μ1 H2 μ1 ∧ RelS K H2 μ1 M1 ∧ Rep K H2 μ1 x d
def tDI (K : PySem.W.Frag) (W : WX) (w : WI) : TI := fun σ H R => ∃ (env : En) (μ : Mu) (M : Me) (QD : List D → (Me → Prop) → Me → Prop) (ED : EX → Me → Prop), RelE K H μ σ env ∧ RelS K H μ M ∧ w env M QD ED ∧
  (∀ (J : It) (H' : Hp) (μ' : Mu) (items : List D) (G : Me → Prop) (M' : Me), Keep H μ H' μ' → RelS K H' μ' M' → JOk K J H' μ' items G → QD items G M' → R J H') ∧ XE_ K W σ H μ ED
structure DI (X : Cx) (W : WX) (tg e : Expr) (w : WI) : Prop where
  pi : PI X tg e (tDI X.K W w)
def forGo (g : WG) (t : WS) (G : Me → Prop) : List D → En → Me → EndD → Prop
  | [], env, M, DD => G M ∧ DD.nx env M
  | d :: ds, env, M, DD => G M ∧ g d env M fun env1 M1 => t env1 M1 { DD with nx := fun env2 M2 => forGo g t G ds env2 M2 DD, ct := fun env2 M2 => forGo g t G ds env2 M2 DD, bk := DD.nx }
def wFor (wi : WI) (g : WG) (t : WS) : WS := fun env M DD => wi env M (fun items G M1 => forGo g t G items env M1 DD) (fun x M => DD.ex x env M)
theorem ds_for {tg iter : Expr} {body : List Stmt} {wi : WI} {g : WG} {is : List Nat} (hp : PassesOwn (model X.prog X.w) X.A X.env X.xe) (hc : X.calm = true) (hi : DI X W tg iter wi) (hg : DG X tg is g) (hb : DB X W body t)
    (hs : ∀ x, foldedSetIterable iter X.env x = pure x := by intro _; rfl) : DS X W (.For tg iter body [] pos) (wFor wi g t) := by
  refine ⟨ps_mono (ps_for hp hc hi.pi hg.pg hb.pss hs) fun D' σ0 H0 ⟨env0, μ0, M0, DD, re0, rs0, hw, o⟩ => ⟨env0, μ0, M0, _, _, re0, rs0, hw, fun J Ha μa items G Ma ka rsa j qa => ?_, o.xe re0⟩⟩
  refine ⟨fun i m σ H => m = items.length - i ∧ i ≤ items.length ∧ ∃ env μ M, Keep Ha μa H μ ∧ RelE X.K H μ σ env ∧ RelS X.K H μ M ∧ forGo g t G (items.drop i) env M DD, ⟨items.length, by simp, Nat.zero_le _, env0, μa, Ma, rsa.refl, re0.keep ka, rsa, by rw [List.drop_zero]; exact qa⟩, fun i m σ H ⟨hm, hle, env, μ, M, k, re, rs, q⟩ => ?_⟩
  have o1 := o.keep (ka.trans k)
  by_cases hi : i < items.length
  · rw [List.drop_eq_getElem_cons hi] at q
    obtain ⟨hG, q⟩ := q
    obtain ⟨go, yl⟩ := (j H μ M i k.car rs hG).2 _ (List.getElem?_eq_getElem hi)
    refine .inr ⟨go, fun σ' H' => ∃ env μ M, Keep Ha μa H' μ ∧ RelE X.K H' μ σ' env ∧ RelS X.K H' μ M ∧ forGo g t G (items.drop (i + 1)) env M DD, fun σ' H' z => ⟨items.length - (i + 1), by omega, rfl, by omega, z⟩, fun x H2 y => ?_⟩
    obtain ⟨k2, rs2, r2⟩ := yl x H2 y
    refine ⟨env, μ, M, _, _, re.keep k2, rs2, r2, q, fun σ3 H3 μ3 env3 M3 _ k3 re3 rs3 q3 => ?_⟩
    have k23 := k2.trans k3
    have o3 := o1.keep k23
    refine ⟨env3, μ3, M3, _, re3, rs3, q3, ?_⟩
    exact ⟨fun σ4 H4 μ4 env4 M4 k4 re4 rs4 q4 => ⟨env4, μ4, M4, (k.trans k23).trans k4, re4, rs4, q4⟩, o3.rt, o3.nx, fun σ4 H4 μ4 env4 M4 k4 re4 rs4 q4 => ⟨env4, μ4, M4, (k.trans k23).trans k4, re4, rs4, q4⟩, o3.ex⟩
  · have e : i = items.length := by omega
    subst e
    rw [List.drop_length] at q
    exact .inl ⟨(j H μ M _ k.car rs q.1).1 (Nat.le_refl _), o1.nx σ H μ env M rs.refl re rs q.2⟩
end
end DL

namespace DL
open PySem PySem.Spec PyProof.Rows L2
section
variable {X : Cx} {W : WX} {a b c e tg : Expr} {es : List Expr} {wa wb wc we : WE} {wr : WA} {pos p : Pos} {x : Str} {K : PySem.W.Frag}

/-! ## what is walked -/
abbrev GT : Me → Prop := fun _ => True
/-- the items of a list or tuple, and the guard -/
def itD : D → Me → Option (List D × (Me → Prop))
  | .lst l, _ => some (l, GT)
  | .fls l, _ => some (l, GT)
  | .tup l, _ => some (l, GT)
  | .han h, M => (M[h]?).map fun l => (l, fun M' => M'[h]? = some l)
  | _, _ => none
def iSq (K : PySem.W.Frag) (tl : TE) : TI := fun σ H R => tl σ H fun x H1 => ∃ a, x = .ref a ∧ (((∃ xs, SqL K H1 a xs) ∧ R (Itl K a) H1) ∨ ((∃ xs, SqT K H1 a xs) ∧ R (Itt K a) H1))
theorem pi_sq {l : Expr} {tl : TE} (hl : PE X l tl) : PI X tg l (iSq X.K tl) := by
  refine ⟨fun pins s σ H R I h => ?_⟩
  refine thn (hl.run pins s σ H _ I h) fun v s1 ⟨x, H1, I1, r1, q1⟩ => ?_
  obtain ⟨a, e, q1⟩ := q1
  subst e
  cases r1
  rcases q1 with ⟨⟨xs, hq⟩, q⟩ | ⟨⟨xs, hq⟩, q⟩
  · obtain ⟨its, rv, p, hz⟩ := I1.list hq
    refine wpAny_pyIter_list p.isList ?_
    refine ⟨s1.heap.objs.size, [s1.heap.objs.size], _, _, H1, rfl, I1.kept (t' := s1.toks) fun b o e => Heap.get?_push_of_some _ e, turn_list a _, ⟨_, Heap.get?_push_size _ rfl, rfl, rfl⟩, fun b hb => ?_, q⟩
    have e : b = s1.heap.objs.size := by simpa using hb
    subst e
    exact I1.fpOk (Nat.le_refl _) (I1.hok.fresh (Nat.le_refl _))
  · obtain ⟨its, rv, p, hz⟩ := I1.tuple hq
    refine wpAny_pyIter_tuple (show s1.heap.IsTuple a its.toArray from p) ?_
    refine ⟨s1.heap.objs.size, [s1.heap.objs.size], _, _, H1, rfl, I1.kept (t' := s1.toks) fun b o e => Heap.get?_push_of_some _ e, turn_tuple a _, ⟨_, Heap.get?_push_size _ rfl, rfl, rfl⟩, fun b hb => ?_, q⟩
    have e : b = s1.heap.objs.size := by simpa using hb
    subst e
    exact I1.fpOk (Nat.le_refl _) (I1.hok.fresh (Nat.le_refl _))
/-- the sequence at a, wherever the code has come to -/
theorem seq_car {H : Hp} {μ : Mu} {M : Me} {v : V} {d : D} {items : List D} {G : Me → Prop} (rs : RelS K H μ M) (r : Rep K H μ v d) (h : itD d M = some (items, G)) :
    ∃ a, v = .ref a ∧ ((∀ (H1 : Hp) (μ1 : Mu) (M1 : Me), Car H μ H1 μ1 → RelS K H1 μ1 M1 → G M1 → ∃ vs, SqL K H1 a vs ∧ Reps K H1 μ1 vs items) ∨ (∀ (H1 : Hp) (μ1 : Mu) (M1 : Me), Car H μ H1 μ1 → RelS K H1 μ1 M1 → G M1 → ∃ vs, SqT K H1 a vs ∧ Reps K H1 μ1 vs items)) ∧ G M := by
  cases r with
  | tup hs rr => cases h; exact ⟨_, rfl, .inr fun H1 μ1 M1 c _ _ => ⟨_, c.sqT hs, rr.car c⟩, trivial⟩
  | lst hs n1 n2 rr => cases h; exact ⟨_, rfl, .inl fun H1 μ1 M1 c _ _ => ⟨_, .of (c.lst _ _ hs n1 n2).1, rr.car c⟩, trivial⟩
  | fix hs rr =>
    cases h
    refine ⟨_, rfl, .inl fun H1 μ1 M1 c _ _ => ⟨_, ?_, rr.car c⟩, trivial⟩
    rcases hs with ⟨o, hs⟩ | hs
    · exact .inl (.inr ⟨o, c.oth _ _ hs (fun xs z => by cases z) fun xs z => by cases z⟩)
    · exact .inr hs
  | han hm hk =>
    rename_i h0 a0
    have h : (M[h0]?).map (fun l => (l, fun M' : Me => M'[h0]? = some l)) = some (items, G) := h
    simp only [Option.map_eq_some_iff, Prod.mk.injEq] at h
    obtain ⟨l, e1, rfl, rfl⟩ := h
    refine ⟨_, rfl, .inl fun H1 μ1 M1 c rs1 g => ?_, e1⟩
    obtain ⟨vs, h1, h2⟩ := rs1.at_ _ _ _ (c.han _ _ hm) g ((c.knd _ (List.mem_of_getElem? hm)).trans hk)
    exact ⟨vs, .of h1, h2⟩
  | _ => cases h
theorem jok_l {H : Hp} {μ : Mu} {a : Addr} {items : List D} {G : Me → Prop} (h : ∀ (H1 : Hp) (μ1 : Mu) (M1 : Me), Car H μ H1 μ1 → RelS K H1 μ1 M1 → G M1 → ∃ vs, SqL K H1 a vs ∧ Reps K H1 μ1 vs items) : JOk K (Itl K a) H μ items G :=
  fun H1 μ1 M1 i c rs g => by
    obtain ⟨vs, hs, rr⟩ := h H1 μ1 M1 c rs g
    refine ⟨fun hi => ⟨vs, hs, by rw [rr.length]; exact hi⟩, fun d hd => ?_⟩
    obtain ⟨v, h1, h2⟩ := rr.get hd
    refine ⟨⟨vs, v, hs, h1⟩, fun x H2 y => ?_⟩
    obtain ⟨rfl, y⟩ := y
    have ex := y vs hs
    rw [h1] at ex; cases ex
    exact ⟨rs.refl, rs, h2⟩
theorem jok_t {H : Hp} {μ : Mu} {a : Addr} {items : List D} {G : Me → Prop} (h : ∀ (H1 : Hp) (μ1 : Mu) (M1 : Me), Car H μ H1 μ1 → RelS K H1 μ1 M1 → G M1 → ∃ vs, SqT K H1 a vs ∧ Reps K H1 μ1 vs items) : JOk K (Itt K a) H μ items G :=
  fun H1 μ1 M1 i c rs g => by
    obtain ⟨vs, hs, rr⟩ := h H1 μ1 M1 c rs g
    refine ⟨fun hi => ⟨vs, hs, by rw [rr.length]; exact hi⟩, fun d hd => ?_⟩
    obtain ⟨v, h1, h2⟩ := rr.get hd
    refine ⟨⟨vs, v, hs, h1⟩, fun x H2 y => ?_⟩
    obtain ⟨rfl, y⟩ := y
    have ex := y vs hs
    rw [h1] at ex; cases ex
    exact ⟨rs.refl, rs, h2⟩
theorem Car.refl {H : Hp} {μ : Mu} : Car H μ H μ := ⟨fun _ _ e _ _ _ => e, fun _ _ e n1 n2 => ⟨e, n1, n2⟩, fun _ _ e => e, fun _ _ e n => ⟨e, n⟩, fun _ _ => rfl⟩
def wISq (wa : WE) : WI := fun env M Q E => wa env M (fun d M1 => ∃ items G, itD d M1 = some (items, G) ∧ Q items G M1) E
theorem di_sq (ha : DE X W a wa) : DI X W tg a (wISq wa) := by
  refine ⟨pi_mono (pi_sq ha.pe) fun σ H R ⟨env, μ, M, QD, ED, re, rs, hw, hq, hx⟩ => ⟨env, μ, M, _, ED, re, rs, hw, fun v H1 μ1 d M1 k1 rs1 r1 q1 => ?_, hx⟩⟩
  obtain ⟨items, G, e1, q1⟩ := q1
  obtain ⟨a, rfl, hs, g⟩ := seq_car rs1 r1 e1
  refine ⟨a, rfl, ?_⟩
  rcases hs with hs | hs
  · obtain ⟨vs, h1, _⟩ := hs H1 μ1 M1 .refl rs1 g
    exact .inl ⟨⟨vs, h1⟩, hq _ H1 μ1 items G M1 k1 rs1 (jok_l hs) q1⟩
  · obtain ⟨vs, h1, _⟩ := hs H1 μ1 M1 .refl rs1 g
    exact .inr ⟨⟨vs, h1⟩, hq _ H1 μ1 items G M1 k1 rs1 (jok_t hs) q1⟩
/-! ### range -/
def rgD (lo : Int) (n : Nat) : List D := (List.range n).map fun (i : Nat) => D.int (lo + i)
theorem rgD_get {lo : Int} {n i : Nat} : (rgD lo n)[i]? = if i < n then some (.int (lo + i)) else none := by
  unfold rgD
  rw [List.getElem?_map]
  by_cases h : i < n
  · rw [List.getElem?_range h, if_pos h]; rfl
  · rw [List.getElem?_eq_none (by simp; omega), if_neg h]; rfl
theorem rgD_len {lo : Int} {n : Nat} : (rgD lo n).length = n := by simp [rgD]
theorem jok_r {H : Hp} {μ : Mu} {lo : Int} {n : Nat} : JOk K (Itr lo n) H μ (rgD lo n) GT := fun H1 μ1 M1 i c rs g => by
  refine ⟨fun hi => by rw [rgD_len] at hi; exact hi, fun d hd => ?_⟩
  rw [rgD_get] at hd
  by_cases h : i < n
  · rw [if_pos h] at hd
    cases hd
    refine ⟨h, fun x H2 y => ?_⟩
    obtain ⟨rfl, rfl⟩ := y
    exact ⟨rs.refl, rs, .int _⟩
  · rw [if_neg h] at hd; cases hd
def sml (i : Int) : Prop := -(2 ^ 62) ≤ i ∧ i < 2 ^ 62
def wIR1 (wr : WA) : WI := fun env M Q E => wr env M (fun ds M1 => match ds with | [.int j] => sml j ∧ Q (rgD 0 j.toNat) GT M1 | _ => False) E
theorem di_range1 (hg : Gl X "range") (hm : X.mg "range" = none) (ha : DA X W [a] wr) (hs : starEach [a] X.env = [(false, eval a X.env)] := by rfl) : DI X W tg (.Call (.Name "range" p) [a] [] pos) (wIR1 wr) := by
  refine ⟨pi_mono (pi_range1 hg hm ha.pa hs) fun σ H R ⟨env, μ, M, QD, ED, re, rs, hw, hq, hx⟩ => ⟨env, μ, M, _, ED, re, rs, hw, fun vs H1 μ1 ds M1 k1 rs1 r1 q1 => ?_, hx⟩⟩
  match ds, q1 with
  | [.int j], q1 =>
    obtain ⟨v, rfl, rv⟩ := reps1 r1
    cases rv
    exact ⟨j, rfl, q1.1.1, q1.1.2, hq _ H1 μ1 _ _ M1 k1 rs1 jok_r q1.2⟩
def wIR2 (wr : WA) : WI := fun env M Q E => wr env M (fun ds M1 => match ds with | [.int i, .int j] => sml i ∧ sml j ∧ Q (rgD i (j - i).toNat) GT M1 | _ => False) E
theorem di_range2 (hg : Gl X "range") (hm : X.mg "range" = none) (ha : DA X W [a, b] wr) (hs : starEach [a, b] X.env = [(false, eval a X.env), (false, eval b X.env)] := by rfl) (hs2 : starEach [b] X.env = [(false, eval b X.env)] := by rfl) :
    DI X W tg (.Call (.Name "range" p) [a, b] [] pos) (wIR2 wr) := by
  refine ⟨pi_mono (pi_range2 hg hm ha.pa hs hs2) fun σ H R ⟨env, μ, M, QD, ED, re, rs, hw, hq, hx⟩ => ⟨env, μ, M, _, ED, re, rs, hw, fun vs H1 μ1 ds M1 k1 rs1 r1 q1 => ?_, hx⟩⟩
  match ds, q1 with
  | [.int i, .int j], q1 =>
    obtain ⟨v, u, rfl, r1, r2⟩ := reps2 r1
    cases r1; cases r2
    exact ⟨i, j, rfl, ⟨q1.1.1, q1.1.2, q1.2.1.1, q1.2.1.2⟩, hq _ H1 μ1 _ _ M1 k1 rs1 jok_r q1.2.2⟩
/-! ### zip -/
def zpD (xs ys : List D) : List D := List.zipWith (fun x y => D.tup [x, y]) xs ys
theorem zpD_get {xs ys : List D} {i : Nat} {d : D} (h : (zpD xs ys)[i]? = some d) : ∃ x y, xs[i]? = some x ∧ ys[i]? = some y ∧ d = .tup [x, y] := by
  unfold zpD at h
  rw [List.getElem?_zipWith_eq_some] at h
  obtain ⟨x, y, h1, h2, h3⟩ := h
  exact ⟨x, y, h1, h2, h3.symm⟩
theorem jok_z {J : It} {H : Hp} {μ : Mu} {a b : Addr} {xs ys : List D} {G1 G2 : Me → Prop} (Sq : Hp → Addr → List V → Prop)
    (hgo : ∀ i H, (∃ (xs ys : List V) (x y : V), Sq H a xs ∧ Sq H b ys ∧ xs[i]? = some x ∧ ys[i]? = some y) → J.go i H)
    (hy : ∀ i H v H', J.yld i H v H' → ∃ T x y, v = .ref T ∧ H T = none ∧ H' = upd H T (.tup [x, y]) ∧ (∀ xs, Sq H a xs → xs[i]? = some x) ∧ ∀ ys, Sq H b ys → ys[i]? = some y)
    (hst : ∀ i H, (∃ xs ys : List V, Sq H a xs ∧ Sq H b ys ∧ (xs.length ≤ i ∨ ys.length ≤ i)) → J.stop i H)
    (h1 : ∀ (H1 : Hp) (μ1 : Mu) (M1 : Me), Car H μ H1 μ1 → RelS K H1 μ1 M1 → G1 M1 → ∃ vs, Sq H1 a vs ∧ Reps K H1 μ1 vs xs)
    (h2 : ∀ (H1 : Hp) (μ1 : Mu) (M1 : Me), Car H μ H1 μ1 → RelS K H1 μ1 M1 → G2 M1 → ∃ vs, Sq H1 b vs ∧ Reps K H1 μ1 vs ys) : JOk K J H μ (zpD xs ys) (fun M => G1 M ∧ G2 M) := fun H1 μ1 M1 i c rs g => by
  obtain ⟨vs, s1, r1⟩ := h1 H1 μ1 M1 c rs g.1
  obtain ⟨ws, s2, r2⟩ := h2 H1 μ1 M1 c rs g.2
  refine ⟨fun hi => hst i H1 ⟨vs, ws, s1, s2, ?_⟩, fun d hd => ?_⟩
  · unfold zpD at hi
    rw [List.length_zipWith] at hi
    rw [r1.length, r2.length]
    omega
  · obtain ⟨x, y, e1, e2, rfl⟩ := zpD_get hd
    obtain ⟨v, q1, p1⟩ := r1.get e1
    obtain ⟨u, q2, p2⟩ := r2.get e2
    refine ⟨hgo i H1 ⟨vs, ws, v, u, s1, s2, q1, q2⟩, fun z H2 yl => ?_⟩
    obtain ⟨T, v', u', rfl, hT, rfl, f1, f2⟩ := hy i H1 z H2 yl
    have ev := f1 vs s1
    rw [q1] at ev; cases ev
    have eu := f2 ws s2
    rw [q2] at eu; cases eu
    exact tup_rep rs (.cons p1 (.cons p2 .nil)) hT
/-- both lists, or both tuples -/
def kindD : D → Option Bool
  | .lst _ => some true
  | .fls _ => some true
  | .han _ => some true
  | .tup _ => some false
  | _ => none
theorem seq_kind {H : Hp} {μ : Mu} {M : Me} {v : V} {d : D} {items : List D} {G : Me → Prop} (rs : RelS K H μ M) (r : Rep K H μ v d) (h : itD d M = some (items, G)) :
    ∃ a, v = .ref a ∧ G M ∧ ((kindD d = some true ∧ ∀ (H1 : Hp) (μ1 : Mu) (M1 : Me), Car H μ H1 μ1 → RelS K H1 μ1 M1 → G M1 → ∃ vs, SqL K H1 a vs ∧ Reps K H1 μ1 vs items) ∨ (kindD d = some false ∧ ∀ (H1 : Hp) (μ1 : Mu) (M1 : Me), Car H μ H1 μ1 → RelS K H1 μ1 M1 → G M1 → ∃ vs, SqT K H1 a vs ∧ Reps K H1 μ1 vs items)) := by
  cases r with
  | tup hs rr => cases h; exact ⟨_, rfl, trivial, .inr ⟨rfl, fun H1 μ1 M1 c _ _ => ⟨_, c.sqT hs, rr.car c⟩⟩⟩
  | lst hs n1 n2 rr => cases h; exact ⟨_, rfl, trivial, .inl ⟨rfl, fun H1 μ1 M1 c _ _ => ⟨_, .of (c.lst _ _ hs n1 n2).1, rr.car c⟩⟩⟩
  | fix hs rr =>
    cases h
    refine ⟨_, rfl, trivial, .inl ⟨rfl, fun H1 μ1 M1 c _ _ => ⟨_, ?_, rr.car c⟩⟩⟩
    rcases hs with ⟨o, hs⟩ | hs
    · exact .inl (.inr ⟨o, c.oth _ _ hs (fun xs z => by cases z) fun xs z => by cases z⟩)
    · exact .inr hs
  | han hm hk =>
    rename_i h0 a0
    have h : (M[h0]?).map (fun l => (l, fun M' : Me => M'[h0]? = some l)) = some (items, G) := h
    simp only [Option.map_eq_some_iff, Prod.mk.injEq] at h
    obtain ⟨l, e1, rfl, rfl⟩ := h
    refine ⟨_, rfl, e1, .inl ⟨rfl, fun H1 μ1 M1 c rs1 g => ?_⟩⟩
    obtain ⟨vs, h1, h2⟩ := rs1.at_ _ _ _ (c.han _ _ hm) g ((c.knd _ (List.mem_of_getElem? hm)).trans hk)
    exact ⟨vs, .of h1, h2⟩
  | _ => cases h
def wIZ (wr : WA) : WI := fun env M Q E => wr env M (fun ds M1 => match ds with
  | [d, e] => kindD d = kindD e ∧ ∃ xs G1 ys G2, itD d M1 = some (xs, G1) ∧ itD e M1 = some (ys, G2) ∧ Q (zpD xs ys) (fun M => G1 M ∧ G2 M) M1
  | _ => False) E
theorem di_zip {tpos : Pos} {elts : List Expr} {kk : Nat} (hg : Gl X "zip") (hm : X.mg "zip" = none) (ha : DA X W [a, b] wr)
    (hs : starEach [a, b] X.env = (false, eval a X.env) :: starEach [b] X.env := by rfl) (hpl : (backTo pos (starEach [b] X.env)).any (·.1) = false := by rfl) : DI X W (.Tuple elts kk tpos) (.Call (.Name "zip" p) [a, b] [] pos) (wIZ wr) := by
  refine ⟨pi_mono (RZ.pi_zipA hg hm ha.pa hs hpl) fun σ H R ⟨env, μ, M, QD, ED, re, rs, hw, hq, hx⟩ => ⟨env, μ, M, _, ED, re, rs, hw, fun vs H1 μ1 ds M1 k1 rs1 r1 q1 => ?_, hx⟩⟩
  match ds, q1 with
  | [d, e], q1 =>
    obtain ⟨hk, xs, G1, ys, G2, e1, e2, q1⟩ := q1
    obtain ⟨v, u, rfl, r1, r2⟩ := reps2 r1
    obtain ⟨a, rfl, g1, h1⟩ := seq_kind rs1 r1 e1
    obtain ⟨b, rfl, g2, h2⟩ := seq_kind rs1 r2 e2
    rcases h1 with ⟨z1, h1⟩ | ⟨z1, h1⟩
    · rcases h2 with ⟨z2, h2⟩ | ⟨z2, h2⟩
      · obtain ⟨vs, s1, _⟩ := h1 H1 μ1 M1 .refl rs1 g1
        obtain ⟨ws, s2, _⟩ := h2 H1 μ1 M1 .refl rs1 g2
        exact ⟨a, b, vs, ws, rfl, .inl ⟨s1, s2, hq _ H1 μ1 _ _ M1 k1 rs1 (jok_z (SqL X.K) (fun _ _ h => h) (fun _ _ _ _ h => h) (fun _ _ h => h) h1 h2) q1⟩⟩
      · rw [z1, z2] at hk; cases hk
    · rcases h2 with ⟨z2, h2⟩ | ⟨z2, h2⟩
      · rw [z1, z2] at hk; cases hk
      · obtain ⟨vs, s1, _⟩ := h1 H1 μ1 M1 .refl rs1 g1
        obtain ⟨ws, s2, _⟩ := h2 H1 μ1 M1 .refl rs1 g2
        exact ⟨a, b, vs, ws, rfl, .inr ⟨s1, s2, hq _ H1 μ1 _ _ M1 k1 rs1 (jok_z (SqT X.K) (fun _ _ h => h) (fun _ _ _ _ h => h) (fun _ _ h => h) h1 h2) q1⟩⟩
/-! ### list comprehensions -/
def wipeD (env : En) : List Nat → En
  | [] => env
  | v :: vs => (wipeD env vs).set v none
theorem rel_wipe {H : Hp} {μ : Mu} {σ : L2.St} {env : En} (re : RelE K H μ σ env) : ∀ vs : List Nat, RelE K H μ (wipe σ vs) (wipeD env vs)
  | [] => re
  | v :: vs => (rel_wipe re vs).setN v
theorem wipe_at {σ : L2.St} {j : Nat} : ∀ {vs : List Nat}, (wipe σ vs)[j]? = if j ∈ vs ∧ j < σ.length then some none else σ[j]?
  | [] => by simp [wipe]
  | v :: vs => by
    show ((wipe σ vs).set v none)[j]? = _
    rw [List.getElem?_set, wipe_at (vs := vs), wipe_length]
    by_cases h : v = j
    · subst h
      by_cases hl : v < σ.length
      · simp [hl]
      · simp [hl]
    · simp [h, Ne.symm h]
theorem wipe_apart {is vs : List Nat} {σ σ' : L2.St} (a : Apart is (wipe σ vs) σ') (h : ∀ i ∈ is, i ∈ vs) : wipe σ' vs = wipe σ vs := by
  apply List.ext_getElem?
  intro j
  have hl : σ'.length = σ.length := a.1.trans (wipe_length _ _)
  rw [wipe_at, wipe_at, hl]
  by_cases hj : j ∈ vs
  · by_cases hlt : j < σ.length
    · simp [hj, hlt]
    · simp only [hj, hlt, and_false, if_false]
      rw [List.getElem?_eq_none (by rw [hl]; omega), List.getElem?_eq_none (by omega)]
  · simp only [hj, false_and, if_false]
    rw [a.2 j fun z => hj (h j z), wipe_at]
    simp [hj]
def wYes : WT := fun _ M Q _ => Q true M
/-- a clause's tests -/
structure DTs (X : Cx) (es : List Expr) (w : WT) : Prop where
  pts : PTs X es (tDT X.K W0 w)
theorem pts_mono {X : Cx} {e : List Expr} {t t' : TT} (h : PTs X e t) (m : ∀ σ H Q, t' σ H Q → t σ H Q) : PTs X e t' := ⟨fun pins s σ H Q I q => h.run pins s σ H Q I (m _ _ _ q)⟩
theorem dts_nil : DTs X [] wYes := ⟨pts_mono pts_nil fun σ H Q ⟨env, μ, M, QD, ED, re, rs, hw, hq, hx⟩ => hq true H μ M rs.refl rs hw⟩
theorem dts_one {wt : WT} (h : DT X W0 c wt) : DTs X [c] wt := ⟨pts_one h.pt⟩
abbrev EX0 : EX → Me → Prop := fun _ _ => False
def lcGo (g : WG) (tt : WT) (te : WE) (G : Me → Prop) (env0 : En) (Q : List D → Me → Prop) : List D → List D → Me → Prop
  | [], acc, M => G M ∧ Q acc M
  | d :: ds, acc, M => G M ∧ g d env0 M fun env1 M1 => tt env1 M1 (fun k M2 => if k = true then te env1 M2 (fun y M3 => acc.length < sizeLine ∧ lcGo g tt te G env0 Q ds (acc ++ [y]) M3) EX0 else lcGo g tt te G env0 Q ds acc M2) EX0
def wLc (wi : WI) (g : WG) (tt : WT) (te : WE) (vs : List Nat) : WFr := fun env M Q E => wi env M (fun items G M1 => lcGo g tt te G (wipeD env vs) Q items [] M1) E
theorem xe0 {σ : L2.St} {H : Hp} {μ : Mu} : XE_ K W0 σ H μ EX0 := fun _ _ _ _ _ _ _ _ _ z => z
theorem lc_D {wi : WI} {g : WG} {tt : WT} {te : WE} {is vs : List Nat} (his : ∀ i ∈ is, i ∈ vs) {σ0 : L2.St} {H0 : Hp} {Q : VK} (h : tF K W (wLc wi g tt te vs) σ0 H0 Q) :
    tLc (tDI K W wi) (tDG K is g) (tDT K W0 tt) (tD K W0 te) vs σ0 H0 Q := by
  obtain ⟨env0, μ0, M0, QD, ED, re0, rs0, hw, hq, hx⟩ := h
  refine ⟨env0, μ0, M0, _, ED, re0, rs0, hw, fun J Ha μa items G Ma ka rsa j qa => fun L hL => ?_, hx⟩
  have hL0 : H0 L = none := none_of_keep ka rsa hL
  obtain ⟨ca, rsh⟩ := rsa.hide (vs := []) hL
  refine ⟨fun i m H => m = items.length - i ∧ i ≤ items.length ∧ ∃ (ν : List Addr) (M : Me) (ws : List V) (acc : List D), Keep H0 μ0 H ⟨ν, μa.f⟩ ∧ Car Ha μa H ⟨ν, L :: μa.f⟩ ∧ RelS K H ⟨ν, L :: μa.f⟩ M ∧ H L = some (.lst ws) ∧ Reps K H ⟨ν, L :: μa.f⟩ ws acc ∧ lcGo g tt te G (wipeD env0 vs) QD (items.drop i) acc M,
    ⟨items.length, by simp, Nat.zero_le _, μa.h, Ma, [], [], (ka.upd_new hL0), ca, rsh, upd_same, .nil, by rw [List.drop_zero]; exact qa⟩, fun i m H ⟨hm, hle, ν, M, ws, acc, k, c, rs, hLw, ra, q⟩ => ?_⟩
  have hpf : L ∉ μa.f := (notMem_of_none rsa hL).2
  by_cases hi : i < items.length
  · rw [List.drop_eq_getElem_cons hi] at q
    obtain ⟨hG, q⟩ := q
    obtain ⟨go, yl⟩ := (j H _ M i c rs hG).2 _ (List.getElem?_eq_getElem hi)
    refine .inr ⟨go, fun H' => ∃ (ν : List Addr) (M : Me) (ws : List V) (acc : List D), Keep H0 μ0 H' ⟨ν, μa.f⟩ ∧ Car Ha μa H' ⟨ν, L :: μa.f⟩ ∧ RelS K H' ⟨ν, L :: μa.f⟩ M ∧ H' L = some (.lst ws) ∧ Reps K H' ⟨ν, L :: μa.f⟩ ws acc ∧ lcGo g tt te G (wipeD env0 vs) QD (items.drop (i + 1)) acc M, fun H' z => ⟨items.length - (i + 1), by omega, rfl, by omega, z⟩, fun x H2 y => ?_⟩
    obtain ⟨k2, rs2, r2⟩ := yl x H2 y
    have re2 : RelE K H2 ⟨ν, L :: μa.f⟩ (wipe σ0 vs) (wipeD env0 vs) := rel_wipe (((re0.keep ka).car c).keep k2) vs
    refine ⟨wipeD env0 vs, _, M, _, _, re2, rs2, r2, q, fun σ3 H3 μ3 env3 M3 ap k3 re3 rs3 q3 => ⟨wipe_apart ap his, ?_⟩⟩
    have k23 := k2.trans k3
    refine ⟨env3, μ3, M3, _, EX0, re3, rs3, q3, fun b H4 μ4 M4 k4 rs4 q4 => ?_, xe0⟩
    have k24 := k23.trans k4
    obtain ⟨ν4, f4⟩ := μ4
    have ef : f4 = L :: μa.f := k24.ff
    subst ef
    cases b with
    | false =>
      rw [if_neg Bool.false_ne_true] at q4
      dsimp only
      rw [if_neg Bool.false_ne_true]
      refine ⟨ν4, M4, ws, acc, k.thru k24, c.trans k24.car, rs4, k24.objs _ _ hLw (rs.ft L List.mem_cons_self).1 (by intro _ z; cases z), ra.keep k24, q4⟩
    | true =>
      rw [if_pos rfl] at q4
      dsimp only
      rw [if_pos rfl]
      refine ⟨env3, _, M4, _, EX0, re3.keep k4, rs4, q4, fun v H5 μ5 d M5 k5 rs5 r5 q5 => ?_, xe0⟩
      have k25 := k24.trans k5
      obtain ⟨ν5, f5⟩ := μ5
      have ef : f5 = L :: μa.f := k25.ff
      subst ef
      have hL5 : H5 L = some (.lst ws) := k25.objs _ _ hLw (rs.ft L List.mem_cons_self).1 (by intro _ z; cases z)
      have ra5 := ra.keep k25
      obtain ⟨c6, rs6⟩ := RelS.hidden (μ := ⟨ν5, μa.f⟩) (p := L) (vs := ws ++ [v]) rs5
      refine ⟨ws, hL5, by rw [ra5.length]; exact q5.1, ν5, M5, ws ++ [v], acc ++ [d], (k.thru k25).upd_new hL0, (c.trans k25.car).trans c6, rs6, upd_same, (ra5.append (.cons r5 .nil)).car c6, q5.2⟩
  · have e : i = items.length := by omega
    rw [e, List.drop_length] at q
    exact .inl ⟨(j H _ M i c rs q.1).1 (by omega), hq L ws H ⟨ν, μa.f⟩ acc M k rs hL0 hpf hLw ra q.2⟩
theorem df_lc {elt iter : Expr} {ifs : List Expr} {scope : Scope} {own : List (Str × Nat)} {wi : WI} {g : WG} {tt : WT} {te : WE} {is : List Nat} (hc : X.calm = true) (hN : X.N.Nodup) (hi : DI X W tg iter wi) (ok : BlkOk X.N X.env.scope scope own)
    (hg : ∀ (s : Shared) (H : Hp) (C : Addr) (cl : List (Str × Addr)) (fp : List Addr), DG (X.blk s H scope (compEnvC scope cl C X.env) fp) tg is g) (ht : ∀ (s : Shared) (H : Hp) (C : Addr) (cl : List (Str × Addr)) (fp : List Addr), DTs (X.blk s H scope (compEnvC scope cl C X.env) fp) ifs tt)
    (he : ∀ (s : Shared) (H : Hp) (C : Addr) (cl : List (Str × Addr)) (fp : List Addr), DE (X.blk s H scope (compEnvC scope cl C X.env) fp) W0 elt te) (his : ∀ i ∈ is, i ∈ own.map (·.2)) (hs : ∀ x, foldedSetIterable iter X.env x = pure x := by intro _; rfl) :
    DF X W (.ListComp elt [⟨tg, iter, ifs, 0⟩] scope pos) (wLc wi g tt te (own.map (·.2))) :=
  ⟨pe_mono (pe_lc (g := tDG X.K is g) (tt := tDT X.K W0 tt) (te := tD X.K W0 te) hc hN hi.pi ok (fun s H C cl fp => (hg s H C cl fp).pg) (fun s H C cl fp => (ht s H C cl fp).pts) (fun s H C cl fp => (he s H C cl fp).pe) hs) fun _ _ _ h => lc_D his h⟩
/-- name = [..] : the new list frozen, or at a new handle -/
def wLcS (i : Nat) (w : WE) : WS := wSet i w
theorem ds_setLc {i : Nat} {y : Str} {py spos : Pos} {elt iter : Expr} {ifs : List Expr} {scope : Scope} {own : List (Str × Nat)} {wi : WI} {g : WG} {tt : WT} {te : WE} {is : List Nat} (hc : X.calm = true) (hN : X.N.Nodup) (hy : X.N[i]? = some y) (hyl : X.env.scope.names.lookup y = some .local)
    (hsw : swapsWith (.ListComp elt [⟨tg, iter, ifs, 0⟩] scope pos) (some (.Name y py)) spos.line X.env = pure true) (hi : DI X W tg iter wi) (ok : BlkOk X.N X.env.scope scope own)
    (hg : ∀ (s : Shared) (H : Hp) (C : Addr) (cl : List (Str × Addr)) (fp : List Addr), DG (X.blk s H scope (compEnvC scope cl C X.env) fp) tg is g) (ht : ∀ (s : Shared) (H : Hp) (C : Addr) (cl : List (Str × Addr)) (fp : List Addr), DTs (X.blk s H scope (compEnvC scope cl C X.env) fp) ifs tt)
    (he : ∀ (s : Shared) (H : Hp) (C : Addr) (cl : List (Str × Addr)) (fp : List Addr), DE (X.blk s H scope (compEnvC scope cl C X.env) fp) W0 elt te) (his : ∀ i ∈ is, i ∈ own.map (·.2)) (hs : ∀ x, foldedSetIterable iter X.env x = pure x := by intro _; rfl)
    {w : WE} (conv : ∀ σ H Q, tD X.K W w σ H Q → tF X.K W (wLc wi g tt te (own.map (·.2))) σ H Q) :
    DS X W (.Assign [.Name y py] (.ListComp elt [⟨tg, iter, ifs, 0⟩] scope pos) spos) (wSet i w) := by
  refine ⟨ps_mono (ps_setLc (g := tDG X.K is g) (tt := tDT X.K W0 tt) (te := tD X.K W0 te) hc hN hy hyl hsw hi.pi ok (fun s H C cl fp => (hg s H C cl fp).pg) (fun s H C cl fp => (ht s H C cl fp).pts) (fun s H C cl fp => (he s H C cl fp).pe) hs) fun D' σ H ⟨env, μ, M, DD, re, rs, hw, o⟩ => ?_⟩
  refine lc_D his (conv σ H _ ⟨env, μ, M, _, _, re, rs, hw, fun v H1 μ1 d M1 k1 rs1 r1 q1 => ?_, o.xe re⟩)
  exact o.nx _ H1 μ1 _ M1 k1 ((re.keep k1).set i r1) rs1 q1
/-- the two ways of a fresh list, as carried over -/
theorem conv_fz {w : WFr} {σ : L2.St} {H : Hp} {Q : VK} (h : tD K W (wFz w) σ H Q) : tF K W w σ H Q := by
  obtain ⟨env, μ, M, QD, ED, re, rs, hw, hq, hx⟩ := h
  refine ⟨env, μ, M, _, ED, re, rs, hw, fun p vs H1 μ1 ds M1 k1 rs1 hp pf e1 r1 q1 => ?_, hx⟩
  obtain ⟨r, n1, n2⟩ := rs1.show_ pf
  exact hq _ H1 μ1 _ M1 k1 r (.lst e1 n1 n2 (r1.car .show_)) q1
theorem conv_mu {w : WFr} {σ : L2.St} {H : Hp} {Q : VK} (h : tD K W (wMu w) σ H Q) : tF K W w σ H Q := by
  obtain ⟨env, μ, M, QD, ED, re, rs, hw, hq, hx⟩ := h
  refine ⟨env, μ, M, _, ED, re, rs, hw, fun p vs H1 μ1 ds M1 k1 rs1 hp pf e1 r1 q1 => ?_, hx⟩
  have r := rs1.more pf e1 r1
  refine hq _ H1 (μ1.more p) _ _ (k1.more hp) r (.han ?_ (by rw [e1]; rfl)) q1
  show (μ1.h ++ [p])[M1.length]? = some p
  rw [show M1.length = μ1.h.length from rs1.len]
  simp
end
end DL

namespace DL
open PySem PySem.Spec PyProof.Rows L2

/-! ## defs -/
mutual
theorem Rep.old_ {K : PySem.W.Frag} {H : Hp} {μ : Mu} : ∀ {v : V} {d : D}, Rep K H μ v d → old μ.h.length d = true
  | _, _, .non => rfl
  | _, _, .bl b => rfl
  | _, _, .int i => rfl
  | _, _, .str x => rfl
  | _, _, .ty n => rfl
  | _, _, .ref a => rfl
  | _, _, .exc _ => rfl
  | _, _, .tup h r => by simpa [old] using Reps.olds_ r
  | _, _, .lst h n1 nf r => by simpa [old] using Reps.olds_ r
  | _, _, .fix h r => by simpa [old] using Reps.olds_ r
  | _, _, .dct h _ r => by simpa [old] using Reps.olds_ r
  | _, _, .han h _ => by simpa [old] using (List.getElem?_eq_some_iff.mp h).1
  | _, _, .dh h _ => by simpa [old] using (List.getElem?_eq_some_iff.mp h).1
theorem Reps.olds_ {K : PySem.W.Frag} {H : Hp} {μ : Mu} : ∀ {vs : List V} {ds : List D}, Reps K H μ vs ds → olds μ.h.length ds = true
  | _, _, .nil => rfl
  | _, _, .cons r t => by simp [olds, Rep.old_ r, Reps.olds_ t]
end
theorem olds_kD (n : Nat) : ∀ ks : List Key, olds n (ks.map kD) = true
  | [] => rfl
  | .inl i :: ks => olds_kD n ks
  | .inr x :: ks => olds_kD n ks
theorem olds_kT (n : Nat) {β : Type} : ∀ kvs : List (List Key × β), olds n (kvs.map fun kv => D.tup (kv.1.map kD)) = true
  | [] => rfl
  | kv :: kvs => by
    show (olds n (kv.1.map kD) && olds n (kvs.map _)) = true
    rw [olds_kD, olds_kT n kvs]; rfl
theorem Cell.olds_ {K : PySem.W.Frag} {H : Hp} {μ : Mu} {a : Addr} {ds : List D} (c : Cell K H μ a ds) : olds μ.h.length ds = true := by
  rcases c with ⟨vs, h1, h2⟩ | ⟨kvs, es, h1, rfl, h2⟩ | ⟨kvs, es, h1, rfl, h2⟩
  · exact h2.olds_
  · show (olds μ.h.length es && true) = true
    rw [h2.olds_]; rfl
  · show (olds μ.h.length (kvs.map _) && (olds μ.h.length es && true)) = true
    rw [h2.olds_, olds_kT]; rfl
theorem Cell.cut {K : PySem.W.Frag} {H : Hp} {μ : Mu} {n : Nat} {a : Addr} {ds : List D} (c : Cell K H μ a ds) (o : olds n ds = true) : Cell K H (μ.cut n) a ds := by
  rcases c with ⟨vs, h1, h2⟩ | ⟨kvs, es, h1, rfl, h2⟩ | ⟨kvs, es, h1, rfl, h2⟩
  · exact .inl ⟨vs, h1, h2.cut o⟩
  · have o : (olds n es && true) = true := o
    rw [Bool.and_true] at o
    exact .inr (.inl ⟨kvs, es, h1, rfl, h2.cut o⟩)
  · have o : (olds n (kvs.map fun kv => D.tup (kv.1.map kD)) && (olds n es && true)) = true := o
    rw [olds_kT, Bool.true_and, Bool.and_true] at o
    exact .inr (.inr ⟨kvs, es, h1, rfl, h2.cut o⟩)
/-- the handles that stood ahead of a call still hold what they held, or data of old handles alone -/
def Gc (M M1 : Me) : Prop := ∀ (j : Nat) (ds : List D), j < M.length → M1[j]? = some ds → M[j]? = some ds ∨ olds M.length ds = true
theorem RelS.cut {K : PySem.W.Frag} {H H1 : Hp} {μ μ1 : Mu} {M M1 : Me} (r0 : RelS K H μ M) (k : Keep H μ H1 μ1) (r : RelS K H1 μ1 M1) (g : Gc M M1) :
    Keep H μ H1 (μ1.cut M.length) ∧ RelS K H1 (μ1.cut M.length) (M1.take M.length) ∧ M.length ≤ M1.length ∧ μ1.h.take M.length = μ.h := by
  obtain ⟨ν, e⟩ := k.pre
  have el : M.length = μ.h.length := r0.len
  have e2 : μ1.h.take M.length = μ.h := by rw [e, el, List.take_left]
  have e3 : M.length ≤ M1.length := by rw [r.len, e, List.length_append]; omega
  refine ⟨⟨k.src, k.objs, ⟨[], by show μ1.h.take M.length = _; rw [e2, List.append_nil]⟩, k.ff, fun a ha => .inl ?_, k.tbs, k.knd⟩, ⟨?_, ?_, fun h a ds h1 h2 => ?_, fun a ha => ?_, r.tb⟩, e3, e2⟩
  · have ha : a ∈ μ1.h.take M.length := ha
    rwa [e2] at ha
  · show (M1.take M.length).length = (μ1.h.take M.length).length
    rw [List.length_take, List.length_take, r.len]
  · exact r.nd.sublist (List.take_sublist _ _)
  · have h1 : (μ1.h.take M.length)[h]? = some a := h1
    have hl : h < M.length := by
      have := (List.getElem?_eq_some_iff.mp h1).1
      rw [List.length_take] at this
      omega
    rw [List.getElem?_take_of_lt hl] at h1 h2
    refine (r.at2 h a ds h1 h2).cut ?_
    rcases g h ds hl h2 with z | z
    · have h5 : μ.h[h]? = some a := by
        rw [e, List.getElem?_append_left (by omega)] at h1
        exact h1
      rw [el]; exact (r0.at2 h a ds h5 z).olds_
    · exact z
  · refine ⟨fun z => (r.ft a ?_).1 (List.mem_of_mem_take z), (r.ft a ?_).2⟩ <;> exact ha
/-- what a def's caller gets -/
def retQ (M : Me) (QD : D → Me → Prop) (d : D) (M1 : Me) : Prop := Gc M M1 ∧ ((old M.length d = true ∧ QD d (M1.take M.length)) ∨
  (∃ (h : Nat) (ds : List D), d = .han h ∧ M.length ≤ h ∧ M1[h]? = some ds ∧ olds M.length ds = true ∧ (QD (.lst ds) (M1.take M.length) ∨ QD (.han M.length) (M1.take M.length ++ [ds]))) ∨
  (∃ (x : D) (h : Nat) (ds : List D), d = .tup [x, .han h] ∧ old M.length x = true ∧ M.length ≤ h ∧ M1[h]? = some ds ∧ olds M.length ds = true ∧ (QD (.tup [x, .lst ds]) (M1.take M.length) ∨ QD (.tup [x, .han M.length]) (M1.take M.length ++ [ds]))))
def retX (M : Me) (ED : EX → Me → Prop) (x : EX) (M1 : Me) : Prop := Gc M M1 ∧ (∀ n d, x.arg = some (n, d) → old M.length d = true) ∧ ED x (M1.take M.length)
abbrev retE (M : Me) (QD : D → Me → Prop) (ED : EX → Me → Prop) : EndD := { nx := fun _ M1 => retQ M QD .non M1, rt := retQ M QD, bk := fun _ _ => False, ct := fun _ _ => False, ex := fun x _ M1 => retX M ED x M1 }
def env0 (m : Nat) (ds : List D) : En := ds.map some ++ List.replicate (m - ds.length) none
theorem rel_start {K : PySem.W.Frag} {H : Hp} {μ : Mu} {vs : List V} {ds : List D} {N : List Str} (r : Reps K H μ vs ds) : RelE K H μ (L2.start N vs) (env0 N.length ds) := by
  have hl := r.length
  refine ⟨by simp [L2.start, env0, hl], fun i d e => ?_⟩
  unfold env0 at e
  unfold L2.start
  by_cases hi : i < ds.length
  · rw [List.getElem?_append_left (by simpa using hi), List.getElem?_map] at e
    rw [List.getElem?_append_left (by simpa [hl] using hi), List.getElem?_map]
    cases e2 : ds[i]? with
    | none => rw [e2] at e; cases e
    | some d' =>
      rw [e2] at e
      cases e
      obtain ⟨v, h1, h2⟩ := r.get e2
      exact ⟨v, by rw [h1]; rfl, h2⟩
  · rw [List.getElem?_append_right (by simpa using hi), List.getElem?_replicate] at e
    split at e <;> cases e
/-- a list made on the way, handed out as it is: the relations behind -/
theorem live_ok {K : PySem.W.Frag} {H : Hp} {μ : Mu} {M : Me} (rs : RelS K H μ M) {H1 : Hp} {μ1 : Mu} {M1 : Me} (k : Keep H μ H1 μ1) (r1 : RelS K H1 μ1 M1) (g : Gc M M1) (kc : Keep H μ H1 (μ1.cut M.length)) (rc : RelS K H1 (μ1.cut M.length) (M1.take M.length)) (e2 : μ1.h.take M.length = μ.h)
    {h : Nat} {a : Addr} {ds : List D} {vs : List V} (hm : μ1.h[h]? = some a) (hge : M.length ≤ h) (ho : olds M.length ds = true) (e3 : H1 a = some (.lst vs)) (rr : Reps K H1 μ1 vs ds) :
    Keep H μ H1 ((μ1.cut M.length).more a) ∧ RelS K H1 ((μ1.cut M.length).more a) (M1.take M.length ++ [ds]) ∧ ((μ1.cut M.length).more a).h[M.length]? = some a ∧ ∀ (v : V) (x : D), Rep K H1 μ1 v x → old M.length x = true → Rep K H1 ((μ1.cut M.length).more a) v x := by
  have na : a ∉ μ1.h.take M.length := fun z => by
    obtain ⟨j, hj⟩ := List.getElem?_of_mem z
    have hl : j < M.length := by
      have := (List.getElem?_eq_some_iff.mp hj).1
      rw [List.length_take] at this
      omega
    rw [List.getElem?_take_of_lt hl] at hj
    have := nodup_at r1.nd hj hm
    omega
  have nf : a ∉ μ1.f := fun z => (r1.ft a z).1 (List.mem_of_getElem? hm)
  have hn : H a = none := by
    rcases k.new a (List.mem_of_getElem? hm) with z | z
    · rw [← e2] at z; exact absurd z na
    · exact z
  have rh : RelS K H1 ((μ1.cut M.length).hide a) (M1.take M.length) := by
    refine ⟨rc.len, rc.nd, fun h b es h1 h2 => ?_, fun b hb => ?_, rc.tb⟩
    · have h1' : (μ1.h.take M.length)[h]? = some b := h1
      have hl : h < M.length := by
        have := (List.getElem?_eq_some_iff.mp h1').1
        rw [List.length_take] at this
        omega
      rw [List.getElem?_take_of_lt hl] at h1' h2
      have h4 := r1.at2 h b es h1' h2
      have hol : olds M.length es = true := by
        rcases g h es hl h2 with z | z
        · obtain ⟨ν, e⟩ := k.pre
          have h5 : μ.h[h]? = some b := by
            have el : M.length = μ.h.length := rs.len
            rw [e, List.getElem?_append_left (by omega)] at h1'
            exact h1'
          rw [rs.len]; exact (rs.at2 h b es h5 z).olds_
        · exact z
      have c : Car H1 μ1 H1 (μ1.hide a) := ⟨fun _ _ e _ _ _ => e, fun x xs e n1 n2 => ⟨e, n1, fun z => by
        rcases List.mem_cons.mp z with z | z
        · subst z; exact n1 (List.mem_of_getElem? hm)
        · exact n2 z⟩, fun _ _ e => e, fun _ _ e n => ⟨e, n⟩, fun _ _ => rfl⟩
      exact (h4.to rfl fun _ _ z => z.car c).cut (μ := μ1.hide a) hol
    · rcases List.mem_cons.mp hb with rfl | hb
      · exact ⟨na, vs, e3⟩
      · exact rc.ft b hb
  have c : Car H1 μ1 H1 (μ1.hide a) := ⟨fun _ _ e _ _ _ => e, fun x xs e n1 n2 => ⟨e, n1, fun z => by
      rcases List.mem_cons.mp z with z | z
      · subst z; exact n1 (List.mem_of_getElem? hm)
      · exact n2 z⟩, fun _ _ e => e, fun _ _ e n => ⟨e, n⟩, fun _ _ => rfl⟩
  have rm := RelS.more (μ := μ1.cut M.length) rh nf e3 ((rr.car c).cut (μ := μ1.hide a) ho)
  refine ⟨kc.more hn, rm, ?_, fun v x rx hx => ((rx.car c).cut (μ := μ1.hide a) hx).car (Car.more rh)⟩
  show (μ1.h.take M.length ++ [a])[M.length]? = some a
  rw [e2, rs.len]
  simp
theorem ret_ok {K : PySem.W.Frag} {H : Hp} {μ : Mu} {M : Me} {QD : D → Me → Prop} {Q : VK} (rs : RelS K H μ M)
    (hq : ∀ (v : V) (H' : Hp) (μ' : Mu) (d : D) (M' : Me), Keep H μ H' μ' → RelS K H' μ' M' → Rep K H' μ' v d → QD d M' → Q v H')
    {v : V} {H1 : Hp} {μ1 : Mu} {d : D} {M1 : Me} (k : Keep H μ H1 μ1) (r1 : RelS K H1 μ1 M1) (r : Rep K H1 μ1 v d) (q : retQ M QD d M1) : Q v H1 := by
  obtain ⟨g, q⟩ := q
  obtain ⟨kc, rc, hle, e2⟩ := rs.cut k r1 g
  rcases q with ⟨ho, q⟩ | ⟨h, ds, rfl, hge, e1, ho, q⟩ | ⟨x, h, ds, rfl, hx, hge, e1, ho, q⟩
  · exact hq v H1 _ d _ kc rc (r.cut ho) q
  rotate_left
  · cases r with
    | tup sq rr =>
      cases rr with
      | cons rx rr =>
        cases rr with
        | cons ra rr =>
          cases rr
          cases ra with
          | han hm hk =>
            rename_i a
            obtain ⟨vs, e3, rr⟩ := r1.at_ _ _ _ hm e1
            have na : a ∉ μ1.h.take M.length := fun z => by
              obtain ⟨j, hj⟩ := List.getElem?_of_mem z
              have hl : j < M.length := by
                have := (List.getElem?_eq_some_iff.mp hj).1
                rw [List.length_take] at this
                omega
              rw [List.getElem?_take_of_lt hl] at hj
              have := nodup_at r1.nd hj hm
              omega
            have nf : a ∉ μ1.f := fun z => (r1.ft a z).1 (List.mem_of_getElem? hm)
            rcases q with q | q
            · exact hq _ H1 _ _ _ kc rc (.tup sq (.cons (rx.cut hx) (.cons (.lst e3 na nf (rr.cut ho)) .nil))) q
            · obtain ⟨k2, r2, h2, h3⟩ := live_ok rs k r1 g kc rc e2 hm hge ho e3 rr
              exact hq _ H1 _ _ _ k2 r2 (.tup sq (.cons (h3 _ _ rx hx) (.cons (.han h2 (by rw [e3]; rfl)) .nil))) q
  · cases r with
    | han hm hk =>
      rename_i a
      obtain ⟨vs, e3, rr⟩ := r1.at_ _ _ _ hm e1
      have na : a ∉ μ1.h.take M.length := fun z => by
        obtain ⟨j, hj⟩ := List.getElem?_of_mem z
        have hl : j < M.length := by
          have := (List.getElem?_eq_some_iff.mp hj).1
          rw [List.length_take] at this
          omega
        rw [List.getElem?_take_of_lt hl] at hj
        have := nodup_at r1.nd hj hm
        omega
      have nf : a ∉ μ1.f := fun z => (r1.ft a z).1 (List.mem_of_getElem? hm)
      rcases q with q | q
      · exact hq _ H1 _ _ _ kc rc (.lst e3 na nf (rr.cut ho)) q
      · obtain ⟨k2, r2, h2, _⟩ := live_ok rs k r1 g kc rc e2 hm hge ho e3 rr
        exact hq _ H1 _ _ _ k2 r2 (.han h2 (by rw [e3]; rfl)) q
abbrev WXo (E : XK) : WX := fun cls d _ H => E cls d H
theorem fnD_of {P : Program} {w : World} {K : PySem.W.Frag} {mg : Str → Option Value} {base : Heap} {x qual : Str} {params : Arguments} {body : List Stmt} {scope : Scope} {f : Addr} {fd : FuncData} {N ps : List Str} {k n : Nat} {wf : WF} {wb : WS}
    (F : FunD K x qual params body scope [] [] f fd) (S : FnScope N ps scope) (hn : ps.length = n)
    (hbody : ∀ (cdv : Value) (A : Around) (outer : List Env) (s : Shared) (H : Hp) (E : XK), Room k (A.deeper (envOfC qual scope s.heap.objs.size f cdv)) →
      DB (cxOf (L2N.CX P w) P w K mg base N qual scope f cdv A outer s H E) (WXo E) body wb)
    (spec : ∀ (ds : List D) (M : Me) (QD : D → Me → Prop) (ED : EX → Me → Prop), ds.length = n → wf ds M QD ED → wb (env0 N.length ds) M (retE M QD ED)) :
    FnOk P w K mg base (L2N.CX P w) (k + 1) f fd ps (spD K n wf) := by
  refine F.ok S (fun vs H Q E ⟨ds, μ, M, QD, ED, r, rs, hl, _⟩ => by rw [r.length, hl, hn]) (fun cdv A outer s H vs Q E hr ⟨ds, μ, M, QD, ED, r, rs, hl, h, hq, hx⟩ => ⟨_, (hbody cdv A outer s H E hr).pss, ?_⟩)
  refine ⟨env0 N.length ds, μ, M, _, rel_start r, rs, spec ds M QD ED hl h, ?_⟩
  exact {
    nx := fun σ H' μ' env M' k _ rs' q => ret_ok rs hq k rs' .non q
    rt := fun v H' μ' d M' k rs' r' q => ret_ok rs hq k rs' r' q
    bk := fun _ _ _ _ _ _ _ _ q => q.elim
    ct := fun _ _ _ _ _ _ _ _ q => q.elim
    ex := fun cls a σ H' μ' y env M' k _ rs' rx ⟨g, ho, q⟩ => by
      obtain ⟨kc, rc, _, _⟩ := rs.cut k rs' g
      refine hx cls a H' _ y _ kc rc ⟨rx.1, rx.2.1, fun m d e => ?_⟩ q
      obtain ⟨dd, v, h1, h2, h3⟩ := rx.2.2 m d e
      exact ⟨dd, v, h1, h2, h3.cut (ho m d e)⟩ }
theorem dcal_of {P : Program} {w : World} {K : PySem.W.Frag} {mg : Str → Option Value} {base : Heap} {x qual : Str} {params : Arguments} {body : List Stmt} {scope : Scope} {f : Addr} {fd : FuncData} {ps : List Str} {k n : Nat} {wf : WF}
    (F : FunD K x qual params body scope [] [] f fd) (hm : mg x = some (.ref f)) (hb : Binds K fd ps []) (hn : ps.length = n) (ok : FnOk P w K mg base (L2N.CX P w) k f fd ps (spD K n wf)) : DCal P w K mg base k x n wf :=
  ⟨f, fd, ps, hm, F.kp, hb, hn, ok⟩
section
variable {X : Cx} {W : WX} {e : Expr} {pos : Pos} {K : PySem.W.Frag}
/-! ### raise -/
def wRaise (n : Str) : WS := fun env M DD => DD.ex ⟨n, none⟩ env M
theorem ds_raise {n : Str} (hc : X.calm = true) (tk : L2N.Takes X W) (he : L2N.PMk X e (fun _ H Q => Q (.ref (He.ga X.K n)) none H)) : DS X W (.Raise (some e) none pos) (wRaise n) :=
  ⟨ps_mono (L2N.ps_raise hc tk he) fun D' σ H ⟨env, μ, M, DD, re, rs, hw, o⟩ => o.ex _ none σ H μ _ env M rs.refl re rs ⟨rfl, fun _ => rfl, fun _ _ z => by cases z⟩ hw⟩
/-- raise X("..") of the class by name -/
theorem ds_raiseX {n m : Str} {j : Nat} {p p2 p3 : Pos} (hc : X.calm = true) (tk : L2N.Takes X W) (gC : X.mg n = some (.ref (He.ga X.K n))) (q : PySem.W.excIn X.K (He.ga X.K n) [.type "ValueError", .type "Exception", .type "BaseException", .type "object"] "ValueError.__new__" = true)
    (kC : PySem.W.keepIn X.K (.ref (He.ga X.K n)) = true) (r : Raises X (.ref (He.ga X.K n))) (hg : Gl X n) (hdb : (n == ("__debug__" : Str)) = false) :
    DS X W (.Raise (some (.Call (.Name n p) [.Constant (.str m) j p2] [] p3)) none pos) (wRaise n) := ds_raise hc tk (L2N.pmk_own PySem.F.excBase_ValueError q gC kC r hg hdb)
end
/-! ### the law -/
def OnlyT (H : Hp) : Prop := ∀ b, H b = none ∨ (∃ ps, H b = some (.tbl ps)) ∨ ∃ o xs, H b = some (.frz o (.lst xs))
theorem law_sp {K : PySem.W.Frag} {wf : WF} {H : Hp} {a : Addr} {ns : List Int} (hO : OnlyT H) (hT : LamX.Tabs (lamT K) H) (hS : SqL K H a (ns.map V.int)) (h : wf [.fls (ns.map .int)] [] (fun d _ => d = .bl true) (fun _ _ => False)) :
    spD K 1 wf [.ref a] H (fun v _ => v = .bl true) fun _ _ _ => False := by
  refine ⟨[.fls (ns.map .int)], ⟨[], []⟩, [], _, _, .cons (.fix ?_ (Reps.map ns fun x _ => .int x)) .nil, ⟨rfl, .nil, fun h a ds h1 _ => by simp at h1, fun a ha => (by cases ha), hT⟩, rfl, h, fun v H' μ' d M' _ _ r q => ?_, fun _ _ _ _ _ _ _ _ _ z => z⟩
  · rcases hS with (hS | ⟨o, hS⟩) | hS
    · rcases hO a with z | ⟨o, z⟩ | ⟨o, xs, z⟩
      · rw [hS] at z; cases z
      · rw [hS] at z; cases z
      · rw [hS] at z; cases z
    · exact .inl ⟨o, hS⟩
    · exact .inr hS
  · subst q
    cases r; rfl
end DL

namespace DL
open PySem PySem.Spec PyProof.Rows L2
section
variable {X : Cx} {W : WX} {a b c e : Expr} {es : List Expr} {wa wb wc : WE} {wr : WA} {pos p : Pos} {x : Str} {K : PySem.W.Frag}
/-! ## the built-ins by name -/
theorem bi_abs (hg : Gl X "abs") (hm : X.mg "abs" = none) (ha : DA X W [a] wr) (he : starEach [a] X.env = (false, eval a X.env) :: starEach [] X.env := by rfl) : DE X W (.Call (.Name "abs" p) [a] [] pos) (wCB fAbs wr) :=
  de_blt call_abs ok_abs hg hm (by decide +kernel) ha (by decide) (by decide) he (by rfl)
theorem bi_len (hg : Gl X "len") (hm : X.mg "len" = none) (ha : DA X W [a] wr) (he : starEach [a] X.env = (false, eval a X.env) :: starEach [] X.env := by rfl) : DE X W (.Call (.Name "len" p) [a] [] pos) (wCB fLen wr) :=
  de_blt (call_len_str.or call_len_seq) ok_len hg hm (by decide +kernel) ha (by decide) (by decide) he (by rfl)
theorem bi_sum (hg : Gl X "sum") (hm : X.mg "sum" = none) (hc : X.calm = true) (ha : DA X W [a] wr) (he : starEach [a] X.env = (false, eval a X.env) :: starEach [] X.env := by rfl) : DE X W (.Call (.Name "sum" p) [a] [] pos) (wCB fSum wr) :=
  de_blt (cr_sum hc) ok_sum hg hm (by decide +kernel) ha (by decide) (by decide) he (by rfl)
theorem bi_any (hg : Gl X "any") (hm : X.mg "any" = none) (hc : X.calm = true) (ha : DA X W [a] wr) (he : starEach [a] X.env = (false, eval a X.env) :: starEach [] X.env := by rfl) : DE X W (.Call (.Name "any" p) [a] [] pos) (wCB fAny wr) :=
  de_blt (cr_any hc) ok_any hg hm (by decide +kernel) ha (by decide) (by decide) he (by rfl)
theorem bi_all (hg : Gl X "all") (hm : X.mg "all" = none) (hc : X.calm = true) (ha : DA X W [a] wr) (he : starEach [a] X.env = (false, eval a X.env) :: starEach [] X.env := by rfl) : DE X W (.Call (.Name "all" p) [a] [] pos) (wCB fAll wr) :=
  de_blt (cr_all hc) ok_all hg hm (by decide +kernel) ha (by decide) (by decide) he (by rfl)
theorem bi_int (hg : Gl X "int") (hm : X.mg "int" = none) (ha : DA X W [a] wr) (he : starEach [a] X.env = (false, eval a X.env) :: starEach [] X.env := by rfl) : DE X W (.Call (.Name "int" p) [a] [] pos) (wCB fInt wr) :=
  de_btp call_int1 ok_int hg hm (by decide +kernel) ha (by decide) (by decide) he (by rfl)
theorem bi_str (hg : Gl X "str") (hm : X.mg "str" = none) (ha : DA X W [a] wr) (he : starEach [a] X.env = (false, eval a X.env) :: starEach [] X.env := by rfl) : DE X W (.Call (.Name "str" p) [a] [] pos) (wCB fStr wr) :=
  de_btp call_str_int ok_str hg hm (by decide +kernel) ha (by decide) (by decide) he (by rfl)
theorem bi_tuple (hg : Gl X "tuple") (hm : X.mg "tuple" = none) (ha : DA X W [a] wr) (he : starEach [a] X.env = (false, eval a X.env) :: starEach [] X.env := by rfl) : DE X W (.Call (.Name "tuple" p) [a] [] pos) (wCB fTuple wr) :=
  de_btp call_tuple_of ok_tuple hg hm (by decide +kernel) ha (by decide) (by decide) he (by rfl)
theorem bi_min2 (hg : Gl X "min") (hm : X.mg "min" = none) (hc : X.calm = true) (ha : DA X W [a, b] wr) (he : starEach [a, b] X.env = (false, eval a X.env) :: starEach [b] X.env := by rfl) (hpl : (backTo pos (starEach [b] X.env)).any (·.1) = false := by rfl) : DE X W (.Call (.Name "min" p) [a, b] [] pos) (wCB fMin2 wr) :=
  de_blt (call_min2 hc) ok_min2 hg hm (by decide +kernel) ha (by decide) (by decide) he hpl
theorem bi_max2 (hg : Gl X "max") (hm : X.mg "max" = none) (hc : X.calm = true) (ha : DA X W [a, b] wr) (he : starEach [a, b] X.env = (false, eval a X.env) :: starEach [b] X.env := by rfl) (hpl : (backTo pos (starEach [b] X.env)).any (·.1) = false := by rfl) : DE X W (.Call (.Name "max" p) [a, b] [] pos) (wCB fMax2 wr) :=
  de_blt (call_max2 hc) ok_max2 hg hm (by decide +kernel) ha (by decide) (by decide) he hpl
theorem bi_list (hg : Gl X "list") (hm : X.mg "list" = none) (ha : DA X W [a] wr) (he : starEach [a] X.env = (false, eval a X.env) :: starEach [] X.env := by rfl) : DF X W (.Call (.Name "list" p) [a] [] pos) (wCBF fList wr) :=
  ⟨pe_mono (pe_callTy call_list_of hg hm (by decide +kernel) ha.pa (by decide) (by decide) he (by rfl)) fun _ _ _ h => tCB_F ok_list h⟩
theorem dt_chain {op op' : CmpOp} {r r' : R2} {f g : F2} (ho : OpR X (compareOp op) r) (hf : OkR X.K r f) (ho' : OpR X (compareOp op') r') (hg : OkR X.K r' g) (ha : DE X W a wa) (hb : DE X W b wb) (hc : DE X W c wc)
    (hm : lastMarks [op, op'] [b, c] = false := by rfl) : DT X W (.Compare a [op, op'] [b, c] pos) (wB (wChain f g wa wb wc)) := by
  refine ⟨pt_mono (pt_chain ho ho' ha.pe hb.pe hc.pe (hm := hm)) fun σ H Q ⟨env, μ, M, QD, ED, re, rs, hw, hq, hx⟩ => ?_⟩
  refine tChain_D hf hg ⟨env, μ, M, _, ED, re, rs, hw, fun v H1 μ1 d M1 k1 rs1 r1 q1 => ?_, hx⟩
  cases d with
  | bl k =>
    cases r1
    exact ⟨k, rfl, hq k H1 μ1 M1 k1 rs1 q1⟩
  | _ => exact q1.elim
end
/-! ## lemmas for the reading -/
theorem room64 {j : Nat} {A : Around} (hr : Room j A) : A.units + 64 < cLine := hr.units
theorem takes0N {X : Cx} : L2N.Takes X W0 := fun u s' ⟨_, _, _, _, _, _, _, _, _, _, _, _, _, _, _, _, w⟩ => w.elim
theorem pso {P : Program} {w : World} {K : PySem.W.Frag} {mg : Str → Option Value} {base : Heap} {N : List Str} {qual : Str} {scope : Scope} {f : Addr} {cdv : Value} {A : Around} {outer : List Env} {s : Shared} {H : Hp} {E : XK} :
    PassesOwn (model P w) (cxOf (L2N.CX P w) P w K mg base N qual scope f cdv A outer s H E).A (cxOf (L2N.CX P w) P w K mg base N qual scope f cdv A outer s H E).env (cxOf (L2N.CX P w) P w K mg base N qual scope f cdv A outer s H E).xe := passes_of rfl
theorem tko {P : Program} {w : World} {K : PySem.W.Frag} {mg : Str → Option Value} {base : Heap} {N : List Str} {qual : Str} {scope : Scope} {f : Addr} {cdv : Value} {A : Around} {outer : List Env} {s : Shared} {H : Hp} {E : XK} :
    L2N.Takes (cxOf (L2N.CX P w) P w K mg base N qual scope f cdv A outer s H E) (WXo E) := L2N.takes_of rfl rfl rfl rfl
end DL

namespace DL
open PySem PySem.Spec PyProof.Rows L2

/-! ## numbers -/
/-- a fraction of the text -/
def fr (q : Rat) : D := .tup [.int q.num, .int (q.den : Int)]
/-- below 2 ^ n in size -/
def Sm (n : Nat) (i : Int) : Prop := i.natAbs < 2 ^ n
theorem Sm.ib {n : Nat} {i : Int} (h : Sm n i) : Builtin.Int.intBits i ≤ n := PySem.intBits_le_iff.mpr h
theorem Sm.of {n : Nat} {i : Int} (h : Builtin.Int.intBits i ≤ n) : Sm n i := PySem.intBits_le_iff.mp h
theorem Sm.mono {m n : Nat} {i : Int} (h : Sm m i) (hm : m ≤ n) : Sm n i := Nat.lt_of_lt_of_le h (Nat.pow_le_pow_right (by decide) hm)
theorem Sm.mul {m n : Nat} {i j : Int} (h : Sm m i) (h' : Sm n j) : Sm (m + n) (i * j) := by
  unfold Sm at *
  rw [Int.natAbs_mul, Nat.pow_add]
  exact Nat.mul_lt_mul'' h h'
theorem Sm.add {n : Nat} {i j : Int} (h : Sm n i) (h' : Sm n j) : Sm (n + 1) (i + j) := by
  unfold Sm at *
  rw [Nat.pow_succ]
  omega
theorem Sm.sub {n : Nat} {i j : Int} (h : Sm n i) (h' : Sm n j) : Sm (n + 1) (i - j) := by
  unfold Sm at *
  rw [Nat.pow_succ]
  omega
theorem Sm.neg {n : Nat} {i : Int} (h : Sm n i) : Sm n (-i) := by unfold Sm at *; omega
theorem Sm.mok {m n : Nat} {i j : Int} (h : Sm m i) (h' : Sm n j) (hl : m + n ≤ 134217728) : IntMulOk i j := IntMulOk.of_le h.ib h'.ib hl
theorem Sm.lg {n : Nat} {i : Int} (h : Sm n i) (hn : 0 < n) : i.natAbs.log2 < n := PySem.Flt.log2_lt_of hn h
theorem Sm.le {n : Nat} {i j : Int} (h : Sm n j) (h' : i.natAbs ≤ j.natAbs) : Sm n i := Nat.lt_of_le_of_lt h' h
theorem DivOk.of1 {n : Nat} {i j : Int} (hj : j ≠ 0) (h : Sm n i) (h0 : 0 < n) (hn : n ≤ 13500) : DivOk i j := ⟨hj, .inr (Nat.lt_of_lt_of_le (h.lg h0) hn)⟩
theorem DivOk.of2 {n : Nat} {i j : Int} (hj : j ≠ 0) (h : Sm n j) (h0 : 0 < n) (hn : n ≤ 9000) : DivOk i j := ⟨hj, .inl (Nat.lt_of_lt_of_le (h.lg h0) hn)⟩

/-- the greatest divisor, by Euclid's loop -/
theorem gcd_step (a b : Int) (ha : 0 ≤ a) (hb : 0 < b) : Int.gcd b (a.fmod b) = Int.gcd a b := by
  rw [Int.fmod_eq_emod_of_nonneg _ (by omega), Int.emod_def, Int.gcd_sub_mul_left_right, Int.gcd_comm]
theorem divInt_low {a b : Int} (hb : 0 < b) : (Rat.divInt a b).num = a / (Int.gcd a b : Int) ∧ ((Rat.divInt a b).den : Int) = b / (Int.gcd a b : Int) := by
  rw [Rat.num_divInt, Rat.den_divInt, if_neg (by omega), Int.sign_eq_one_of_pos hb, Int.one_mul, Int.gcd_comm]
  refine ⟨rfl, ?_⟩
  rw [Int.natCast_ediv, Int.natAbs_of_nonneg (by omega)]
theorem fr_low {a b : Int} (hb : 0 < b) : fr (Rat.divInt a b) = .tup [.int (a / (Int.gcd a b : Int)), .int (b / (Int.gcd a b : Int))] := by
  unfold fr
  rw [(divInt_low (a := a) hb).1, (divInt_low (a := a) hb).2]
theorem divInt_negneg (a b : Int) : Rat.divInt (0 - a) (0 - b) = Rat.divInt a b := by
  rw [Int.zero_sub, Int.zero_sub]
  exact Rat.neg_divInt_neg a b
/-! ## reading -/
theorem itt {c : Bool} {A B : Prop} (h : c = true) (q : A) : if c = true then A else B := by rw [h]; exact q
theorem itf {c : Bool} {A B : Prop} (h : c = false) (q : B) : if c = true then A else B := by rw [h]; exact q
theorem it2 {c : Bool} {A B : Prop} (h : c = true → A) (h' : c = false → B) : if c = true then A else B := by
  cases c with
  | true => exact h rfl
  | false => exact h' rfl
theorem retQ_pure {M : Me} {QD : D → Me → Prop} {d : D} (ho : old M.length d = true) (h : QD d M) : retQ M QD d M :=
  ⟨fun _ _ _ e => .inl e, .inl ⟨ho, by rw [List.take_length]; exact h⟩⟩
theorem retX_pure {M : Me} {ED : EX → Me → Prop} {n : Str} (h : ED ⟨n, none⟩ M) : retX M ED ⟨n, none⟩ M :=
  ⟨fun _ _ _ e => .inl e, fun _ _ z => (by cases z), (by rw [List.take_length]; exact h)⟩
/-- a list at a handle was changed -/
theorem retQ_set {M : Me} {QD : D → Me → Prop} {d : D} {h : Nat} {l : List D} (ho : old M.length d = true) (hl : olds M.length l = true) (hq : QD d (M.set h l)) : retQ M QD d (M.set h l) :=
  ⟨fun j ds _ e => by
    rcases set_get e with ⟨_, rfl, _⟩ | ⟨_, e⟩
    · exact .inr hl
    · exact .inl e, .inl ⟨ho, by rw [show M.length = (M.set h l).length by simp, List.take_length]; exact hq⟩⟩
example : old 3 (.tup [.int 1, .lst [.han 2]]) = true := rfl
instance (i j : Int) : Decidable (CPow i j) := inferInstanceAs (Decidable (_ ∧ _))
theorem nz {j : Int} (h : (j == 0) = false) : j ≠ 0 := by simpa using h
theorem byTail {α : Type} {G : Prop} {P : α → Prop} (h1 : (∀ c, P c) → G) (h2 : ∀ c, P c) : G := h1 h2
theorem byT {G P : Prop} (h1 : P → G) (h2 : P) : G := h1 h2
theorem Sm.fmod {n : Nat} {i j : Int} (h : Sm n j) (h0 : 0 < j) : Sm n (i.fmod j) := by
  have h1 := Int.fmod_nonneg_of_pos i h0
  have h2 := Int.fmod_lt_of_pos i h0
  exact h.le (by omega)
theorem forGo_ix {g : WG} {t : WS} {G : Me → Prop} {items : List D} {DD : EndD} (I : Nat → En → Me → Prop)
    (step : ∀ (i : Nat) (d : D) (env : En) (M : Me) (K : En → Me → Prop), items[i]? = some d → I i env M → (∀ env M, I (i + 1) env M → K env M) → G M ∧ g d env M fun env1 M1 => t env1 M1 { DD with nx := K, ct := K, bk := DD.nx })
    (done : ∀ env M, I items.length env M → G M ∧ DD.nx env M) {env : En} {M : Me} (h0 : I 0 env M) : forGo g t G items env M DD := by
  have go : ∀ (rest : List D) (k : Nat) (env : En) (M : Me), items.drop k = rest → k ≤ items.length → I k env M → forGo g t G rest env M DD := by
    intro rest
    induction rest with
    | nil =>
      intro k env M e hk h
      have : k = items.length := Nat.le_antisymm hk (List.drop_eq_nil_iff.mp e)
      subst this
      exact done env M h
    | cons d rest ih =>
      intro k env M e hk h
      have e1 : items[k]? = some d := by
        have : (items.drop k)[0]? = some d := by rw [e]; rfl
        simpa using this
      have hlt : k < items.length := (List.getElem?_eq_some_iff.mp e1).1
      refine step k d env M _ e1 h fun env2 M2 h2 => ih (k + 1) env2 M2 ?_ hlt h2
      rw [← List.drop_drop, e]
      rfl
  exact go items 0 env M rfl (Nat.zero_le _) h0
theorem lcGo_ix {g : WG} {tt : WT} {te : WE} {G : Me → Prop} {env0 : En} {Q : List D → Me → Prop} {items : List D} (I : Nat → List D → Me → Prop)
    (step : ∀ (i : Nat) (d : D) (acc : List D) (M : Me) (K : List D → Me → Prop), items[i]? = some d → I i acc M → (∀ acc M, I (i + 1) acc M → K acc M) → G M ∧ g d env0 M fun env1 M1 => tt env1 M1 (fun k M2 => if k = true then te env1 M2 (fun y M3 => acc.length < sizeLine ∧ K (acc ++ [y]) M3) EX0 else K acc M2) EX0)
    (done : ∀ acc M, I items.length acc M → G M ∧ Q acc M) {M : Me} (h0 : I 0 [] M) : lcGo g tt te G env0 Q items [] M := by
  have go : ∀ (rest : List D) (k : Nat) (acc : List D) (M : Me), items.drop k = rest → k ≤ items.length → I k acc M → lcGo g tt te G env0 Q rest acc M := by
    intro rest
    induction rest with
    | nil =>
      intro k env M e hk h
      have : k = items.length := Nat.le_antisymm hk (List.drop_eq_nil_iff.mp e)
      subst this
      exact done env M h
    | cons d rest ih =>
      intro k acc M e hk h
      have e1 : items[k]? = some d := by
        have : (items.drop k)[0]? = some d := by rw [e]; rfl
        simpa using this
      have hlt : k < items.length := (List.getElem?_eq_some_iff.mp e1).1
      refine step k d acc M (fun a m => lcGo g tt te G env0 Q rest a m) e1 h fun a2 M2 h2 => ih (k + 1) a2 M2 ?_ hlt h2
      rw [← List.drop_drop, e]
      rfl
  exact go items 0 [] M rfl (Nat.zero_le _) h0
theorem rgD_at {lo : Int} {n i : Nat} {d : D} (h : (rgD lo n)[i]? = some d) : i < n ∧ d = .int (lo + i) := by
  rw [rgD_get] at h
  split at h
  · cases h; exact ⟨by assumption, rfl⟩
  · cases h
theorem bls_rep (n : Nat) : blsD (List.replicate n (.bl true)) = some (List.replicate n true) := by
  induction n with
  | zero => rfl
  | succ n ih => show (blsD (List.replicate n (.bl true))).map _ = _; rw [ih]; rfl
theorem all_rep (n : Nat) : (List.replicate n true).all id = true := by
  induction n with
  | zero => rfl
  | succ n ih => exact ih
theorem zp_at {l : List D} {i : Nat} {d : D} (h : (zpD l l)[i]? = some d) : ∃ x, x ∈ l ∧ d = .tup [x, x] := by
  unfold zpD at h
  rw [List.getElem?_zipWith] at h
  cases e : l[i]? with
  | none => rw [e] at h; cases h
  | some x =>
    rw [e] at h
    cases h
    exact ⟨x, List.mem_of_getElem? e, rfl⟩
theorem zp_len (l : List D) : (zpD l l).length = l.length := by unfold zpD; simp
/-- values of a depth -/
def nice : Nat → D → Bool
  | _, .non => true
  | _, .bl _ => true
  | _, .int _ => true
  | _, .str _ => true
  | n + 1, .tup l => l.all (nice n) && decide (l.length ≤ 10000)
  | n + 1, .lst l => l.all (nice n) && decide (l.length ≤ 10000)
  | _, _ => false
theorem fdiv_gcd {a b : Int} : a.fdiv (Int.gcd a b : Int) = a / (Int.gcd a b : Int) := Int.fdiv_eq_ediv_of_nonneg a (Int.natCast_nonneg _)
theorem orz {u w : Int} {P : Int → Prop} (hw : w ≠ 0) (h : ∀ b, (b = u ∨ b = w) → b ≠ 0 → P b) : if (u != 0) = true then P u else P w := by
  by_cases hu : u = 0
  · rw [if_neg (by simp [hu])]; exact h w (.inr rfl) hw
  · rw [if_pos (by simp [hu])]; exact h u (.inl rfl) hu
theorem pm1 {b : Bool} : atI [D.int 1, D.int (-1)] (if b = true then 1 else 0) = some (.int (if b = true then -1 else 1)) := by cases b <;> rfl
theorem cut_mem {l : List D} {lo hi : Option Int} {d : D} (h : d ∈ cutD l lo hi) : d ∈ l := List.mem_of_mem_drop (List.mem_of_mem_take h)
theorem byTail2 {α : Type} (C : α → Prop) {G : Prop} {P : α → Prop} (h1 : (∀ c, C c → P c) → G) (h2 : ∀ c, C c → P c) : G := h1 h2
theorem bnz {i : Int} (h : i ≠ 0) : (i != 0) = true := by simp [h]
theorem fn_false {P : Program} {w : World} {K : PySem.W.Frag} {mg : Str → Option Value} {base : Heap} {x qual : Str} {params : Arguments} {body : List Stmt} {scope : Scope} {f : Addr} {fd : FuncData} {N ps : List Str} {k n : Nat}
    (F : FunD K x qual params body scope [] [] f fd) (S : FnScope N ps scope) : FnOk P w K mg base (L2N.CX P w) (k + 1) f fd ps (spD K n fun _ _ _ _ => False) :=
  F.ok S (fun vs H Q E ⟨_, _, _, _, _, _, _, _, h, _⟩ => h.elim) (fun _ _ _ _ _ _ _ _ _ ⟨_, _, _, _, _, _, _, _, h, _⟩ => h.elim)
theorem cx_false {P : Program} {w : World} (H : Hp) (s : Shared) (e : Value) (s' : Shared) (h : L2N.CX P w [] H s (fun _ _ _ => False) e s') : False := by
  obtain ⟨_, _, _, _, _, _, _, _, _, _, _, _, z⟩ := h
  exact z
/-- the end of a law row, the calls' exceptions told by world -/
theorem walk_ofW {l : PySem.W.OpenLaw} {n k : Nat} {q : Program} {lo : List Str} {XP : (Str → Option Value) → Heap → Prop} {YP : World → Heap → Prop} {d : DefRec} {CX : World → CXT} {x : Str} (h1 : l.most = some n) (h2 : n ≤ sizeLine) (h3 : d.params.defaults = []) (h4 : Room k callerA)
    (F : ∀ (w : World) (mg : Str → Option Value) (f : Addr) (h : Heap), YP w h → h.Ns mainGlobals mg → mg d.name = some (.ref f) → ∃ (K : PySem.W.Frag) (fd : FuncData) (sp : Sp), K.In h ∧ (∀ (s : Shared) (u : Value), BindsTo s fd ⟨[u], []⟩ [(x, u)]) ∧
        (∀ (H : Hp) (a : Addr) (ns : List Int), ns.length ≤ n → Only H → SqL K H a (ns.map V.int) → sp [.ref a] H (fun v _ => v = .bl true) fun _ _ _ => False) ∧ ∀ base : Heap, K.In base → base.Ns mainGlobals mg → FnOk l.prog w K mg base (CX w) k f fd [x] sp)
    (h5 : ∀ (w : World) (H : Hp) (s : Shared) (e : Value) (s' : Shared), CX w [] H s (fun _ _ _ => False) e s' → False) : PySem.W.WalkO q lo XP YP l.row.toRowW d [] (fun f vs => PySem.call f vs) := by
  refine Att.attach_call h1 h3 fun w t₀ t₁ mg mb f ob pm cd doc a vs ns G Y ho hd hcd hm hj hi hlen hg => ?_
  obtain ⟨K, fd, sp, KX, q1, q2, q3⟩ := F w mg f _ Y G.T.g hm
  exact law_call KX G.T.g G.T.b G.T.builtins G.T.nolimit hg hj hi (Nat.le_trans hlen h2) h4 q3 q1 (fun H i1 i2 => q2 H a ns hlen i1 i2) fun H e s' => h5 w H t₁ e s'
end DL

namespace DL
open PySem PySem.Spec PyProof.Rows L2

/-! ## fractions -/
/-- both parts below 2 ^ n -/
def Fs (n : Nat) (q : Rat) : Prop := Sm n q.num ∧ Sm n (q.den : Int)
theorem Fs.mono {m n : Nat} {q : Rat} (h : Fs m q) (hm : m ≤ n) : Fs n q := ⟨h.1.mono hm, h.2.mono hm⟩
theorem low_num {n : Nat} {a b : Int} (h : Sm n a) : Sm n (Rat.divInt a b).num := by
  refine h.le ?_
  rw [Rat.num_divInt]
  refine Nat.le_trans (Int.natAbs_ediv_le_natAbs _ _) ?_
  rw [Int.natAbs_mul]
  have h1 : (b.sign).natAbs ≤ 1 := by
    rcases Int.lt_trichotomy b 0 with z | z | z
    · rw [Int.sign_eq_neg_one_of_neg z]; decide
    · subst z; decide
    · rw [Int.sign_eq_one_of_pos z]; decide
  exact Nat.le_trans (Nat.mul_le_mul_right _ h1) (Nat.le_of_eq (Nat.one_mul _))
theorem low_den {n : Nat} {a b : Int} (hb : b ≠ 0) (h : Sm n b) : Sm n ((Rat.divInt a b).den : Int) := by
  refine h.le ?_
  rw [Rat.den_divInt, if_neg hb, Int.natAbs_natCast]
  exact Nat.div_le_self _ _
theorem den_ne (q : Rat) : (q.den : Int) ≠ 0 := by
  have := q.den_pos
  omega
theorem den_ps (q : Rat) : (0 : Int) < q.den := by
  have := q.den_pos
  omega
theorem Fs.low {n : Nat} {a b : Int} (hb : b ≠ 0) (ha : Sm n a) (hb1 : Sm n b) : Fs n (Rat.divInt a b) := ⟨low_num ha, low_den hb hb1⟩
theorem add_fr (p q : Rat) : Rat.divInt (p.num * q.den + q.num * p.den) (p.den * q.den) = p + q := by
  rw [← Rat.divInt_add_divInt _ _ (den_ne p) (den_ne q), Rat.num_divInt_den, Rat.num_divInt_den]
theorem sub_fr (p q : Rat) : Rat.divInt (p.num * q.den - q.num * p.den) (p.den * q.den) = p - q := by
  rw [← Rat.divInt_sub_divInt _ _ (den_ne p) (den_ne q), Rat.num_divInt_den, Rat.num_divInt_den]
theorem mul_fr (p q : Rat) : Rat.divInt (p.num * q.num) (p.den * q.den) = p * q := by
  rw [← Rat.divInt_mul_divInt, Rat.num_divInt_den, Rat.num_divInt_den]
theorem div_fr (p q : Rat) : Rat.divInt (p.num * q.den) (p.den * q.num) = p / q := by
  rw [← Rat.divInt_mul_divInt, Rat.num_divInt_den, ← Rat.inv_divInt, Rat.num_divInt_den, Rat.div_def]
theorem Fs.add {m n : Nat} {p q : Rat} (h : Fs m p) (h' : Fs n q) : Fs (m + n + 1) (p + q) := by
  rw [← add_fr]
  exact Fs.low (Int.mul_ne_zero (den_ne p) (den_ne q)) ((h.1.mul h'.2).add ((h'.1.mul h.2).mono (by omega))) ((h.2.mul h'.2).mono (by omega))
theorem Fs.sub {m n : Nat} {p q : Rat} (h : Fs m p) (h' : Fs n q) : Fs (m + n + 1) (p - q) := by
  rw [← sub_fr]
  exact Fs.low (Int.mul_ne_zero (den_ne p) (den_ne q)) ((h.1.mul h'.2).sub ((h'.1.mul h.2).mono (by omega))) ((h.2.mul h'.2).mono (by omega))
theorem Fs.mul {m n : Nat} {p q : Rat} (h : Fs m p) (h' : Fs n q) : Fs (m + n) (p * q) := by
  rw [← mul_fr]
  exact Fs.low (Int.mul_ne_zero (den_ne p) (den_ne q)) (h.1.mul h'.1) (h.2.mul h'.2)
theorem num_ne {q : Rat} (h : q ≠ 0) : q.num ≠ 0 := fun z => h (Rat.num_eq_zero.mp z)
theorem Fs.div {m n : Nat} {p q : Rat} (h : Fs m p) (h' : Fs n q) (hq : q ≠ 0) : Fs (m + n) (p / q) := by
  rw [← div_fr]
  exact Fs.low (Int.mul_ne_zero (den_ne p) (num_ne hq)) (h.1.mul h'.2) (h.2.mul h'.1)
theorem Fs.int {n : Nat} {i : Int} (h : Sm n i) (hn : 0 < n) : Fs n (i : Rat) := ⟨h, by show Sm n 1; exact Sm.mono (m := 1) (by unfold Sm; decide) hn⟩
theorem lt_fr (p q : Rat) : decide (p.num * (q.den : Int) < q.num * (p.den : Int)) = decide (p < q) := by
  by_cases h : p < q
  · rw [decide_eq_true h, decide_eq_true ((Rat.lt_iff p q).mp h)]
  · rw [decide_eq_false h, decide_eq_false fun z => h ((Rat.lt_iff p q).mpr z)]
theorem floor_fr (q : Rat) : q.num.fdiv (q.den : Int) = q.floor := by
  rw [Rat.floor_def, Int.fdiv_eq_ediv_of_nonneg _ (Int.natCast_nonneg _)]
theorem eqv_fr (p q : Rat) : PyData.eqv (.tuple [.int p.num, .int (p.den : Int)]) (.tuple [.int q.num, .int (q.den : Int)]) = decide (p = q) := by
  simp only [PyData.eqv, PyData.eqvAll, Bool.and_true]
  by_cases h : p = q
  · subst h; simp
  · rw [decide_eq_false h]
    by_cases h1 : p.num = q.num
    · by_cases h2 : p.den = q.den
      · exact absurd (Rat.ext h1 h2) h
      · have : (p.den : Int) ≠ q.den := by omega
        simp [h1, this]
    · simp [h1]
theorem ne_fr {p q : Rat} (h : p = q) : (!PyData.eqv (.tuple [.int p.num, .int (p.den : Int)]) (.tuple [.int q.num, .int (q.den : Int)])) = false := by
  rw [eqv_fr, decide_eq_true h]; rfl
/-! ## lists made on the way -/
theorem last_get {M : Me} {l : List D} : (M ++ [l])[M.length]? = some l := by simp
theorem last_set {M : Me} {l l' : List D} : (M ++ [l]).set M.length l' = M ++ [l'] := by simp
theorem pre1 {M N : Me} {l : List D} (h : M <+: N) : M <+: N ++ [l] := h.trans (List.prefix_append _ _)
theorem Gc_pre {M N : Me} (h : M <+: N) : Gc M N := fun j ds hj e => by
  obtain ⟨T, rfl⟩ := h
  rw [List.getElem?_append_left hj] at e
  exact .inl e
theorem retQ_new {M N : Me} {QD : D → Me → Prop} {ds : List D} (hN : M <+: N) (ho : olds M.length ds = true) (h : QD (.lst ds) M) : retQ M QD (.han N.length) (N ++ [ds]) := by
  refine ⟨Gc_pre (pre1 hN), .inr (.inl ⟨N.length, ds, rfl, hN.length_le, last_get, ho, .inl ?_⟩)⟩
  obtain ⟨T, rfl⟩ := hN
  rw [List.append_assoc, List.take_left]
  exact h
theorem pre_set {M N : Me} {l : List D} {k : Nat} (h : M <+: N) (hk : M.length ≤ k) : M <+: N.set k l := by
  obtain ⟨T, rfl⟩ := h
  rw [List.set_append_right _ _ hk]
  exact List.prefix_append _ _
theorem pairE {u v : Rat} (e : u = v) : ∃ w : Rat, D.tup [fr u, fr v] = .tup [fr w, fr w] := ⟨u, by rw [e]⟩
/-! ## a list taken apart -/
def gUnlD (n : Nat) (gs : WGs) : WG := fun d env M Q => ∃ l, lsD d M = some l ∧ l.length = n ∧ gs l env M Q
theorem dg_unl {X : Cx} {es : List Expr} {pos : Pos} {k n : Nat} {gs : WGs} {is : List Nat} (hc : X.calm = true) (h : DGs X es is gs) (hn : (assignEach es X.env).length = n := by rfl) (hst : (assignEach es X.env).findIdx? (·.1) = none := by rfl) : DG X (.Tuple es k pos) is (gUnlD n gs) := by
  refine ⟨pg_mono (pg_unl hc h.pg hn hst) fun v σ H Q ⟨env, μ, M, d, QD, re, rs, r, ⟨l, e1, e2, hw⟩, hq⟩ => ?_⟩
  obtain ⟨a, vs, rfl, h1, rr⟩ := r.ls rs e1
  exact ⟨a, vs, rfl, .of h1, by rw [rr.length, e2], env, μ, M, _, QD, re, rs, rr, hw, hq⟩
/-! ## list.count of flat things -/
section
variable {X : Cx} {W : WX} {K : PySem.W.Frag}
def rCntF (K : PySem.W.Frag) : V → List V → Hp → VK → Prop := fun x xs H Q => ∃ (p : Addr) (ys : List V) (k : V), x = .ref p ∧ xs = [k] ∧ SqL K H p ys ∧ flatV k = true ∧ ys.all flatV = true ∧ Q (.int (ys.countP fun y => eqV y k : Nat)) H
theorem count_U {x : V} : ∀ {xs : List V} {us : List Value}, Vals xs us → xs.all flatV = true → us.countP (eqU x) = xs.countP fun y => eqV y x
  | _, _, .nil, _ => rfl
  | y :: xs, u :: us, .cons r t, f => by
    rw [List.all_cons, Bool.and_eq_true] at f
    rw [List.countP_cons, List.countP_cons, count_U t f.2, eqU_of r f.1]
theorem mt_countF : MtR X "list.count" (rCntF X.K) := by
  intro pins s σ H x xs v us Q I rx rxs ⟨p, ys, k, e1, e2, hs, f1, f2, q⟩
  subst e1; subst e2
  cases rx
  obtain ⟨u, rfl, ru⟩ := rxs.one
  obtain ⟨its, rv, ⟨⟨cls, dd, data, sl⟩, n, ho, hc, hdn, hd⟩, hlen⟩ := I.list hs
  simp only at hc hd
  subst hc hd
  refine call_meets PySem.F.slot_list_count ⟨_, ho, rfl⟩ PySem.F.entry_list_count (PySem.F.args_list_count_2 _ _) (SeqAt.list_countAt p its.toArray n dd sl u (eqU k)) ⟨ho, fun y hy => mem_eqAt ru f1 rv f2 y (by simpa using hy), ?_⟩
  have ec : its.toArray.toList.countP (eqU k) = ys.countP fun y => eqV y k := count_U rv f2
  refine ⟨.int (ys.countP fun y => eqV y k : Nat), H, I.tok _, ⟨s.toks, ?_⟩, q⟩
  show Value.int ((its.toArray.toList.countP (eqU k) : Nat) : Int) s.toks = _
  rw [ec]
def fCount : FM := fun o ds M Q => ∃ l x, ds = [x] ∧ lsD o M = some l ∧ flatD x = true ∧ l.all flatD = true ∧ Q (.int (l.countP fun y => eqF y x : Nat)) M
theorem count_V {H : Hp} {μ : Mu} {v : V} {d : D} (r : Rep K H μ v d) (h : flatD d = true) : ∀ {vs : List V} {ds : List D}, Reps K H μ vs ds → ds.all flatD = true → vs.countP (fun y => eqV y v) = ds.countP fun y => eqF y d
  | _, _, .nil, _ => rfl
  | _, _, .cons q t, h' => by
    rw [List.all_cons, Bool.and_eq_true] at h'
    rw [List.countP_cons, List.countP_cons, count_V r h t h'.2, eq_F q r h'.1 h]
theorem ok_count : OkM K (rCntF K) fCount := fun x vs o ds H μ M QD Q rs rx r h hq => by
  obtain ⟨l, y, rfl, h1, h2, h3, h4⟩ := h
  obtain ⟨v, rfl, r1⟩ := reps1 r
  obtain ⟨a, ws, rfl, e1, rr⟩ := rx.ls rs h1
  refine ⟨a, ws, v, rfl, rfl, .of e1, flat_V r1 h2, flats_V rr h3, ?_⟩
  rw [count_V r1 h2 rr h3]
  exact hq _ H μ _ M rs.refl rs (.int _) h4
theorem de_count {o a : Expr} {wo wa : WE} {pos apos : Pos} (ho : DE X W o wo) (ha : DE X W a wa) (hbase : attributeBase o "count" X.env (eval o X.env) = eval o X.env := by rfl)
    (hfew : ((backTo pos (starEach (a :: []) X.env)).all (fun x => !x.1) && (backToKw pos (keywordEach [] X.env)).all (fun x => x.1.isSome)
      && decide ((a :: []).length + ([] : List Keyword).length + (if ([] : List Keyword).isEmpty then 0 else 1) < 30)) = true := by rfl)
    (hline : (apos.endLine == pos.line) = true := by rfl) (hs : starEach (a :: []) X.env = (false, eval a X.env) :: starEach [] X.env := by rfl) :
    DE X W (.Call (.Attribute o "count" apos) [a] [] pos) (wBM fCount wo (wCons wa wNil)) := de_bm PySem.F.slot_list_count PySem.F.type_list_count mt_countF ok_count ho (da_cons ha da_nil hs) hbase hfew hline hs
end
end DL

namespace DL
open PySem PySem.Spec PyProof.Rows L2

theorem glD_int {K : PySem.W.Frag} {mg : Str → Option Value} {x : Str} {i : Int} (h : ∃ t, mg x = some (Value.int i t)) : GlD K mg x (.int i) := by
  obtain ⟨t, e⟩ := h
  exact ⟨.int i, _, e, ⟨t, rfl⟩, fun _ _ => .int i⟩
/-! ## tempi: the plain law -/
structure Stt where
  n : Int
  lo : Rat
  hi : Rat
def Stt.Ok (s : Stt) : Prop := 1 ≤ s.n ∧ 0 < s.lo ∧ 0 < s.hi
def Stt.lin (s : Stt) (t : Rat) : Rat := s.lo + (s.hi - s.lo) * t
def Stt.len (s : Stt) (k : Int) : Rat := s.lin (Rat.divInt (2 * k + 1) (2 * s.n))
def Stt.sm (s : Stt) (k : Int) : Rat := (s.lo + s.lin (Rat.divInt k s.n)) * Rat.divInt k 2
theorem cast_pos {n : Int} (h : 1 ≤ n) : (0 : Rat) < n := by
  have : ((0 : Int) : Rat) < n := Rat.intCast_lt_intCast.mpr (by omega)
  simpa using this
theorem inv_two : (2 : Rat)⁻¹ * 2 = 1 := Rat.inv_mul_cancel _ (by decide)
theorem len_eq {s : Stt} {c : Rat} (hc : (s.n : Rat) * c = 1) (k : Int) : s.len k = s.lo + (s.hi - s.lo) * ((2 * k + 1) * c * (2 : Rat)⁻¹) := by
  have hn : (s.n : Rat) ≠ 0 := by intro h; rw [h] at hc; grind
  unfold Stt.len Stt.lin
  rw [Rat.divInt_eq_div, Rat.div_def]
  have : ((2 * s.n : Int) : Rat)⁻¹ = c * (2 : Rat)⁻¹ := by
    rw [Rat.intCast_mul]
    have h2 : (2 : Rat) ≠ 0 := by decide
    have h3 : ((2 : Int) : Rat) * (s.n : Rat) ≠ 0 := by
      intro h
      rcases Rat.mul_eq_zero.mp h with h | h
      · exact absurd h (by decide)
      · exact hn h
    have h4 := Rat.mul_inv_cancel _ h3
    have h5 := inv_two
    have h6 : ((2 : Int) : Rat) = 2 := rfl
    rw [h6] at h4 h3 ⊢
    grind
  rw [this]
  push_cast
  grind
theorem sm_eq {s : Stt} {c : Rat} (hc : (s.n : Rat) * c = 1) (k : Int) : s.sm k = (s.lo + (s.lo + (s.hi - s.lo) * (k * c))) * (k * (2 : Rat)⁻¹) := by
  have hn : (s.n : Rat) ≠ 0 := by intro h; rw [h] at hc; grind
  unfold Stt.sm Stt.lin
  rw [Rat.divInt_eq_div, Rat.divInt_eq_div, Rat.div_def, Rat.div_def]
  have h4 := Rat.mul_inv_cancel _ hn
  have : (s.n : Rat)⁻¹ = c := by grind
  rw [this]
  rfl
theorem inv_of {n : Int} (h : 1 ≤ n) : ∃ c : Rat, (n : Rat) * c = 1 ∧ 0 < c := by
  have hp := cast_pos h
  refine ⟨(n : Rat)⁻¹, Rat.mul_inv_cancel _ (by grind), ?_⟩
  exact Rat.inv_pos.mpr hp
theorem sm_zero {s : Stt} (h : 1 ≤ s.n) : s.sm 0 = 0 := by
  obtain ⟨c, hc, _⟩ := inv_of h
  rw [sm_eq hc]
  grind
theorem sm_succ {s : Stt} (h : 1 ≤ s.n) (k : Int) : s.sm (k + 1) = s.sm k + s.len k := by
  obtain ⟨c, hc, _⟩ := inv_of h
  rw [sm_eq hc, sm_eq hc, len_eq hc]
  have h5 := inv_two
  push_cast
  grind
theorem len_pos {s : Stt} (h : s.Ok) {k : Int} (h0 : 0 ≤ k) (h1 : k < s.n) : 0 < s.len k := by
  obtain ⟨hn, hl, hh⟩ := h
  obtain ⟨c, hc, hcp⟩ := inv_of hn
  rw [len_eq hc]
  have k0 : (0 : Rat) ≤ k := by
    have : ((0 : Int) : Rat) ≤ k := Rat.intCast_le_intCast.mpr h0
    simpa using this
  have k1 : (k : Rat) + 1 ≤ s.n := by
    have : ((k + 1 : Int) : Rat) ≤ s.n := Rat.intCast_le_intCast.mpr (by omega)
    simpa [Rat.intCast_add] using this
  have i2 := inv_two
  have p2 : (0 : Rat) < 2⁻¹ := Rat.inv_pos.mpr (by decide)
  have t0 : 0 < (2 * (k : Rat) + 1) * c * 2⁻¹ := Rat.mul_pos (Rat.mul_pos (by grind) hcp) p2
  have t1 : (2 * (k : Rat) + 1) * c * 2⁻¹ < 1 := by
    have : (2 * (k : Rat) + 1) * (c * 2⁻¹) < (2 * s.n) * (c * 2⁻¹) := Rat.mul_lt_mul_of_pos_right (by grind) (Rat.mul_pos hcp p2)
    grind
  generalize (2 * (k : Rat) + 1) * c * 2⁻¹ = t at t0 t1
  have e : s.lo + (s.hi - s.lo) * t = s.lo * (1 - t) + s.hi * t := by grind
  rw [e]
  have a1 := Rat.mul_pos hl (show 0 < 1 - t by grind)
  have a2 := Rat.mul_pos hh t0
  grind
theorem lt_cast {a b : Int} : (a : Rat) < b ↔ a < b := Rat.intCast_lt_intCast
theorem le_cast {a b : Int} : (a : Rat) ≤ b ↔ a ≤ b := Rat.intCast_le_intCast
theorem floor_lo (x : Rat) : (x.floor : Rat) ≤ x := Rat.floor_le x
theorem floor_hi (x : Rat) : x < (x.floor : Rat) + 1 := by
  have := @Rat.lt_floor x
  grind
theorem floor_is {x : Rat} {k : Int} (h1 : (k : Rat) ≤ x) (h2 : x < k + 1) : x.floor = k := by
  have a1 := floor_lo x
  have a2 := floor_hi x
  have b1 : x.floor < k + 1 := by
    rw [← lt_cast, Rat.intCast_add]
    have : ((1 : Int) : Rat) = 1 := rfl
    grind
  have b2 : k < x.floor + 1 := by
    rw [← lt_cast, Rat.intCast_add]
    have : ((1 : Int) : Rat) = 1 := rfl
    grind
  omega
theorem floor_cast (k : Int) : ((k : Rat)).floor = k := floor_is (by grind) (by grind)
theorem floor_sub (x : Rat) (n : Int) : (x - n).floor = x.floor - n := by
  apply floor_is
  · rw [Rat.intCast_sub]
    have := floor_lo x
    grind
  · rw [Rat.intCast_sub]
    have := floor_hi x
    grind
theorem floor_nn {x : Rat} (h : 0 ≤ x) : 0 ≤ x.floor := by
  have a2 := floor_hi x
  have : (-1 : Int) < x.floor := by
    rw [← lt_cast]
    have : ((-1 : Int) : Rat) = -1 := rfl
    grind
  omega
theorem floor_lt {x : Rat} {n : Int} : x.floor < n ↔ x < n := by
  constructor
  · intro h
    have a2 := floor_hi x
    have : ((x.floor + 1 : Int) : Rat) ≤ n := le_cast.mpr (by omega)
    rw [Rat.intCast_add] at this
    have e : ((1 : Int) : Rat) = 1 := rfl
    grind
  · intro h
    have a1 := floor_lo x
    exact lt_cast.mp (by grind)
theorem sm_mono {s : Stt} (h : s.Ok) : ∀ (d : Nat) (k : Int), 0 ≤ k → k + d ≤ s.n → s.sm k ≤ s.sm (k + d)
  | 0, k, _, _ => by simp
  | d + 1, k, h0, h1 => by
    have ih := sm_mono h d k h0 (by omega)
    have e : k + ((d + 1 : Nat) : Int) = (k + d) + 1 := by omega
    rw [e, sm_succ h.1]
    have := len_pos h (k := k + d) (by omega) (by omega)
    grind
theorem sm_le {s : Stt} (h : s.Ok) {j k : Int} (h0 : 0 ≤ j) (h1 : j ≤ k) (h2 : k ≤ s.n) : s.sm j ≤ s.sm k := by
  have := sm_mono h (k - j).toNat j h0 (by omega)
  rwa [show j + ((k - j).toNat : Int) = k by omega] at this
theorem sm_nn {s : Stt} (h : s.Ok) {k : Int} (h0 : 0 ≤ k) (h2 : k ≤ s.n) : 0 ≤ s.sm k := by
  have := sm_le h (Int.le_refl 0) h0 h2
  rwa [sm_zero h.1] at this
/-- the moment of a place -/
def Fm (rest : Rat) : List Stt → Rat → Rat
  | [], x => rest * x
  | s :: ss, x => if x.floor < s.n then s.sm x.floor + s.len x.floor * (x - x.floor) else s.sm s.n + Fm rest ss (x - s.n)
/-- the length of a step -/
def La (rest : Rat) : List Stt → Int → Rat
  | [], _ => rest
  | s :: ss, k => if k < s.n then s.len k else La rest ss (k - s.n)
theorem La_cons {rest : Rat} {s : Stt} {ss : List Stt} {k : Int} : La rest (s :: ss) k = if k < s.n then s.len k else La rest ss (k - s.n) := by rw [La]
theorem Fm_cons {rest : Rat} {s : Stt} {ss : List Stt} {x : Rat} : Fm rest (s :: ss) x = if x.floor < s.n then s.sm x.floor + s.len x.floor * (x - x.floor) else s.sm s.n + Fm rest ss (x - s.n) := by rw [Fm]
section
variable {rest : Rat} (hr : 0 < rest)
include hr
theorem La_pos : ∀ {ss : List Stt} {k : Int}, (∀ s ∈ ss, s.Ok) → 0 ≤ k → 0 < La rest ss k
  | [], _, _, _ => hr
  | s :: ss, k, h, h0 => by
    unfold La
    split
    · exact len_pos (h s (by simp)) h0 (by assumption)
    · exact La_pos (fun t ht => h t (by simp [ht])) (by omega)
theorem Fm_zero : ∀ {ss : List Stt}, (∀ s ∈ ss, s.Ok) → Fm rest ss 0 = 0
  | [], _ => by unfold Fm; grind
  | s :: ss, h => by
    have h1 := (h s (by simp)).1
    have e : (0 : Rat).floor = 0 := floor_cast 0
    unfold Fm
    rw [e, if_pos (by omega), sm_zero h1]
    have : ((0 : Int) : Rat) = 0 := rfl
    grind
theorem Fm_nn : ∀ {ss : List Stt} {x : Rat}, (∀ s ∈ ss, s.Ok) → 0 ≤ x → 0 ≤ Fm rest ss x
  | [], x, _, h0 => by unfold Fm; exact Rat.mul_nonneg (by grind) h0
  | s :: ss, x, h, h0 => by
    have hs := h s (by simp)
    have f0 := floor_nn h0
    unfold Fm
    split
    · have a := sm_nn hs f0 (by omega)
      have b := len_pos hs f0 (by assumption)
      have c := floor_lo x
      have := Rat.mul_nonneg (show 0 ≤ s.len x.floor by grind) (show 0 ≤ x - x.floor by grind)
      grind
    · have a := sm_nn hs (k := s.n) (by have := hs.1; omega) (Int.le_refl _)
      have hx : (s.n : Rat) ≤ x := Rat.not_lt.mp fun z => absurd (floor_lt.mpr z) (by assumption)
      have := Fm_nn (ss := ss) (x := x - s.n) (fun t ht => h t (by simp [ht])) (by grind)
      grind
theorem ge_of_floor {x : Rat} {n : Int} (h : ¬ x.floor < n) : (n : Rat) ≤ x := by
  rw [floor_lt] at h
  exact Rat.not_lt.mp h
theorem Fm_cell : ∀ {ss : List Stt} {x : Rat}, (∀ s ∈ ss, s.Ok) → 0 ≤ x → Fm rest ss x = Fm rest ss x.floor + La rest ss x.floor * (x - x.floor)
  | [], x, _, _ => by unfold Fm La; grind
  | s :: ss, x, h, h0 => by
    unfold Fm La
    rw [floor_cast]
    split
    · grind
    · have hx := ge_of_floor hr (by assumption)
      have := Fm_cell (ss := ss) (x := x - s.n) (fun t ht => h t (by simp [ht])) (by grind)
      rw [this, floor_sub, Rat.intCast_sub]
      grind
theorem Fm_step : ∀ {ss : List Stt} {k : Int}, (∀ s ∈ ss, s.Ok) → 0 ≤ k → Fm rest ss ((k + 1 : Int) : Rat) = Fm rest ss (k : Rat) + La rest ss k
  | [], k, _, _ => by unfold Fm La; rw [Rat.intCast_add]; have : ((1 : Int) : Rat) = 1 := rfl; grind
  | s :: ss, k, h, h0 => by
    have hs := h s (by simp)
    unfold Fm La
    rw [floor_cast, floor_cast]
    by_cases h1 : k + 1 < s.n
    · rw [if_pos h1, if_pos (by omega), if_pos (by omega), sm_succ hs.1]
      grind
    · by_cases h2 : k < s.n
      · rw [if_neg h1, if_pos h2, if_pos h2]
        have e : k + 1 = s.n := by omega
        have z := Fm_zero (ss := ss) hr (fun t ht => h t (by simp [ht]))
        have e2 : ((k + 1 : Int) : Rat) - s.n = 0 := by rw [e]; grind
        rw [e2, z, ← e, sm_succ hs.1]
        grind
      · rw [if_neg h1, if_neg h2, if_neg h2]
        have := Fm_step (ss := ss) (k := k - s.n) (fun t ht => h t (by simp [ht])) (by omega)
        rw [show k - s.n + 1 = k + 1 - s.n by omega, Rat.intCast_sub, Rat.intCast_sub] at this
        rw [this]
        grind
theorem Fm_int_mono {ss : List Stt} (h : ∀ s ∈ ss, s.Ok) : ∀ (d : Nat) (k : Int), 0 ≤ k → Fm rest ss (k : Rat) ≤ Fm rest ss ((k + d : Int) : Rat)
  | 0, k, _ => by simp
  | d + 1, k, h0 => by
    have ih := Fm_int_mono h d k h0
    have e : k + ((d + 1 : Nat) : Int) = (k + d) + 1 := by omega
    rw [e, Fm_step hr h (by omega)]
    have := La_pos hr h (k := k + d) (by omega)
    grind
theorem Fm_lt {ss : List Stt} (h : ∀ s ∈ ss, s.Ok) {x y : Rat} (hx : 0 ≤ x) (hxy : x < y) : Fm rest ss x < Fm rest ss y := by
  have fx := floor_nn hx
  have fy := floor_nn (show 0 ≤ y by grind)
  have x1 := floor_lo x
  have x2 := floor_hi x
  have y1 := floor_lo y
  have y2 := floor_hi y
  rw [Fm_cell hr h hx, Fm_cell hr h (show 0 ≤ y by grind)]
  by_cases e : x.floor = y.floor
  · rw [← e]
    have := Rat.mul_lt_mul_of_pos_left (show x - x.floor < y - x.floor by grind) (La_pos hr h fx)
    grind
  · have lt : x.floor + 1 ≤ y.floor := by
      have : x.floor < y.floor + 1 := by
        rw [← lt_cast, Rat.intCast_add]
        have : ((1 : Int) : Rat) = 1 := rfl
        grind
      omega
    have m := Fm_int_mono hr h (y.floor - (x.floor + 1)).toNat (x.floor + 1) (by omega)
    rw [show x.floor + 1 + ((y.floor - (x.floor + 1)).toNat : Int) = y.floor by omega, Fm_step hr h fx] at m
    have a := Rat.mul_lt_mul_of_pos_left (show x - x.floor < 1 by grind) (La_pos hr h fx)
    have b := Rat.mul_nonneg (show 0 ≤ La rest ss y.floor by have := La_pos hr h fy; grind) (show 0 ≤ y - y.floor by grind)
    grind
theorem Fm_inj {ss : List Stt} (h : ∀ s ∈ ss, s.Ok) {x y : Rat} (hx : 0 ≤ x) (hy : 0 ≤ y) (e : Fm rest ss x = Fm rest ss y) : x = y := by
  by_cases h1 : x < y
  · have := Fm_lt hr h hx h1; grind
  · by_cases h2 : y < x
    · have := Fm_lt hr h hy h2; grind
    · grind
theorem Fm_lt_iff {ss : List Stt} (h : ∀ s ∈ ss, s.Ok) {x y : Rat} (hx : 0 ≤ x) (hy : 0 ≤ y) : Fm rest ss x < Fm rest ss y ↔ x < y := by
  constructor
  · intro e
    by_cases h1 : x < y
    · exact h1
    · by_cases h2 : y < x
      · have := Fm_lt hr h hy h2; grind
      · have : x = y := by grind
        subst this; grind
  · exact Fm_lt hr h hx
end
/-! ## a tempo as data -/
def stD (s : Stt) : D := .tup [.int s.n, fr s.lo, fr s.hi]
def tmD (ss : List Stt) (rest : Rat) : D := .tup [.tup (ss.map stD), fr rest]
/-- sizes -/
structure Stt.Sz (s : Stt) : Prop where
  ok : s.Ok
  n : s.n ≤ 200000
  lo : Fs 44 s.lo
  hi : Fs 44 s.hi
theorem Stt.Sz.n18 {s : Stt} (h : s.Sz) : Sm 18 s.n := by
  have := h.n
  have := h.ok.1
  unfold Sm
  omega
theorem Fs_low_nn {n : Nat} {a b : Int} (hb : 0 < b) (ha : Sm n a) (hb1 : Sm n b) : Fs n (Rat.divInt a b) := Fs.low (by omega) ha hb1
theorem Fm_int {rest : Rat} (hr : 0 < rest) {s : Stt} {ss : List Stt} (h : ∀ t ∈ s :: ss, t.Ok) {k : Int} (h0 : 0 ≤ k) : Fm rest (s :: ss) (k : Rat) = s.sm (min k s.n) + Fm rest ss ((max 0 (k - s.n) : Int) : Rat) := by
  have hs := h s (by simp)
  have ht : ∀ t ∈ ss, t.Ok := fun t ht => h t (by simp [ht])
  rw [Fm_cons, floor_cast]
  by_cases h1 : k < s.n
  · rw [if_pos h1, show min k s.n = k by omega, show max 0 (k - s.n) = 0 by omega]
    have := Fm_zero hr ht
    have e : ((0 : Int) : Rat) = 0 := rfl
    rw [e, this]
    grind
  · rw [if_neg h1, show min k s.n = s.n by omega, show max 0 (k - s.n) = k - s.n by omega, Rat.intCast_sub]
theorem Fs_part {m : Nat} {p : Rat} (h : Fs m p) : Fs m (p - (p.floor : Rat)) := by
  have hd := den_ps p
  have hc := Rat.mul_inv_cancel ((p.den : Int) : Rat) (by have := cast_pos (n := (p.den : Int)) (by omega); grind)
  have e : p - (p.floor : Rat) = Rat.divInt (p.num - p.floor * p.den) p.den := by
    have e0 : p = Rat.divInt p.num p.den := (Rat.num_divInt_den p).symm
    rw [Rat.divInt_eq_div, Rat.div_def] at e0 ⊢
    rw [Rat.intCast_sub, Rat.intCast_mul]
    generalize hf : (p.floor : Rat) = f
    generalize ((p.den : Int) : Rat) = d at *
    generalize d⁻¹ = c at *
    generalize (p.num : Rat) = n at *
    grind
  rw [e]
  refine Fs.low (by omega) ?_ h.2
  refine h.2.le ?_
  have e1 : p.num - p.floor * p.den = p.num % p.den := by
    rw [Rat.floor_def, Int.emod_def, Int.mul_comm]
  rw [e1]
  have a := Int.emod_nonneg p.num (show (p.den : Int) ≠ 0 by omega)
  have b := Int.emod_lt_of_pos p.num hd
  omega
theorem Fm_in {rest : Rat} {s : Stt} {ss : List Stt} (hs : s.Ok) {k : Int} (k0 : 0 ≤ k) (k1 : k < s.n) {u : Rat} (h1 : s.sm k ≤ u) (h2 : u < s.sm (k + 1)) :
    0 ≤ (k : Rat) + (u - s.sm k) / s.len k ∧ Fm rest (s :: ss) ((k : Rat) + (u - s.sm k) / s.len k) = u := by
  have hl := len_pos hs k0 k1
  rw [sm_succ hs.1] at h2
  have hc := Rat.mul_inv_cancel (s.len k) (by grind)
  have hci : 0 < (s.len k)⁻¹ := Rat.inv_pos.mpr hl
  rw [Rat.div_def]
  have kk : (0 : Rat) ≤ k := by
    have := le_cast.mpr k0
    have e : ((0 : Int) : Rat) = 0 := rfl
    grind
  have a1 := Rat.mul_nonneg (show 0 ≤ u - s.sm k by grind) (show 0 ≤ (s.len k)⁻¹ by grind)
  have a2 := Rat.mul_lt_mul_of_pos_right (show u - s.sm k < s.len k by grind) hci
  have fl : ((k : Rat) + (u - s.sm k) * (s.len k)⁻¹).floor = k := floor_is (by grind) (by grind)
  refine ⟨by grind, ?_⟩
  rw [Fm_cons, fl, if_pos k1]
  have e : s.len k * ((k : Rat) + (u - s.sm k) * (s.len k)⁻¹ - k) = u - s.sm k := by grind
  rw [e]
  grind
theorem Fm_past {rest : Rat} {s : Stt} {ss : List Stt} {p : Rat} (hp : 0 ≤ p) : Fm rest (s :: ss) (p + s.n) = s.sm s.n + Fm rest ss p := by
  have : ¬ (p + s.n).floor < s.n := by
    rw [floor_lt]
    grind
  rw [Fm_cons, if_neg this]
  congr 2
  grind
theorem shaped_map {α : Type} (f : α → PyData) (hf : ∀ a, PyData.canLay0 (f a) = true ∧ PyData.depth (f a) ≤ 10) (l : List α) : SeqAt.shaped (.tuple (l.map f)) = true ∧ SeqAt.shaped (.list (l.map f)) = true := by
  have h : PyData.canLayAll0 (l.map f) = true ∧ PyData.depthAll (l.map f) ≤ 10 := by
    induction l with
    | nil => exact ⟨by simp [PyData.canLayAll0], by simp [PyData.depthAll]⟩
    | cons a l ih =>
      rw [List.map_cons]
      simp only [PyData.canLayAll0, PyData.depthAll]
      exact ⟨by rw [(hf a).1, ih.1]; rfl, by have := (hf a).2; have := ih.2; omega⟩
  have d := h.2
  constructor
  · rw [SeqAt.shaped, Bool.and_eq_true, decide_eq_true_eq]
    exact ⟨by simp only [PyData.canLay0]; exact h.1, by simp only [PyData.depth]; omega⟩
  · rw [SeqAt.shaped, Bool.and_eq_true, decide_eq_true_eq]
    exact ⟨by simp only [PyData.canLay0]; exact h.1, by simp only [PyData.depth]; omega⟩
theorem Fs_lin {s : Stt} (hs : s.Sz) {t : Rat} {m : Nat} (ht : Fs m t) : Fs (134 + m) (s.lin t) := (hs.lo.add ((hs.hi.sub hs.lo).mul ht)).mono (by omega)
theorem Fs_sm {s : Stt} (hs : s.Sz) {k : Int} (hk : Sm 18 k) : Fs 220 (s.sm k) := by
  have hn := hs.ok.1
  exact ((hs.lo.add (Fs_lin hs (Fs_low_nn (by omega) hk hs.n18))).mul (Fs_low_nn (n := 18) (b := 2) (by decide) hk (by unfold Sm; decide))).mono (by omega)
theorem sum_nn {ss : List Stt} (h : ∀ s ∈ ss, s.Ok) : 0 ≤ (ss.map (·.n)).sum := by
  induction ss with
  | nil => simp
  | cons s ss ih =>
    have h1 := (h s (by simp)).1
    have h2 := ih fun t ht => h t (by simp [ht])
    rw [List.map_cons, List.sum_cons]
    omega
theorem Fm_ge {rest : Rat} (hr : 0 < rest) : ∀ {ss : List Stt} {p : Rat}, (∀ s ∈ ss, s.Ok) → 0 ≤ p → rest * (p - ((ss.map (·.n)).sum : Int)) ≤ Fm rest ss p
  | [], p, _, hp => by
    show rest * (p - ((0 : Int) : Rat)) ≤ rest * p
    have e : ((0 : Int) : Rat) = 0 := rfl
    rw [e]
    grind
  | s :: ss, p, h, hp => by
    have hs := h s (by simp)
    have ht : ∀ t ∈ ss, t.Ok := fun t ht => h t (by simp [ht])
    have n0 := le_cast.mpr (sum_nn ht)
    have e0 : ((0 : Int) : Rat) = 0 := rfl
    rw [e0] at n0
    rw [List.map_cons, List.sum_cons, Rat.intCast_add]
    by_cases h1 : p.floor < s.n
    · have h2 := floor_lt.mp h1
      have h3 := Fm_nn (rest := rest) hr h hp
      have h4 := Rat.mul_nonneg (show 0 ≤ rest by grind) (show 0 ≤ (s.n : Rat) + ((ss.map (·.n)).sum : Int) - p by grind)
      grind
    · have h2 := ge_of_floor (rest := rest) hr h1
      have ih := Fm_ge hr (ss := ss) (p := p - s.n) ht (by grind)
      have h3 := sm_nn hs (k := s.n) (by have := hs.1; omega) (Int.le_refl _)
      rw [Fm_cons, if_neg h1]
      grind
end DL

namespace DL
open PySem PySem.Spec PyProof.Rows L2

/-! ## equality of plain data -/
mutual
/-- plain data of a depth -/
def dep : Nat → D → Bool
  | _, .non => true
  | _, .bl _ => true
  | _, .int _ => true
  | _, .str x => PyData.strOk x
  | n + 1, .tup l => deps n l
  | n + 1, .lst l => deps n l
  | n + 1, .fls l => deps n l
  | _, _ => false
def deps : Nat → List D → Bool
  | _, [] => true
  | n, d :: l => dep n d && deps n l
end
mutual
/-- plain data of a depth without truths -/
def noB : Nat → D → Bool
  | _, .non => true
  | _, .int _ => true
  | _, .str x => PyData.strOk x
  | n + 1, .tup l => noBs n l
  | n + 1, .lst l => noBs n l
  | _, _ => false
def noBs : Nat → List D → Bool
  | _, [] => true
  | n, d :: l => noB n d && noBs n l
end
mutual
theorem noB_dep : ∀ {n : Nat} {d : D}, noB n d = true → dep n d = true
  | n, .non, _ => by cases n <;> rfl
  | n, .int _, _ => by cases n <;> rfl
  | n, .str _, h => by cases n <;> exact h
  | n + 1, .tup l, h => noBs_deps (n := n) (l := l) (by simpa [noB] using h) |> fun q => by simpa [dep] using q
  | n + 1, .lst l, h => noBs_deps (n := n) (l := l) (by simpa [noB] using h) |> fun q => by simpa [dep] using q
  | 0, .tup _, h => by simp [noB] at h
  | 0, .lst _, h => by simp [noB] at h
  | n, .bl _, h => by cases n <;> simp [noB] at h
  | n, .fls _, h => by cases n <;> simp [noB] at h
  | n, .dct _ _, h => by cases n <;> simp [noB] at h
  | n, .han _, h => by cases n <;> simp [noB] at h
  | n, .ref _, h => by cases n <;> simp [noB] at h
  | n, .ty _, h => by cases n <;> simp [noB] at h
theorem noBs_deps : ∀ {n : Nat} {l : List D}, noBs n l = true → deps n l = true
  | _, [], _ => by simp [deps]
  | n, d :: l, h => by
    simp only [noBs, Bool.and_eq_true] at h
    simp only [deps, Bool.and_eq_true]
    exact ⟨noB_dep h.1, noBs_deps h.2⟩
end
mutual
theorem dep_py : ∀ {n : Nat} {d : D}, dep n d = true → ∃ p, pyD d = some p ∧ PyData.canLay0 p = true ∧ PyData.depth p ≤ n + 1 ∧ PyData.eqv p p = true
  | _, .non, _ => ⟨_, rfl, by simp [PyData.canLay0], by simp [PyData.depth], by simp [PyData.eqv]⟩
  | _, .bl _, _ => ⟨_, rfl, by simp [PyData.canLay0], by simp [PyData.depth], by simp [PyData.eqv]⟩
  | _, .int _, _ => ⟨_, rfl, by simp [PyData.canLay0], by simp [PyData.depth], by simp [PyData.eqv]⟩
  | n, .str _, h => ⟨_, rfl, by cases n <;> (simp only [dep] at h; simpa [PyData.canLay0] using h), by simp [PyData.depth], by simp [PyData.eqv]⟩
  | n + 1, .tup l, h => by
    obtain ⟨ps, e, c, d, v⟩ := deps_py (n := n) (l := l) (by simpa [dep] using h)
    exact ⟨.tuple ps, by simp [pyD, e], by simpa [PyData.canLay0] using c, by simp [PyData.depth]; omega, by simpa [PyData.eqv] using v⟩
  | n + 1, .lst l, h => by
    obtain ⟨ps, e, c, d, v⟩ := deps_py (n := n) (l := l) (by simpa [dep] using h)
    exact ⟨.list ps, by simp [pyD, e], by simpa [PyData.canLay0] using c, by simp [PyData.depth]; omega, by simpa [PyData.eqv] using v⟩
  | n + 1, .fls l, h => by
    obtain ⟨ps, e, c, d, v⟩ := deps_py (n := n) (l := l) (by simpa [dep] using h)
    exact ⟨.list ps, by simp [pyD, e], by simpa [PyData.canLay0] using c, by simp [PyData.depth]; omega, by simpa [PyData.eqv] using v⟩
  | 0, .tup _, h => by simp [dep] at h
  | 0, .lst _, h => by simp [dep] at h
  | 0, .fls _, h => by simp [dep] at h
  | n, .dct _ _, h => by cases n <;> simp [dep] at h
  | n, .han _, h => by cases n <;> simp [dep] at h
  | n, .ref _, h => by cases n <;> simp [dep] at h
  | n, .ty _, h => by cases n <;> simp [dep] at h
theorem deps_py : ∀ {n : Nat} {l : List D}, deps n l = true → ∃ ps, pyDs l = some ps ∧ PyData.canLayAll0 ps = true ∧ PyData.depthAll ps ≤ n + 1 ∧ PyData.eqvAll ps ps = true
  | _, [], _ => ⟨[], rfl, by simp [PyData.canLayAll0], by simp [PyData.depthAll], by simp [PyData.eqvAll]⟩
  | n, d :: l, h => by
    simp only [deps, Bool.and_eq_true] at h
    obtain ⟨p, e1, c1, d1, v1⟩ := dep_py h.1
    obtain ⟨ps, e2, c2, d2, v2⟩ := deps_py h.2
    exact ⟨p :: ps, by simp [pyDs, e1, e2], by simp [PyData.canLayAll0, c1, c2], by simp [PyData.depthAll]; omega, by simp [PyData.eqvAll, v1, v2]⟩
end
mutual
theorem eqv_iff : ∀ {n m : Nat} {d e : D} {p q : PyData}, noB n d = true → noB m e = true → pyD d = some p → pyD e = some q → (PyData.eqv p q = true ↔ d = e)
  | n, m, d, e, p, q, hd, he, h1, h2 => by
    cases d with
    | tup l =>
      cases n with
      | zero => simp [noB] at hd
      | succ n =>
        simp only [noB] at hd
        simp only [pyD, Option.map_eq_some_iff] at h1
        obtain ⟨ps, e1, rfl⟩ := h1
        cases e with
        | tup l' =>
          cases m with
          | zero => simp [noB] at he
          | succ m =>
            simp only [noB] at he
            simp only [pyD, Option.map_eq_some_iff] at h2
            obtain ⟨qs, e2, rfl⟩ := h2
            simp only [PyData.eqv, D.tup.injEq]
            exact eqvs_iff hd he e1 e2
        | lst l' => simp only [pyD, Option.map_eq_some_iff] at h2; obtain ⟨qs, e2, rfl⟩ := h2; simp [PyData.eqv]
        | _ => first | (cases h2; simp [PyData.eqv]; done) | (cases m <;> simp [noB] at he)
    | lst l =>
      cases n with
      | zero => simp [noB] at hd
      | succ n =>
        simp only [noB] at hd
        simp only [pyD, Option.map_eq_some_iff] at h1
        obtain ⟨ps, e1, rfl⟩ := h1
        cases e with
        | lst l' =>
          cases m with
          | zero => simp [noB] at he
          | succ m =>
            simp only [noB] at he
            simp only [pyD, Option.map_eq_some_iff] at h2
            obtain ⟨qs, e2, rfl⟩ := h2
            simp only [PyData.eqv, D.lst.injEq]
            exact eqvs_iff hd he e1 e2
        | tup l' => simp only [pyD, Option.map_eq_some_iff] at h2; obtain ⟨qs, e2, rfl⟩ := h2; simp [PyData.eqv]
        | _ => first | (cases h2; simp [PyData.eqv]; done) | (cases m <;> simp [noB] at he)
    | int i =>
      cases h1
      cases e with
      | lst l' => simp only [pyD, Option.map_eq_some_iff] at h2; obtain ⟨qs, e2, rfl⟩ := h2; simp [PyData.eqv]
      | tup l' => simp only [pyD, Option.map_eq_some_iff] at h2; obtain ⟨qs, e2, rfl⟩ := h2; simp [PyData.eqv]
      | _ => first | (cases h2; simp [PyData.eqv]; done) | (cases m <;> simp [noB] at he)
    | str i =>
      cases h1
      cases e with
      | lst l' => simp only [pyD, Option.map_eq_some_iff] at h2; obtain ⟨qs, e2, rfl⟩ := h2; simp [PyData.eqv]
      | tup l' => simp only [pyD, Option.map_eq_some_iff] at h2; obtain ⟨qs, e2, rfl⟩ := h2; simp [PyData.eqv]
      | _ => first | (cases h2; simp [PyData.eqv]; done) | (cases m <;> simp [noB] at he)
    | non =>
      cases h1
      cases e with
      | lst l' => simp only [pyD, Option.map_eq_some_iff] at h2; obtain ⟨qs, e2, rfl⟩ := h2; simp [PyData.eqv]
      | tup l' => simp only [pyD, Option.map_eq_some_iff] at h2; obtain ⟨qs, e2, rfl⟩ := h2; simp [PyData.eqv]
      | _ => first | (cases h2; simp [PyData.eqv]; done) | (cases m <;> simp [noB] at he)
    | _ => cases n <;> simp [noB] at hd
theorem eqvs_iff : ∀ {n m : Nat} {l k : List D} {p q : List PyData}, noBs n l = true → noBs m k = true → pyDs l = some p → pyDs k = some q → (PyData.eqvAll p q = true ↔ l = k)
  | _, _, [], [], _, _, _, _, h1, h2 => by cases h1; cases h2; simp [PyData.eqvAll]
  | _, _, [], _ :: _, _, _, _, _, h1, h2 => by
    cases h1
    simp only [pyDs, Option.bind_eq_some_iff, Option.map_eq_some_iff] at h2
    obtain ⟨x, e1, xs, e2, rfl⟩ := h2
    simp [PyData.eqvAll]
  | _, _, _ :: _, [], _, _, _, _, h1, h2 => by
    cases h2
    simp only [pyDs, Option.bind_eq_some_iff, Option.map_eq_some_iff] at h1
    obtain ⟨x, e1, xs, e2, rfl⟩ := h1
    simp [PyData.eqvAll]
  | n, m, d :: l, e :: k, _, _, hd, he, h1, h2 => by
    simp only [pyDs, Option.bind_eq_some_iff, Option.map_eq_some_iff] at h1 h2
    obtain ⟨x, e1, xs, e2, rfl⟩ := h1
    obtain ⟨y, e3, ys, e4, rfl⟩ := h2
    simp only [noBs, Bool.and_eq_true] at hd he
    simp only [PyData.eqvAll, Bool.and_eq_true, List.cons.injEq]
    rw [eqv_iff hd.1 he.1 e1 e3, eqvs_iff hd.2 he.2 e2 e4]
end
theorem shaped_of {p : PyData} {n : Nat} (h : PyData.canLay0 p = true) (d : PyData.depth p ≤ n + 1) (hn : n ≤ 60) : SeqAt.shaped p = true := by
  unfold SeqAt.shaped
  rw [h, Bool.true_and, decide_eq_true_eq]
  omega
theorem fNeG_of {d e : D} {M : Me} {Q : D → Me → Prop} (h : fEqG true M d e Q) (h1 : ∀ i j, d = .int i → e = .int j → Q (.bl (!decide (i = j))) M) (h2 : ∀ i j, d = .str i → e = .str j → Q (.bl (!decide (i = j))) M) : fNe d e M Q := by
  cases d <;> cases e <;> first | exact h | exact h1 _ _ rfl rfl | exact h2 _ _ rfl rfl
theorem fEqG_of {d e : D} {M : Me} {Q : D → Me → Prop} (h : fEqG false M d e Q) (h1 : ∀ i j, d = .int i → e = .int j → Q (.bl (decide (i = j))) M) (h2 : ∀ i j, d = .str i → e = .str j → Q (.bl (decide (i = j))) M) : fEq d e M Q := by
  cases d <;> cases e <;> first | exact h | exact h1 _ _ rfl rfl | exact h2 _ _ rfl rfl
theorem pyM_py {M : Me} {d : D} {p : PyData} (h : pyD d = some p) : pyM M d = some p := by cases d <;> first | exact h | (simp [pyD] at h)
theorem ne_same {n : Nat} {x : D} {M : Me} {Q : D → Me → Prop} (h : dep n x = true) (q : Q (.bl false) M) (hn : n ≤ 60 := by decide) : fNe x x M Q := by
  obtain ⟨p, e, c, d, v⟩ := dep_py h
  refine fNeG_of ⟨p, p, pyM_py e, pyM_py e, shaped_of c d hn, shaped_of c d hn, ?_⟩ (fun i j e1 e2 => ?_) (fun i j e1 e2 => ?_)
  · rw [v]; exact q
  · subst e1; cases e2; rw [decide_eq_true rfl]; exact q
  · subst e1; cases e2; rw [decide_eq_true rfl]; exact q
theorem eq_same {n : Nat} {x : D} {M : Me} {Q : D → Me → Prop} (h : dep n x = true) (q : Q (.bl true) M) (hn : n ≤ 60 := by decide) : fEq x x M Q := by
  obtain ⟨p, e, c, d, v⟩ := dep_py h
  refine fEqG_of ⟨p, p, pyM_py e, pyM_py e, shaped_of c d hn, shaped_of c d hn, ?_⟩ (fun i j e1 e2 => ?_) (fun i j e1 e2 => ?_)
  · rw [v]; exact q
  · subst e1; cases e2; rw [decide_eq_true rfl]; exact q
  · subst e1; cases e2; rw [decide_eq_true rfl]; exact q
theorem eq_noB {n m : Nat} {x y : D} {M : Me} {Q : D → Me → Prop} (hx : noB n x = true) (hy : noB m y = true) (q : ∀ b, (b = true ↔ x = y) → Q (.bl b) M) (hn : n ≤ 60 := by decide) (hm : m ≤ 60 := by decide) : fEq x y M Q := by
  obtain ⟨p, e, c, d, v⟩ := dep_py (noB_dep hx)
  obtain ⟨p', e', c', d', v'⟩ := dep_py (noB_dep hy)
  refine fEqG_of ⟨p, p', pyM_py e, pyM_py e', shaped_of c d hn, shaped_of c' d' hm, ?_⟩ (fun i j e1 e2 => ?_) (fun i j e1 e2 => ?_)
  · exact q _ (eqv_iff hx hy e e')
  · subst e1; subst e2; exact q _ (by simp)
  · subst e1; subst e2; exact q _ (by simp)
theorem ne_noB {n m : Nat} {x y : D} {M : Me} {Q : D → Me → Prop} (hx : noB n x = true) (hy : noB m y = true) (q : ∀ b, (b = false ↔ x = y) → Q (.bl b) M) (hn : n ≤ 60 := by decide) (hm : m ≤ 60 := by decide) : fNe x y M Q := by
  obtain ⟨p, e, c, d, v⟩ := dep_py (noB_dep hx)
  obtain ⟨p', e', c', d', v'⟩ := dep_py (noB_dep hy)
  refine fNeG_of ⟨p, p', pyM_py e, pyM_py e', shaped_of c d hn, shaped_of c' d' hm, ?_⟩ (fun i j e1 e2 => ?_) (fun i j e1 e2 => ?_)
  · refine q (!PyData.eqv p p') ?_
    rw [← eqv_iff hx hy e e']
    simp
  · subst e1; subst e2; exact q _ (by simp)
  · subst e1; subst e2; exact q _ (by simp)
theorem wVar_at {i : Nat} {env : En} {M : Me} {Q : D → Me → Prop} {E : EX → Me → Prop} {d : D} (h : env[i]? = some (some d)) (q : Q d M) : wVar i env M Q E := by
  unfold wVar
  rw [h]
  exact q
theorem noB_fr (n : Nat) (q : Rat) : noB (n + 1) (fr q) = true := by cases n <;> rfl
theorem noBs_map {α : Type} {n : Nat} (f : α → D) (l : List α) (h : ∀ x ∈ l, noB n (f x) = true) : noBs n (l.map f) = true := by
  induction l with
  | nil => simp [noBs]
  | cons a l ih =>
    rw [List.map_cons]
    simp only [noBs, Bool.and_eq_true]
    exact ⟨h a List.mem_cons_self, ih fun x hx => h x (List.mem_cons_of_mem _ hx)⟩
theorem noB_frs (l : List Rat) : noB 2 (.lst (l.map fr)) = true := by
  simp only [noB]
  exact noBs_map fr l fun x _ => noB_fr 0 x
theorem fr_inj {p q : Rat} (h : fr p = fr q) : p = q := by
  unfold fr at h
  simp only [D.tup.injEq, List.cons.injEq, D.int.injEq, and_true] at h
  exact Rat.ext h.1 (by omega)
theorem fr_eq {p q : Rat} : fr p = fr q ↔ p = q := ⟨fr_inj, fun h => by rw [h]⟩
end DL

namespace DL
open PySem PySem.Spec PyProof.Rows L2

/-! ## classes of refusals -/
open PySem.W in
/-- what isinstance of one of a class leans on -/
def excB (K : PySem.W.Frag) (x : Str) : Bool :=
  (clsIn K (He.ga K x)).isSome && (He.eqO (findIn K (.ref (He.ga K x)) "__getattribute__") (some (some (.builtin "BaseException.__getattribute__"))) &&
  ((findIn K (.ref (He.ga K x)) "__getattr__").isSome && (decide (subIn K (.ref (He.ga K x)) (.type "BaseException") = some true) &&
  (He.eqO (findIn K (.ref (He.ga K x)) "__class__") (some (some (.builtin "object.__class__"))) && (He.eqO (specialIn K (.builtin "object.__class__") "__get__") (some (some (.builtin "getset_descriptor.__get__"))) &&
  (decide (takesIn K (.builtin "object.__class__") = some true) && decide (mroIn K (He.ga K x) (.type "object") = some true)))))))
/-- raised ones R, all names A, the base -/
structure ExL where
  R : List Str
  A : List Str
  base : Str
def isOf (L : ExL) (c y : Str) : Bool := c == y || y == L.base || y == "ValueError"
open PySem.W in
def exOk (L : ExL) (K : PySem.W.Frag) : Bool := L.R.all fun c => excB K c &&
  (decide (kitOne K (.ref (He.ga K c)) (.type "ValueError") = some true) && (L.A.all fun y => decide (kitOne K (.ref (He.ga K c)) (.ref (He.ga K y)) = some (isOf L c y)) && decide (exmOne K (.ref (He.ga K c)) (.ref (He.ga K y)) = some (isOf L c y))))
theorem eqO_at {a b : Option (Option Value)} (h : He.eqO a b = true) : a = b := He.eqO_ok h
section
variable {K : PySem.W.Frag} {L : ExL}
theorem exOk_at (h : exOk L K = true) {c : Str} (hc : c ∈ L.R) : excB K c = true ∧ PySem.W.kitOne K (.ref (He.ga K c)) (.type "ValueError") = some true ∧
    ∀ y ∈ L.A, PySem.W.kitOne K (.ref (He.ga K c)) (.ref (He.ga K y)) = some (isOf L c y) ∧ PySem.W.exmOne K (.ref (He.ga K c)) (.ref (He.ga K y)) = some (isOf L c y) := by
  have h1 := List.all_eq_true.mp h c hc
  obtain ⟨h2, h3⟩ := He.ba h1
  obtain ⟨h4, h5⟩ := He.ba h3
  refine ⟨h2, of_decide_eq_true h4, fun y hy => ?_⟩
  obtain ⟨h6, h7⟩ := He.ba (List.all_eq_true.mp h5 y hy)
  exact ⟨of_decide_eq_true h6, of_decide_eq_true h7⟩
theorem kitx_at (h : excB K c = true) (x : Addr) (ox : Obj) : PySem.W.KitX K (.ref x) (.ref (He.ga K c)) (fun h => PySem.W.InstAt h x ox (He.ga K c) none) := by
  obtain ⟨h1, h⟩ := He.ba h
  obtain ⟨h2, h⟩ := He.ba h
  obtain ⟨h3, h⟩ := He.ba h
  obtain ⟨h4, h⟩ := He.ba h
  obtain ⟨h5, h⟩ := He.ba h
  obtain ⟨h6, h⟩ := He.ba h
  obtain ⟨h7, h8⟩ := He.ba h
  obtain ⟨gt, hgt⟩ := Option.isSome_iff_exists.mp h3
  exact PySem.W.kitx_exc h1 (eqO_at h2) hgt (of_decide_eq_true h4) (eqO_at h5) (eqO_at h6) (of_decide_eq_true h7) (of_decide_eq_true h8)
end
/-! ### the hook, with one Bool more -/
abbrev AlX : Type := Bool × He.AlD
def obsX (n : Nat) (ok : PySem.W.Frag → Bool) (fa : List He.Fa) (fn : List He.DefD) (g : Addr → Option Obj) : AlX := (ok (He.frG g (sysModules :: He.asD g n)), He.obsD fa fn (He.frG g (sysModules :: He.asD g n)))
def hookX (n : Nat) (ok : PySem.W.Frag → Bool) (fa : List He.Fa) (fn : List He.DefD) : PySem.W.Hook where
  α := AlX
  obs := fun s => obsX n ok fa fn s.heap.get?
  val := fun _ => (true, He.valD fn)
  says := fun _ h => ∃ K : PySem.W.Frag, K.In h ∧ ok K = true ∧ He.SaysD fa fn K
  of := fun _ _ e => ⟨_, He.frG_in, congrArg (fun z : AlX => z.1) e, congrArg (fun z : AlX => z.2) e⟩
  keeps := fun _ _ _ ⟨K, hK, c⟩ k => ⟨K, PySem.W.Frag.In.keeps hK k, c⟩
theorem obsX_eq {n : Nat} {ok : PySem.W.Frag → Bool} {fa : List He.Fa} {fn : List He.DefD} {g : Addr → Option Obj} {s : Shared} (h : ∀ a, g a = s.heap.get? a) : obsX n ok fa fn g = (hookX n ok fa fn).obs s := by
  have e : g = s.heap.get? := funext h
  subst e
  rfl

/-! ## isinstance of a handled refusal -/
/-- the class of the handled one, at a -/
abbrev Pc := Option (Addr × Str)
def excOf (pc : Pc) : D → Option Str
  | .ref a => pc.bind fun q => if q.1 = a then some q.2 else none
  | _ => none
/-- the context has it pinned -/
def PinE (X : Cx) (L : ExL) : Pc → Prop
  | none => True
  | some (a, c) => c ∈ L.R ∧ ∃ oe : Obj, (a, oe) ∈ X.pn ∧ L2N.Zn (.ref (He.ga X.K c)) none oe ∧ ∃ vs, oe.data = .fields vs
def wIsE (L : ExL) (pc : Pc) (y : Str) (wa : WE) : WE := fun env M Q E => wa env M (fun d M1 => ∃ c, excOf pc d = some c ∧ Q (.bl (isOf L c y)) M1) E
section
variable {X : Cx} {W : WX} {a : Expr} {wa : WE} {L : ExL} {pc : Pc} {y : Str} {q r pos : Pos}
def rIsE (X : Cx) : List V → Hp → VK → Prop := fun xs H Q => ∃ (ad : Addr) (oe : Obj) (c : Str) (cv : V) (u : Value) (b : Bool), xs = [.ref ad, cv] ∧ (ad, oe) ∈ X.pn ∧ L2N.Zn (.ref (He.ga X.K c)) none oe ∧ (∃ vs, oe.data = .fields vs) ∧
  excB X.K c = true ∧ ClsV cv u ∧ PySem.W.kitOne X.K (.ref (He.ga X.K c)) u = some b ∧ Q (.bl b) H
theorem call_isE : CallR X (.builtin "isinstance") (rIsE X) := by
  rintro pins s σ H xs us Q I rv ⟨ad, oe, c, cv, u, b, rfl, hp, hz, ⟨vs, hv⟩, he, k, hk, hq⟩
  obtain ⟨u1, u2, rfl, r1, r2⟩ := vals2 rv
  have e2 := k.eq r2
  cases (show u1 = Value.ref ad from r1)
  subst e2
  have P := (I.pin (ad, oe) (List.mem_append_left _ hp)).1
  have Z : PySem.W.InstAt s.heap ad oe (He.ga X.K c) none := ⟨P, hz.1, by unfold PySem.W.notCls; rw [hv], by rw [hz.2.1]; trivial⟩
  exact PySem.W.kia_one (kitx_at he ad oe) I.kIn Z hk (by intro z; cases z) fun tk => ⟨.bl b, H, I.tok tk, rfl, hq⟩
theorem exc_at {d : D} {c : Str} (hpin : PinE X L pc) (h : excOf pc d = some c) : c ∈ L.R ∧ ∃ (ad : Addr) (oe : Obj), d = .ref ad ∧ (ad, oe) ∈ X.pn ∧ L2N.Zn (.ref (He.ga X.K c)) none oe ∧ ∃ vs, oe.data = .fields vs := by
  cases d with
  | ref ad =>
    match pc, hpin with
    | none, _ => cases h
    | some (b, c'), ⟨hc, oe, h1, h2, h3⟩ =>
      have h : (if b = ad then some c' else none) = some c := h
      split at h
      · rename_i e
        cases h
        exact ⟨hc, b, oe, by rw [e], h1, h2, h3⟩
      · cases h
  | _ => cases h
/-- isinstance(a, y), y a class of refusals of the text -/
theorem de_isE (hx : exOk L X.K = true) (hpin : PinE X L pc) (hg : Gl X "isinstance") (hm : X.mg "isinstance" = none) (hg2 : Gl X y) (hm2 : X.mg y = some (.ref (He.ga X.K y))) (hy : y ∈ L.A) (hd : (y == ("__debug__" : Str)) = false) (ha : DE X W a wa)
    (he : starEach [a, .Name y r] X.env = (false, eval a X.env) :: starEach [.Name y r] X.env := by rfl) :
    DE X W (.Call (.Name "isinstance" q) [a, .Name y r] [] pos) (wIsE L pc y wa) := by
  have h2 := pa_cons ha.pe (pa_cons (pe_glob hg2 hm2 (show RelV (.ref (He.ga X.K y)) (.ref (He.ga X.K y)) from rfl) hd (pos := r)) pa_nil) he
  refine ⟨pe_mono (pe_callB call_isE hg hm (by decide +kernel) h2 (by decide) (by decide) he (by rfl)) fun σ H Q ⟨env, μ, M, QD, ED, re, rs, hw, hq, hxx⟩ => ?_⟩
  refine ⟨env, μ, M, _, ED, re, rs, hw, fun v H1 μ1 d M1 k1 rs1 r1 ⟨c, q1, q2⟩ => ?_, hxx⟩
  obtain ⟨hc, ad, oe, rfl, h1, h2, h3⟩ := exc_at hpin q1
  obtain ⟨e1, e2, e3⟩ := exOk_at hx hc
  have hv : v = .ref ad := by cases r1; rfl
  exact ⟨ad, oe, c, .ref (He.ga X.K y), .ref (He.ga X.K y), _, by rw [hv], h1, h2, h3, e1, .own _, (e3 y hy).1, hq _ H1 μ1 _ M1 k1 rs1 (.bl _) q2⟩
theorem de_isVE (hx : exOk L X.K = true) (hpin : PinE X L pc) (hg : Gl X "isinstance") (hm : X.mg "isinstance" = none) (hg2 : Gl X "ValueError") (hm2 : X.mg "ValueError" = none) (ha : DE X W a wa)
    (he : starEach [a, .Name "ValueError" r] X.env = (false, eval a X.env) :: starEach [.Name "ValueError" r] X.env := by rfl) :
    DE X W (.Call (.Name "isinstance" q) [a, .Name "ValueError" r] [] pos) (wIsE L pc "ValueError" wa) := by
  have hb : bootBuiltins "ValueError" = some (.type "ValueError") := by decide +kernel
  have h2 := pa_cons ha.pe (pa_cons (pe_bltn hg2 hm2 hb (show RelV (.ty "ValueError") (.type "ValueError") from rfl) (by decide) (by decide) (pos := r)) pa_nil) he
  refine ⟨pe_mono (pe_callB call_isE hg hm (by decide +kernel) h2 (by decide) (by decide) he (by rfl)) fun σ H Q ⟨env, μ, M, QD, ED, re, rs, hw, hq, hxx⟩ => ?_⟩
  refine ⟨env, μ, M, _, ED, re, rs, hw, fun v H1 μ1 d M1 k1 rs1 r1 ⟨c, q1, q2⟩ => ?_, hxx⟩
  obtain ⟨hc, ad, oe, rfl, h1, h2, h3⟩ := exc_at hpin q1
  obtain ⟨e1, e2, e3⟩ := exOk_at hx hc
  have hv : v = .ref ad := by cases r1; rfl
  have hi : isOf L c "ValueError" = true := by unfold isOf; simp
  rw [hi] at q2
  exact ⟨ad, oe, c, .ty "ValueError", .type "ValueError", _, by rw [hv], h1, h2, h3, e1, .ty _, e2, hq _ H1 μ1 _ M1 k1 rs1 (.bl _) q2⟩
end
end DL

namespace DL
open PySem PySem.Spec PyProof.Rows L2 HotX

/-! ## a def called while the exception p is handled -/
section
variable {CX : CXT} {P : Program} {w : World} {K : PySem.W.Frag} {mg : Str → Option Value} {base : Heap}
/-- what it promises: for this p alone -/
structure FnE (P : Program) (w : World) (K : PySem.W.Frag) (mg : Str → Option Value) (base : Heap) (CX : CXT) (k : Nat) (f : Addr) (fd : FuncData) (ps : List Str) (p : Addr × Obj) (sp : Sp) : Prop where
  ln : ∀ vs H Q E, sp vs H Q E → vs.length = ps.length
  go : ∀ (A : Around) (outer : List Env) (s : Shared) (H : Hp) (ar : Args) (us : List Value) (vs : List V) (Q : VK) (E : XK), L2H.RoomH k A → L2H.Hot1 A p → L2H.PinOk outer H s p → Env0 P w K mg base A outer s H →
    BindsTo s fd ar (ps.zip us) → Vals vs us → sp vs H Q E → codeAny (model P w) A (.call (.ref f) ar) (CR CX outer P w H s Q E) s
theorem fnE_of {x qual : Str} {params : Arguments} {body : List Stmt} {scope : Scope} {f : Addr} {fd : FuncData} {N ps : List Str} {k : Nat} {p : Addr × Obj} {sp : Sp}
    (F : FunD K x qual params body scope [] [] f fd) (S : FnScope N ps scope) (ln : ∀ vs H Q E, sp vs H Q E → vs.length = ps.length)
    (hb : ∀ (cdv : Value) (A : Around) (outer : List Env) (s : Shared) (H : Hp) (vs : List V) (Q : VK) (E : XK), L2H.RoomH k (A.deeper (envOfC qual scope s.heap.objs.size f cdv)) → L2H.Hot1 A p → sp vs H Q E →
      ∃ t, PSs (L2H.cxH CX P w K mg base N qual scope f cdv A outer s H E p) body t ∧ t { nx := fun _ H' => Q .non H', rt := Q } (L2.start N vs) H) :
    FnE P w K mg base CX (k + 1) f fd ps p sp := by
  obtain ⟨oc, od, dV, kV, doc, pm, an, cdv, ct, osl, rfl, at_, code, _, _⟩ := F.ex
  refine ⟨ln, ?_⟩
  intro A outer s H ar us vs Q E room hot pin e0 bind vals told
  obtain ⟨t, body_, start_⟩ := hb cdv A outer s H vs Q E (room.deeper _) hot told
  have inK : K.In s.heap := e0.mod.kin.keeps fun b o e => (e0.bs b o e).1
  have free : s.heap.NoLimit := e0.mod.nolimit.keeps fun b o e => (e0.bs b o e).1
  have kinds : ∀ z ∈ ps.zip us, scope.names.lookup z.1 = some .local ∨ (scope.names.lookup z.1 = some .cell ∧ ((cellsFrom (s.heap.objs.size + 1) scope.names []).lookup z.1).isSome = true) := by
    intro z hz
    cases S.par z.1 (List.of_mem_zip hz).1 with
    | inl q => exact Or.inl q
    | inr q => exact Or.inr ⟨q, PySem.W.cellsFrom_some _ _ _ (.inl q)⟩
  apply codeAny_call_function room.depth (inK _ _ at_) rfl S.co S.gen rfl (PySem.W.codeRec_of inK code) (bind _ _ _ _ _)
  apply wpAny_newFunctionEnv_cells S.kind kinds
  rintro env rfl s1 x
  refine ⟨free.keeps x.toInCall.keep, codeAny_func ?_⟩
  have I := L2H.inv_startH (CX := CX) (E := E) S pin e0 (ln _ _ _ _ told) vals x
  have done_ : ∀ {σ' : L2.St} {H' : Hp} {v : V} {u : Value} {s2 : Shared}, Inv (L2H.cxH CX P w K mg base N qual scope f cdv A outer s H E p) [] σ' H' s2 → RelV v u → Q v H' → CE outer P w H s Q u s2 := by
    intro σ' H' v u s2 J rv hq
    exact ⟨v, H', J.os, J.bare, J.base, J.hok, rv, hq⟩
  apply wpAny_mono (body_.run [] s1 _ H _ I start_)
  · intro fl s2 h
    match fl, h with
    | .ret u, ⟨v, σ', H', J, rv, hq⟩ => exact done_ J rv hq
    | .next, ⟨σ', H', J, hq⟩ => exact done_ (v := V.non) (u := Value.none) J rfl hq
    | .brk, ⟨_, _, _, z⟩ => exact z.elim
    | .cont, ⟨_, _, _, z⟩ => exact z.elim
  · intro e s2 h
    exact h
end
section
variable {X : Cx} {CX : CXT} {k : Nat} {f : Addr} {fd : FuncData} {ps : List Str} {sp : Sp} {E : L2.St → XK} {x : Str} {q pos : Pos} {e : Expr} {es : List Expr} {t : TA} {p : Addr × Obj}
theorem run_fnE {pins : List (Addr × Obj)} {σ : L2.St} {H : Hp} {s : Shared} {Q : VK} {us : List Value} {vs : List V} (F : FnE X.prog X.w X.K X.mg X.base CX k f fd ps p sp) (room : L2H.RoomH k X.A) (hot : L2H.Hot1 X.A p) (hp : p ∈ X.pn) (bnd : Binds X.K fd ps [])
    (pass : PassesAt CX X σ (E σ)) (I : Inv X pins σ H s) (vals : Vals vs us) (told : sp vs H Q (E σ)) : wpAny (model X.prog X.w) X.A (call (.ref f) us) (EP X pins σ Q) X.xe s := by
  obtain ⟨g1, g2, g3, g4, g5⟩ := I.pin p (List.mem_append_left _ hp)
  have nofr : p.1 ∉ frs X.stack := by
    intro hm
    cases List.mem_cons.mp (I.stkSub p.1 hm) with
    | inl z => exact g3 z
    | inr z => exact g4 z
  have bs := bnd s us I.kIn (by rw [List.append_nil, ← vals.length]; exact F.ln _ _ _ _ told)
  rw [List.append_nil] at bs
  have main := F.go X.A X.stack s H ⟨us, []⟩ us vs Q (E σ) room hot ⟨g1, g2, nofr, g5⟩ I.env0 bs vals told
  refine wpAny_call (codeAny_mono main ?_)
  intro r s2 h
  match r, h with
  | .error er, h => exact pass pins H s er s2 I h
  | .ok (.ret u), h => exact I.after h
  | .ok .next, h => exact h.elim
  | .ok .brk, h => exact h.elim
  | .ok .cont, h => exact h.elim
theorem pe_callE (F : FnE X.prog X.w X.K X.mg X.base CX k f fd ps p sp) (room : L2H.RoomH k X.A) (hot : L2H.Hot1 X.A p) (hp : p ∈ X.pn) (hg : Gl X x) (hm : X.mg x = some (.ref f)) (kp : PySem.W.keepIn X.K (.ref f) = true) (bnd : Binds X.K fd ps [])
    (pass : ∀ σ, PassesAt CX X σ (E σ)) (ha : PA X (e :: es) t) (hdb : (x == ("__debug__" : Str)) = false) (he : starEach (e :: es) X.env = (false, eval e X.env) :: starEach es X.env) (hpl : (backTo pos (starEach es X.env)).any (·.1) = false) :
    PE X (.Call (.Name x q) (e :: es) [] pos) (tCallS sp E t) := by
  constructor
  intro pins s σ H Q I h
  apply wpAny_Call_Name_kw (ld_glob I hg hm _ hdb)
  have args := ha.run pos pins s σ H _ I h
  refine PySem.W.callWith_K (h₀ := X.base) I.ok.mod.kin kp (thn args ?_) he hpl
  rintro us s1 ⟨vs, H1, I1, vals, told⟩
  exact ⟨I1.kIn, run_fnE F room hot hp bnd (pass σ) I1 vals told⟩
end
/-! ## on the data layer -/
/-- p is a refusal of class c of L -/
def ExP (K : PySem.W.Frag) (L : ExL) (p : Addr × Obj) (c : Str) : Prop := c ∈ L.R ∧ L2N.Zn (.ref (He.ga K c)) none p.2 ∧ ∃ vs, p.2.data = .fields vs
/-- a def called while a refusal is handled: its promise for that one, at its address, of its class -/
def DCalE (P : Program) (w : World) (K : PySem.W.Frag) (mg : Str → Option Value) (base : Heap) (L : ExL) (k : Nat) (x : Str) (n : Nat) (wf : Addr → Str → WF) : Prop :=
  ∃ (f : Addr) (fd : FuncData) (ps : List Str), mg x = some (.ref f) ∧ PySem.W.keepIn K (.ref f) = true ∧ Binds K fd ps [] ∧ ps.length = n ∧ ∀ (p : Addr × Obj) (c : Str), ExP K L p c → FnE P w K mg base (L2N.CX P w) k f fd ps p (spD K n (wf p.1 c))
theorem room64H {j : Nat} {A : Around} (hr : L2H.RoomH j A) : A.units + 64 < cLine := by have := hr.un; omega
theorem fnDE_of {P : Program} {w : World} {K : PySem.W.Frag} {mg : Str → Option Value} {base : Heap} {L : ExL} {x qual : Str} {params : Arguments} {body : List Stmt} {scope : Scope} {f : Addr} {fd : FuncData} {N ps : List Str} {k n : Nat} {wf : WF} {wb : WS} {p : Addr × Obj} {c : Str}
    (F : FunD K x qual params body scope [] [] f fd) (S : FnScope N ps scope) (hn : ps.length = n) (hp : ExP K L p c)
    (hbody : ∀ (cdv : Value) (A : Around) (outer : List Env) (s : Shared) (H : Hp) (E : XK), L2H.RoomH k (A.deeper (envOfC qual scope s.heap.objs.size f cdv)) → PinE (L2H.cxH (L2N.CX P w) P w K mg base N qual scope f cdv A outer s H E p) L (some (p.1, c)) →
      DB (L2H.cxH (L2N.CX P w) P w K mg base N qual scope f cdv A outer s H E p) (WXo E) body wb)
    (spec : ∀ (ds : List D) (M : Me) (QD : D → Me → Prop) (ED : EX → Me → Prop), ds.length = n → wf ds M QD ED → wb (env0 N.length ds) M (retE M QD ED)) :
    FnE P w K mg base (L2N.CX P w) (k + 1) f fd ps p (spD K n wf) := by
  refine fnE_of F S (fun vs H Q E ⟨ds, μ, M, QD, ED, r, rs, hl, _⟩ => by rw [r.length, hl, hn]) (fun cdv A outer s H vs Q E hr _ ⟨ds, μ, M, QD, ED, r, rs, hl, h, hq, hx⟩ => ⟨_, (hbody cdv A outer s H E hr ⟨hp.1, p.2, by show p ∈ [p]; simp, hp.2⟩).pss, ?_⟩)
  refine ⟨env0 N.length ds, μ, M, _, rel_start r, rs, spec ds M QD ED hl h, ?_⟩
  exact {
    nx := fun σ H' μ' env M' k _ rs' q => ret_ok rs hq k rs' .non q
    rt := fun v H' μ' d M' k rs' r' q => ret_ok rs hq k rs' r' q
    bk := fun _ _ _ _ _ _ _ _ q => q.elim
    ct := fun _ _ _ _ _ _ _ _ q => q.elim
    ex := fun cls a σ H' μ' y env M' k _ rs' rx ⟨g, ho, q⟩ => by
      obtain ⟨kc, rc, _, _⟩ := rs.cut k rs' g
      refine hx cls a H' _ y _ kc rc ⟨rx.1, rx.2.1, fun m d e => ?_⟩ q
      obtain ⟨dd, v, h1, h2, h3⟩ := rx.2.2 m d e
      exact ⟨dd, v, h1, h2, h3.cut (ho m d e)⟩ }
section
variable {X : Cx} {W : WX} {L : ExL} {x : Str} {e : Expr} {es : List Expr} {p pos : Pos} {wr : WA}
theorem de_callE {k j n : Nat} {wf : Addr → Str → WF} {q : Addr × Obj} {c : Str} (hc : DCalE X.prog X.w X.K X.mg X.base L k x n wf) (hr : L2H.RoomH j X.A) (hk : k ≤ j) (hot : L2H.Hot1 X.A q) (hq : q ∈ X.pn) (hp : ExP X.K L q c) (hg : Gl X x) (tk : L2N.Takes X W) (ha : DA X W (e :: es) wr) (hdb : (x == ("__debug__" : Str)) = false)
    (he : starEach (e :: es) X.env = (false, eval e X.env) :: starEach es X.env := by rfl) (hpl : (backTo pos (starEach es X.env)).any (·.1) = false := by rfl) : DE X W (.Call (.Name x p) (e :: es) [] pos) (wCall n (wf q.1 c) wr) := by
  obtain ⟨f, fd, ps, hm, hkp, hb, hn, F⟩ := hc
  refine ⟨pe_mono (pe_callE (F q c hp) (hr.mono hk) hot hq hg hm hkp hb (fun σ => L2N.passAt tk σ) ha.pa hdb he hpl) fun σ H Q ⟨env, μ, M, QD, ED, re, rs, hw, hqq, hx⟩ => ?_⟩
  refine ⟨env, μ, M, _, ED, re, rs, hw, fun vs H1 μ1 ds M1 k1 rs1 r1 q1 => ?_, hx⟩
  exact ⟨ds, μ1, M1, QD, ED, r1, rs1, q1.1, q1.2, fun v H' μ' d M' k' => hqq v H' μ' d M' (k1.trans k'), fun cls a H' μ' y M' k' => hx cls a H' μ' y M' (k1.trans k')⟩
end
/-! ## try .. except y as n -/
/-- y's clause takes c -/
def mtE (L : ExL) (y c : Str) : Option Bool := if c ∈ L.R then some (isOf L c y) else none
def wTry (L : ExL) (y : Str) (i : Nat) (tb : WS) (ts : Addr → Str → WS) : WS := fun env M DD => tb env M { DD with ex := fun x env1 M1 => ∃ b : Bool, mtE L y x.cls = some b ∧
  if b = true then (x.arg = none ∧ ∀ ad : Addr, ts ad x.cls (env1.set i (some (.ref ad))) M1 { nx := fun e m => DD.nx (e.set i none) m, rt := DD.rt, bk := fun e m => DD.bk (e.set i none) m, ct := fun e m => DD.ct (e.set i none) m, ex := fun _ _ _ => False }) else DD.ex x env1 M1 }
theorem mt_at {L : ExL} {y c : Str} {b : Bool} (h : mtE L y c = some b) : c ∈ L.R ∧ b = isOf L c y := by
  unfold mtE at h
  split at h
  · cases h; exact ⟨by assumption, rfl⟩
  · cases h
section
variable {X : Cx} {W : WX} {L : ExL} {y n : Str} {i : Nat} {body suite : List Stmt} {s0 : Stmt} {np pos pos' : Pos} {tb : WS} {ts : Addr → Str → WS}
theorem roomS {k : Nat} {X : Cx} {a : Addr} {pn : List (Addr × Obj)} (hr : Room k X.A) : L2H.RoomH k (X.suite a pn).A := ⟨hr.dp, hr.un⟩
theorem hot_suite {X : Cx} {a : Addr} {oe : Obj} {pn : List (Addr × Obj)} {cls : Value} {d : Option Addr} (hz : L2N.Zn cls d oe) (hf : ∃ vs, oe.data = .fields vs) : L2H.Hot1 (X.suite a ((a, oe) :: pn)).A (a, oe) ∧ (a, oe) ∈ (X.suite a ((a, oe) :: pn)).pn := by
  obtain ⟨vs, hv⟩ := hf
  exact ⟨⟨rfl, vs, hv, hz.2.2 vs hv⟩, List.mem_cons_self⟩
theorem ds_try (hx : exOk L X.K = true) (hy : y ∈ L.A) (hs : X.stack = X.env :: X.outer) (hf : X.env.frame = some X.env.locals) (hN : X.N.Nodup) (hi : X.N[i]? = some n) (hln : X.env.kindOf n = some .local) (hc : Names X y (.ref (He.ga X.K y))) (tk : L2N.Takes X W)
    (hb : ∀ (W : WX) (pn : List (Addr × Obj)) (xe : Value → Shared → Prop), L2N.Takes (X.tr pn xe) W → PassesOwn (model X.prog X.w) X.A X.env xe → DB (X.tr pn xe) W body tb)
    (hsu : ∀ (a : Addr) (oe : Obj) (c : Str) (pn : List (Addr × Obj)), ExP X.K L (a, oe) c → L2H.Hot1 (X.suite a ((a, oe) :: pn)).A (a, oe) → DB (X.suite a ((a, oe) :: pn)) W0 (s0 :: suite) (ts a c)) :
    DS X W (.Try body [.ExceptHandler (some (.Name y np)) (some n) (s0 :: suite) pos'] [] [] pos) (wTry L y i tb ts) := by
  refine ⟨ps_mono (L2N.ps_try_as (i := i) (tb := fun W => tS X.K W tb) (ts := fun a cls d D σ H => ∃ c, c ∈ L.R ∧ cls = .ref (He.ga X.K c) ∧ d = none ∧ tS X.K W0 (ts a c) D σ H) hs hf hN hi hln hc tk (fun W pn xe t p => (hb W pn xe t p).pss) ?_) ?_⟩
  · intro a oe cls d pn hz hfl
    constructor
    rintro pins s σ H D I ⟨c, hcR, rfl, rfl, q⟩
    exact (hsu a oe c pn ⟨hcR, hz, hfl⟩ (hot_suite hz hfl).1).pss.run pins s σ H D I q
  · rintro D σ H ⟨env, μ, M, DD, re, rs, hw, o⟩
    refine ⟨env, μ, M, _, re, rs, hw, { nx := o.nx, rt := o.rt, bk := o.bk, ct := o.ct, ex := ?_ }⟩
    rintro cls a σ1 H1 μ1 x env1 M1 k1 re1 rs1 rx ⟨b, hm, q⟩
    obtain ⟨hcR, rfl⟩ := mt_at hm
    refine ⟨isOf L x.cls y, by rw [rx.1]; exact ((exOk_at hx hcR).2.2 y hy).2, fun hbt ad _ => ?_, fun hbf => ?_⟩
    · rw [hbt, if_pos rfl] at q
      refine ⟨x.cls, hcR, rx.1, rx.2.1 q.1, env1.set i (some (.ref ad)), μ1, M1, _, re1.set i (.ref ad), rs1, q.2 ad, ?_⟩
      have o1 := o.keep k1
      exact { nx := fun σ2 H2 μ2 e2 M2 k2 r2 s2 q2 => o1.nx _ H2 μ2 _ M2 k2 (r2.setN i) s2 q2, rt := o1.rt, bk := fun σ2 H2 μ2 e2 M2 k2 r2 s2 q2 => o1.bk _ H2 μ2 _ M2 k2 (r2.setN i) s2 q2,
              ct := fun σ2 H2 μ2 e2 M2 k2 r2 s2 q2 => o1.ct _ H2 μ2 _ M2 k2 (r2.setN i) s2 q2, ex := fun _ _ _ _ _ _ _ _ _ _ _ _ z => z.elim }
    · rw [hbf, if_neg Bool.false_ne_true] at q
      exact o.ex cls a σ1 H1 μ1 x env1 M1 k1 re1 rs1 rx q
end
/-! ## list.index of flat things -/
section
variable {X : Cx} {W : WX} {K : PySem.W.Frag}
def fIndex : FM := fun o ds M Q => ∃ (l : List D) (x z : D) (j : Nat), ds = [x] ∧ lsD o M = some l ∧ flatD x = true ∧ l.all flatD = true ∧ l[j]? = some z ∧ eqF z x = true ∧ (∀ (m : Nat) (y : D), m < j → l[m]? = some y → eqF y x = false) ∧ Q (.int (j : Nat)) M
theorem ok_index : OkM K (rIndex K) fIndex := fun x vs o ds H μ M QD Q rs rx r h hq => by
  obtain ⟨l, y, z, j, rfl, h1, h2, h3, h4, h5, h6, h7⟩ := h
  obtain ⟨v, rfl, r1⟩ := reps1 r
  obtain ⟨a, ws, rfl, e1, rr⟩ := rx.ls rs h1
  obtain ⟨u, e2, ru⟩ := rr.get h4
  have fl : ∀ d ∈ l, flatD d = true := List.all_eq_true.mp h3
  refine ⟨a, ws, v, j, u, rfl, rfl, .of e1, flat_V r1 h2, flats_V rr h3, e2, ?_, fun m u' hm e3 => ?_, hq _ H μ _ M rs.refl rs (.int _) h7⟩
  · rw [eq_F ru r1 (fl z (List.mem_of_getElem? h4)) h2]; exact h5
  · obtain ⟨d', e4, r4⟩ := rr.getV e3
    rw [eq_F r4 r1 (fl d' (List.mem_of_getElem? e4)) h2]
    exact h6 m d' hm e4
theorem de_index {o a : Expr} {wo wa : WE} {pos apos : Pos} (ho : DE X W o wo) (ha : DE X W a wa) (hbase : attributeBase o "index" X.env (eval o X.env) = eval o X.env := by rfl)
    (hfew : ((backTo pos (starEach (a :: []) X.env)).all (fun x => !x.1) && (backToKw pos (keywordEach [] X.env)).all (fun x => x.1.isSome)
      && decide ((a :: []).length + ([] : List Keyword).length + (if ([] : List Keyword).isEmpty then 0 else 1) < 30)) = true := by rfl)
    (hline : (apos.endLine == pos.line) = true := by rfl) (hs : starEach (a :: []) X.env = (false, eval a X.env) :: starEach [] X.env := by rfl) :
    DE X W (.Call (.Attribute o "index" apos) [a] [] pos) (wBM fIndex wo (wCons wa wNil)) := de_bm PySem.F.slot_list_index PySem.F.type_list_index mt_index ok_index ho (da_cons ha da_nil hs) hbase hfew hline hs
end
theorem exc_self {a : Addr} {c : Str} : excOf (some (a, c)) (.ref a) = some c := by simp [excOf]
end DL

namespace DL
open PySem PySem.Spec PyProof.Rows L2

/-! ## defs called where no text is being made of a thing (no guards stand on the stack) -/
section
variable {CX : CXT} {P : Program} {w : World} {K : PySem.W.Frag} {mg : Str → Option Value} {base : Heap}
abbrev NoGd (A : Around) : Prop := A.guards = some []
structure FnG (P : Program) (w : World) (K : PySem.W.Frag) (mg : Str → Option Value) (base : Heap) (CX : CXT) (k : Nat) (f : Addr) (fd : FuncData) (ps : List Str) (sp : Sp) : Prop where
  ln : ∀ vs H Q E, sp vs H Q E → vs.length = ps.length
  go : ∀ (A : Around) (outer : List Env) (s : Shared) (H : Hp) (ar : Args) (us : List Value) (vs : List V) (Q : VK) (E : XK), Room k A → NoGd A → Env0 P w K mg base A outer s H →
    BindsTo s fd ar (ps.zip us) → Vals vs us → sp vs H Q E → codeAny (model P w) A (.call (.ref f) ar) (CR CX outer P w H s Q E) s
theorem fnG_of {x qual : Str} {params : Arguments} {body : List Stmt} {scope : Scope} {f : Addr} {fd : FuncData} {N ps : List Str} {k : Nat} {sp : Sp}
    (F : FunD K x qual params body scope [] [] f fd) (S : FnScope N ps scope) (ln : ∀ vs H Q E, sp vs H Q E → vs.length = ps.length)
    (hb : ∀ (cdv : Value) (A : Around) (outer : List Env) (s : Shared) (H : Hp) (vs : List V) (Q : VK) (E : XK), Room k (A.deeper (envOfC qual scope s.heap.objs.size f cdv)) → NoGd (A.deeper (envOfC qual scope s.heap.objs.size f cdv)) → sp vs H Q E →
      ∃ t, PSs (cxOf CX P w K mg base N qual scope f cdv A outer s H E) body t ∧ t { nx := fun _ H' => Q .non H', rt := Q } (L2.start N vs) H) :
    FnG P w K mg base CX (k + 1) f fd ps sp := by
  obtain ⟨oc, od, dV, kV, doc, pm, an, cdv, ct, osl, rfl, at_, code, _, _⟩ := F.ex
  refine ⟨ln, ?_⟩
  intro A outer s H ar us vs Q E room gd e0 bind vals told
  obtain ⟨t, body_, start_⟩ := hb cdv A outer s H vs Q E (room.deeper _) gd told
  have inK : K.In s.heap := e0.mod.kin.keeps fun b o e => (e0.bs b o e).1
  have free : s.heap.NoLimit := e0.mod.nolimit.keeps fun b o e => (e0.bs b o e).1
  have kinds : ∀ z ∈ ps.zip us, scope.names.lookup z.1 = some .local ∨ (scope.names.lookup z.1 = some .cell ∧ ((cellsFrom (s.heap.objs.size + 1) scope.names []).lookup z.1).isSome = true) := by
    intro z hz
    cases S.par z.1 (List.of_mem_zip hz).1 with
    | inl q => exact Or.inl q
    | inr q => exact Or.inr ⟨q, PySem.W.cellsFrom_some _ _ _ (.inl q)⟩
  apply codeAny_call_function room.depth (inK _ _ at_) rfl S.co S.gen rfl (PySem.W.codeRec_of inK code) (bind _ _ _ _ _)
  apply wpAny_newFunctionEnv_cells S.kind kinds
  rintro env rfl s1 x
  refine ⟨free.keeps x.toInCall.keep, codeAny_func ?_⟩
  have I := L2.inv_start (CX := CX) (E := E) S room.hd e0 (ln _ _ _ _ told) vals x
  have done_ : ∀ {σ' : L2.St} {H' : Hp} {v : V} {u : Value} {s2 : Shared}, Inv (cxOf CX P w K mg base N qual scope f cdv A outer s H E) [] σ' H' s2 → RelV v u → Q v H' → CE outer P w H s Q u s2 := by
    intro σ' H' v u s2 J rv hq
    exact ⟨v, H', J.os, J.bare, J.base, J.hok, rv, hq⟩
  apply wpAny_mono (body_.run [] s1 _ H _ I start_)
  · intro fl s2 h
    match fl, h with
    | .ret u, ⟨v, σ', H', J, rv, hq⟩ => exact done_ J rv hq
    | .next, ⟨σ', H', J, hq⟩ => exact done_ (v := V.non) (u := Value.none) J rfl hq
    | .brk, ⟨_, _, _, z⟩ => exact z.elim
    | .cont, ⟨_, _, _, z⟩ => exact z.elim
  · intro e s2 h
    exact h
end
section
variable {X : Cx} {CX : CXT} {k : Nat} {f : Addr} {fd : FuncData} {ps : List Str} {sp : Sp} {E : L2.St → XK} {x : Str} {q pos : Pos} {e : Expr} {es : List Expr} {t : TA}
theorem run_fnG {pins : List (Addr × Obj)} {σ : L2.St} {H : Hp} {s : Shared} {Q : VK} {us : List Value} {vs : List V} (F : FnG X.prog X.w X.K X.mg X.base CX k f fd ps sp) (room : Room k X.A) (gd : NoGd X.A) (bnd : Binds X.K fd ps [])
    (pass : PassesAt CX X σ (E σ)) (I : Inv X pins σ H s) (vals : Vals vs us) (told : sp vs H Q (E σ)) : wpAny (model X.prog X.w) X.A (call (.ref f) us) (EP X pins σ Q) X.xe s := by
  have bs := bnd s us I.kIn (by rw [List.append_nil, ← vals.length]; exact F.ln _ _ _ _ told)
  rw [List.append_nil] at bs
  have main := F.go X.A X.stack s H ⟨us, []⟩ us vs Q (E σ) room gd I.env0 bs vals told
  refine wpAny_call (codeAny_mono main ?_)
  intro r s2 h
  match r, h with
  | .error er, h => exact pass pins H s er s2 I h
  | .ok (.ret u), h => exact I.after h
  | .ok .next, h => exact h.elim
  | .ok .brk, h => exact h.elim
  | .ok .cont, h => exact h.elim
theorem pe_callG (F : FnG X.prog X.w X.K X.mg X.base CX k f fd ps sp) (room : Room k X.A) (gd : NoGd X.A) (hg : Gl X x) (hm : X.mg x = some (.ref f)) (kp : PySem.W.keepIn X.K (.ref f) = true) (bnd : Binds X.K fd ps [])
    (pass : ∀ σ, PassesAt CX X σ (E σ)) (ha : PA X (e :: es) t) (hdb : (x == ("__debug__" : Str)) = false) (he : starEach (e :: es) X.env = (false, eval e X.env) :: starEach es X.env) (hpl : (backTo pos (starEach es X.env)).any (·.1) = false) :
    PE X (.Call (.Name x q) (e :: es) [] pos) (tCallS sp E t) := by
  constructor
  intro pins s σ H Q I h
  apply wpAny_Call_Name_kw (ld_glob I hg hm _ hdb)
  have args := ha.run pos pins s σ H _ I h
  refine PySem.W.callWith_K (h₀ := X.base) I.ok.mod.kin kp (thn args ?_) he hpl
  rintro us s1 ⟨vs, H1, I1, vals, told⟩
  exact ⟨I1.kIn, run_fnG F room gd bnd (pass σ) I1 vals told⟩
end
def DCalG (P : Program) (w : World) (K : PySem.W.Frag) (mg : Str → Option Value) (base : Heap) (k : Nat) (x : Str) (n : Nat) (wf : WF) : Prop :=
  ∃ (f : Addr) (fd : FuncData) (ps : List Str), mg x = some (.ref f) ∧ PySem.W.keepIn K (.ref f) = true ∧ Binds K fd ps [] ∧ ps.length = n ∧ FnG P w K mg base (L2N.CX P w) k f fd ps (spD K n wf)
theorem fnDG_of {P : Program} {w : World} {K : PySem.W.Frag} {mg : Str → Option Value} {base : Heap} {x qual : Str} {params : Arguments} {body : List Stmt} {scope : Scope} {f : Addr} {fd : FuncData} {N ps : List Str} {k n : Nat} {wf : WF} {wb : WS}
    (F : FunD K x qual params body scope [] [] f fd) (S : FnScope N ps scope) (hn : ps.length = n)
    (hbody : ∀ (cdv : Value) (A : Around) (outer : List Env) (s : Shared) (H : Hp) (E : XK), Room k (A.deeper (envOfC qual scope s.heap.objs.size f cdv)) → NoGd (A.deeper (envOfC qual scope s.heap.objs.size f cdv)) →
      DB (cxOf (L2N.CX P w) P w K mg base N qual scope f cdv A outer s H E) (WXo E) body wb)
    (spec : ∀ (ds : List D) (M : Me) (QD : D → Me → Prop) (ED : EX → Me → Prop), ds.length = n → wf ds M QD ED → wb (env0 N.length ds) M (retE M QD ED)) :
    FnG P w K mg base (L2N.CX P w) (k + 1) f fd ps (spD K n wf) := by
  refine fnG_of F S (fun vs H Q E ⟨ds, μ, M, QD, ED, r, rs, hl, _⟩ => by rw [r.length, hl, hn]) (fun cdv A outer s H vs Q E hr hgd ⟨ds, μ, M, QD, ED, r, rs, hl, h, hq, hx⟩ => ⟨_, (hbody cdv A outer s H E hr hgd).pss, ?_⟩)
  refine ⟨env0 N.length ds, μ, M, _, rel_start r, rs, spec ds M QD ED hl h, ?_⟩
  exact {
    nx := fun σ H' μ' env M' k _ rs' q => ret_ok rs hq k rs' .non q
    rt := fun v H' μ' d M' k rs' r' q => ret_ok rs hq k rs' r' q
    bk := fun _ _ _ _ _ _ _ _ q => q.elim
    ct := fun _ _ _ _ _ _ _ _ q => q.elim
    ex := fun cls a σ H' μ' y env M' k _ rs' rx ⟨g, ho, q⟩ => by
      obtain ⟨kc, rc, _, _⟩ := rs.cut k rs' g
      refine hx cls a H' _ y _ kc rc ⟨rx.1, rx.2.1, fun m d e => ?_⟩ q
      obtain ⟨dd, v, h1, h2, h3⟩ := rx.2.2 m d e
      exact ⟨dd, v, h1, h2, h3.cut (ho m d e)⟩ }
section
variable {X : Cx} {W : WX} {x : Str} {e : Expr} {es : List Expr} {p pos : Pos} {wr : WA}
theorem de_callG {k j n : Nat} {wf : WF} (c : DCalG X.prog X.w X.K X.mg X.base k x n wf) (hr : Room j X.A) (hk : k ≤ j) (gd : NoGd X.A) (hg : Gl X x) (tk : L2N.Takes X W) (ha : DA X W (e :: es) wr) (hdb : (x == ("__debug__" : Str)) = false)
    (he : starEach (e :: es) X.env = (false, eval e X.env) :: starEach es X.env := by rfl) (hpl : (backTo pos (starEach es X.env)).any (·.1) = false := by rfl) : DE X W (.Call (.Name x p) (e :: es) [] pos) (wCall n wf wr) := by
  obtain ⟨f, fd, ps, hm, hkp, hb, hn, F⟩ := c
  refine ⟨pe_mono (pe_callG F (hr.mono hk) gd hg hm hkp hb (fun σ => L2N.passAt tk σ) ha.pa hdb he hpl) fun σ H Q ⟨env, μ, M, QD, ED, re, rs, hw, hq, hx⟩ => ?_⟩
  refine ⟨env, μ, M, _, ED, re, rs, hw, fun vs H1 μ1 ds M1 k1 rs1 r1 q1 => ?_, hx⟩
  exact ⟨ds, μ1, M1, QD, ED, r1, rs1, q1.1, q1.2, fun v H' μ' d M' k' => hq v H' μ' d M' (k1.trans k'), fun cls a H' μ' y M' k' => hx cls a H' μ' y M' (k1.trans k')⟩
end
/-! ## the end of a row, for such a law -/
theorem law_callG {P : Program} {w : World} {K : PySem.W.Frag} {mg mb : Str → Option Value} {CX : CXT} {k : Nat} {fa a : Addr} {fd : FuncData} {x : Str} {sp : Sp} {s1 : Shared} {vs : List Value} {ns : List Int}
    (inK : K.In s1.heap) (nsM : s1.heap.Ns mainGlobals mg) (nsB : s1.heap.Ns builtinsNs mb) (bBoot : ∀ x : Str, x ≠ "__name__" → mb x = bootBuiltins x) (lim : s1.heap.NoLimit) (gens : s1.gens = #[])
    (arg : s1.heap.get? a = some { cls := .type "list", data := .seq vs.toArray }) (iv : IntsAre vs ns) (few : ns.length ≤ sizeLine) (room : Room k callerA)
    (F : ∀ base : Heap, K.In base → base.Ns mainGlobals mg → FnG P w K mg base CX k fa fd [x] sp) (bind : ∀ (s : Shared) (u : Value), BindsTo s fd ⟨[u], []⟩ [(x, u)])
    (told : ∀ H : Hp, Only H → SqL K H a (ns.map V.int) → sp [.ref a] H (fun v _ => v = .bl true) fun _ _ _ => False)
    (noX : ∀ H e s', CX [] H s1 (fun _ _ _ => False) e s' → False) :
    codeAny (model P w) callerA (.call (.ref fa) ⟨[.ref a], []⟩) (fun r s' => r = .ok (.ret (.bool true)) ∧ OldK s1.heap s'.heap ∧ s'.os = s1.os ∧ AllBare s'.gens) s1 := by
  have vals := vals_ints iv
  have len := iv.length
  -- the script alone may be told of
  obtain ⟨H, alone, seq⟩ : ∃ H : Hp, (∀ b u, H b = some u → b = a ∧ K.lookup a = none ∧ u = .frz { cls := .type "list", data := .seq vs.toArray } (.lst (ns.map V.int))) ∧ SqL K H a (ns.map V.int) := by
    cases lk : K.lookup a with
    | none =>
      refine ⟨fun b => if b = a then some (.frz { cls := .type "list", data := .seq vs.toArray } (.lst (ns.map V.int))) else none, ?_, .inl (.inr ⟨{ cls := .type "list", data := .seq vs.toArray }, if_pos rfl⟩)⟩
      intro b u e
      by_cases hb : b = a
      · have e := (if_pos hb).symm.trans e
        cases e
        exact ⟨hb, rfl, rfl⟩
      · have e := (if_neg hb).symm.trans e
        cases e
    | some o =>
      have e := inK a o lk
      rw [arg] at e
      cases e
      refine ⟨fun _ => none, fun b u e => ?_, .inr ⟨_, vs.toArray, _, lk, rfl, rfl, rfl, ?_, ?_⟩⟩
      · have e : (none : Option HO) = some u := e
        cases e
      · rw [List.size_toArray, len]; exact few
      · simpa using vals
  have only : Only H := fun b => by
    cases e : H b with
    | none => exact .inl rfl
    | some u => exact .inr ⟨_, _, by rw [(alone b u e).2.2]⟩
  have hok : HOk P w H s1.heap := fun b u e => by
    obtain ⟨rfl, _, rfl⟩ := alone b u e
    exact ⟨arg, by rw [List.length_map]; exact few, vs, _, vals, arg⟩
  have free : ∀ {b : Addr} {o : Obj}, s1.heap.get? b = some o → (∀ ys n, o.data ≠ .seq ys n) → H b = none := fun {b o} e ne => by
    cases q : H b with
    | none => rfl
    | some u =>
      obtain ⟨rfl, _, _⟩ := alone b u q
      rw [arg] at e
      cases e
      exact absurd rfl (ne _ _)
  have nsIn : ∀ {b : Addr} {m : Str → Option Value}, s1.heap.Ns b m → (hidT s1.heap H).Ns b m := fun {b m} ⟨o, es, ep, e, d, r⟩ => ⟨o, es, ep, hidT_get e (free e fun ys n z => by rw [d] at z; cases z), d, r⟩
  have inB : K.In (hidT s1.heap H) := fun b o e => hidT_get (inK b o e) (by
    cases q : H b with
    | none => rfl
    | some u =>
      obtain ⟨rfl, z, _⟩ := alone b u q
      rw [z] at e; cases e)
  have md : Mod K mg (hidT s1.heap H) := by
    obtain ⟨mc, l1, l2⟩ := lim
    exact ⟨inB, nsIn nsM, ⟨mb, nsIn nsB, bBoot⟩, mc, nsIn l1, l2⟩
  have e0 : Env0 P w K mg (hidT s1.heap H) callerA [] s1 H := {
    frames := rfl, mod := md, bs := fun b o e => of_hidT e, bsz := Nat.le_of_eq (hidT_size _ _), funs := trivial, frf := fun b hb => (nomatch hb), hok := hok, bare := .of_eq gens }
  have run := (F _ inB (nsIn nsM)).go callerA [] s1 H ⟨[.ref a], []⟩ [.ref a] [.ref a] _ _ room rfl e0 (bind s1 (.ref a)) (.cons rfl .nil) (told H only seq)
  refine codeAny_mono run ?_
  intro r s2 h
  match r, h with
  | .error e, h => exact (noX H e s2 h).elim
  | .ok .next, h => exact h.elim
  | .ok .brk, h => exact h.elim
  | .ok .cont, h => exact h.elim
  | .ok (.ret u), ⟨v, H', os, bare, un, hok', rv, q⟩ =>
    have q : v = .bl true := q
    subst q
    have eu : u = Value.bool true := rv
    subst eu
    refine ⟨rfl, OldK.of_keep ?_, os, bare⟩
    intro b o e
    cases q : H b with
    | none => exact un.keep b o e q (fun z => nomatch z) (fun z => nomatch z)
    | some u =>
      obtain ⟨rfl, _, rfl⟩ := alone b u q
      have e1 := (hok' _ _ (un.frzs _ _ _ q)).1
      rw [arg] at e
      cases e
      exact e1
theorem walk_ofG {l : PySem.W.OpenLaw} {n k : Nat} {q : Program} {lo : List Str} {XP : (Str → Option Value) → Heap → Prop} {YP : World → Heap → Prop} {d : DefRec} {CX : World → CXT} {x : Str} (h1 : l.most = some n) (h2 : n ≤ sizeLine) (h3 : d.params.defaults = []) (h4 : Room k callerA)
    (F : ∀ (w : World) (mg : Str → Option Value) (f : Addr) (h : Heap), YP w h → h.Ns mainGlobals mg → mg d.name = some (.ref f) → ∃ (K : PySem.W.Frag) (fd : FuncData) (sp : Sp), K.In h ∧ (∀ (s : Shared) (u : Value), BindsTo s fd ⟨[u], []⟩ [(x, u)]) ∧
        (∀ (H : Hp) (a : Addr) (ns : List Int), ns.length ≤ n → Only H → SqL K H a (ns.map V.int) → sp [.ref a] H (fun v _ => v = .bl true) fun _ _ _ => False) ∧ ∀ base : Heap, K.In base → base.Ns mainGlobals mg → FnG l.prog w K mg base (CX w) k f fd [x] sp)
    (h5 : ∀ (w : World) (H : Hp) (s : Shared) (e : Value) (s' : Shared), CX w [] H s (fun _ _ _ => False) e s' → False) : PySem.W.WalkO q lo XP YP l.row.toRowW d [] (fun f vs => PySem.call f vs) := by
  refine Att.attach_call h1 h3 fun w t₀ t₁ mg mb f ob pm cd doc a vs ns G Y ho hd hcd hm hj hi hlen hg => ?_
  obtain ⟨K, fd, sp, KX, q1, q2, q3⟩ := F w mg f _ Y G.T.g hm
  exact law_callG KX G.T.g G.T.b G.T.builtins G.T.nolimit hg hj hi (Nat.le_trans hlen h2) h4 q3 q1 (fun H i1 i2 => q2 H a ns hlen i1 i2) fun H e s' => h5 w H t₁ e s'
end DL

namespace DL
open PySem PySem.Spec PyProof.Rows L2

/-! ## repr of plain data -/
def keyP : Key → PyData
  | .inl i => .int i
  | .inr x => .str x
mutual
/-- plain data with dicts, as the library's -/
def pyR : D → Option PyData
  | .non => some .none
  | .bl b => some (.bool b)
  | .int i => some (.int i)
  | .str x => some (.str x)
  | .tup l => (pyRs l).map .tuple
  | .lst l => (pyRs l).map .list
  | .fls l => (pyRs l).map .list
  | .dct ks vs => if ks.length = vs.length then (pyRs vs).map fun ps => .dict ((ks.map keyP).zip ps) else none
  | _ => none
def pyRs : List D → Option (List PyData)
  | [] => some []
  | d :: l => (pyR d).bind fun x => (pyRs l).map fun xs => x :: xs
end
/-- where the modules stand, a dict stands -/
def smOk (K : PySem.W.Frag) : Bool := match K.lookup sysModules with
  | some o => decide (o.cls = .type "dict")
  | none => false
section
variable {X : Cx} {pins : List (Addr × Obj)} {σ : L2.St} {H : Hp} {s : Shared} {μ : Mu}
theorem sm_ne (I : Inv X pins σ H s) (hs : smOk X.K = true) {a : Addr} {o : Obj} {T : String} (e : s.heap.get? a = some o) (c : o.cls = .type T) (hT : T ≠ "dict") : sysModules ≠ a := by
  rintro rfl
  unfold smOk at hs
  cases q : X.K.lookup sysModules with
  | none => rw [q] at hs; cases hs
  | some o' =>
    rw [q] at hs
    have hs := of_decide_eq_true hs
    have e' := I.kIn _ _ q
    rw [e] at e'
    cases e'
    rw [c] at hs
    cases hs
    exact hT rfl
theorem pyRs_len : ∀ {l : List D} {ps : List PyData}, pyRs l = some ps → ps.length = l.length
  | [], _, e => by cases e; rfl
  | d :: l, _, e => by
    simp only [pyRs, Option.bind_eq_some_iff, Option.map_eq_some_iff] at e
    obtain ⟨x, _, xs, e2, rfl⟩ := e
    simp [pyRs_len e2]
theorem keys_read {h : Heap} {P : Program} {w : World} : ∀ {es : List DictEntry} {vs : List (Key × Value)}, Pairs (mixKind P w) es vs → ReadsAll h (es.map (·.key)) (vs.map fun p => keyP p.1) []
  | _, _, .nil => .nil
  | _, _, .cons (e := e) (kv := kv) h1 h2 t => by
    have k1 : keyIs kv.1 e.key = true := h1
    have r : Reads h e.key (keyP kv.1) [] := by
      generalize e.key = u at k1 ⊢
      generalize kv.1 = kk at k1 ⊢
      rcases keyIs_shape k1 with ⟨j, t, rfl, rfl⟩ | ⟨x, t, rfl, rfl⟩
      · exact .int _ _
      · exact .str _ _
    have := ReadsAll.cons r (keys_read t)
    simpa using this
theorem vals_pairs {P : Program} {w : World} : ∀ {es : List DictEntry} {vs : List (Key × Value)}, Pairs (mixKind P w) es vs → es.map (·.val) = vs.map (·.2)
  | _, _, .nil => rfl
  | _, _, .cons _ h2 t => by rw [List.map_cons, List.map_cons, h2, vals_pairs t]
theorem kv_at : ∀ {kvs : List (Key × V)} {vs : List (Key × Value)}, KV kvs vs → vs.map (·.1) = kvs.map (·.1) ∧ Vals (kvs.map (·.2)) (vs.map (·.2))
  | _, _, .nil => ⟨rfl, .nil⟩
  | _, _, .cons h t => by
    obtain ⟨h1, h2⟩ := kv_at t
    exact ⟨by rw [List.map_cons, List.map_cons, h.1, h1], .cons h.2 h2⟩
mutual
theorem rep_reads (I : Inv X pins σ H s) (hm : smOk X.K = true) : ∀ {d : D} {v : V} {u : Value} {p : PyData}, Rep X.K H μ v d → pyR d = some p → RelV v u → ∃ as, Reads s.heap u p as ∧ sysModules ∉ as
  | .non, _, _, _, r, e, rv => by cases r; cases e; cases rv; exact ⟨[], .none, by simp⟩
  | .bl b, _, _, _, r, e, rv => by cases r; cases e; cases rv; exact ⟨[], .bool b, by simp⟩
  | .int i, _, _, _, r, e, rv => by cases r; cases e; obtain ⟨t, rfl⟩ := rv; exact ⟨[], .int i t, by simp⟩
  | .str x, _, _, _, r, e, rv => by cases r; cases e; obtain ⟨t, rfl⟩ := rv; exact ⟨[], .str x t, by simp⟩
  | .tup l, _, _, _, r, e, rv => by
    cases r with
    | tup hs rr =>
      simp only [pyR, Option.map_eq_some_iff] at e
      obtain ⟨ps, e1, rfl⟩ := e
      cases rv
      obtain ⟨its, rv, ⟨o, ho, hc, n, hd⟩, _⟩ := I.tuple hs
      obtain ⟨as, h1, h2⟩ := reps_reads I hm rr e1 rv
      exact ⟨as, .tuple ho hc hd h1, h2⟩
  | .lst l, _, _, _, r, e, rv => by
    cases r with
    | lst hs n1 n2 rr =>
      simp only [pyR, Option.map_eq_some_iff] at e
      obtain ⟨ps, e1, rfl⟩ := e
      cases rv
      obtain ⟨its, rv, ⟨o, n, ho, hc, _, hd⟩, _⟩ := I.list (.of hs)
      obtain ⟨as, h1, h2⟩ := reps_reads I hm rr e1 rv
      refine ⟨_, .list ho hc hd h1, fun z => ?_⟩
      rcases List.mem_cons.mp z with z | z
      · exact sm_ne I hm ho hc (by decide) z
      · exact h2 z
  | .fls l, _, _, _, r, e, rv => by
    cases r with
    | fix hs rr =>
      simp only [pyR, Option.map_eq_some_iff] at e
      obtain ⟨ps, e1, rfl⟩ := e
      cases rv
      obtain ⟨its, rv, ⟨o, n, ho, hc, _, hd⟩, _⟩ := I.list (KLst.sq hs)
      obtain ⟨as, h1, h2⟩ := reps_reads I hm rr e1 rv
      refine ⟨_, .list ho hc hd h1, fun z => ?_⟩
      rcases List.mem_cons.mp z with z | z
      · exact sm_ne I hm ho hc (by decide) z
      · exact h2 z
  | .dct ks l, _, _, _, r, e, rv => by
    simp only [pyR] at e
    split at e
    · rename_i hl
      simp only [Option.map_eq_some_iff] at e
      obtain ⟨ps, e1, rfl⟩ := e
      cases r with
      | dct hs hn0 rr =>
        rename_i a kvs
        cases rv
        obtain ⟨hz, hS, vs, kv, o, es, ep, ho, hx, hd, hk, hp, hn⟩ : kvs.length ≤ sizeLine ∧ (a == sysModules) = false ∧ ∃ vs, KV kvs vs ∧ s.heap.DictOf (mixKind X.prog X.w) a vs := I.hok a _ hs
        obtain ⟨k1, k2⟩ := kv_at kv
        obtain ⟨as, h1, h2⟩ := reps_reads I hm rr e1 k2
        have hlp := pyRs_len e1
        refine ⟨_, .dict (as := []) (bs := as) ho hx.1 hd ?_ ?_, fun z => ?_⟩
        · have := keys_read (h := s.heap) hp
          rw [List.map_fst_zip (by rw [List.length_map, hl, hlp]; exact Nat.le_refl _), ← k1, List.map_map]
          exact this
        · rw [List.map_snd_zip (by rw [List.length_map, hl, hlp]; exact Nat.le_refl _), vals_pairs hp]
          exact h1
        · rcases List.mem_cons.mp z with z | z
          · have hS := beq_eq_false_iff_ne.mp hS
            exact hS z.symm
          · exact h2 (by simpa using z)
    · cases e
  | .han _, _, _, _, _, e, _ => by simp [pyR] at e
  | .ref _, _, _, _, _, e, _ => by simp [pyR] at e
  | .ty _, _, _, _, _, e, _ => by simp [pyR] at e
theorem reps_reads (I : Inv X pins σ H s) (hm : smOk X.K = true) : ∀ {l : List D} {vs : List V} {us : List Value} {ps : List PyData}, Reps X.K H μ vs l → pyRs l = some ps → Vals vs us → ∃ as, ReadsAll s.heap us ps as ∧ sysModules ∉ as
  | [], _, _, _, r, e, rv => by cases r; cases e; cases rv; exact ⟨[], .nil, by simp⟩
  | d :: l, _, _, _, r, e, rv => by
    cases r with
    | cons r t =>
      simp only [pyRs, Option.bind_eq_some_iff, Option.map_eq_some_iff] at e
      obtain ⟨x, e1, xs, e2, rfl⟩ := e
      cases rv with
      | cons r1 r2 =>
        obtain ⟨as, h1, h2⟩ := rep_reads I hm r e1 r1
        obtain ⟨bs, h3, h4⟩ := reps_reads I hm t e2 r2
        refine ⟨as ++ bs, .cons h1 h3, fun z => ?_⟩
        rcases List.mem_append.mp z with z | z
        · exact h2 z
        · exact h4 z
end
end
/-! ### the rule -/
def fRepr : FC
  | [d], M, Q => ∃ p, pyR d = some p ∧ p.showable = true ∧ p.depth ≤ 60 ∧ p.shown.length ≤ sizeLine ∧ Q (.str p.shown) M
  | _, _, _ => False
section
variable {X : Cx} {W : WX} {e : Expr} {es : List Expr} {wr : WA} {pos p : Pos}
def rRepr (X : Cx) : List V → Hp → VK → Prop := fun xs H Q => ∃ (v : V) (d : D) (μ : Mu) (p : PyData), xs = [v] ∧ Rep X.K H μ v d ∧ pyR d = some p ∧ p.showable = true ∧ p.depth ≤ 60 ∧ p.shown.length ≤ sizeLine ∧ Q (.str p.shown) H
theorem call_repr_ (hm : smOk X.K = true) (gd : NoGd X.A) (hu : X.A.units + 64 < cLine) : CallR X (.builtin "repr") (rRepr X) := by
  rintro pins s σ H xs us Q I rv ⟨v, d, μ, p, rfl, r, e, hs, hd, hl, hq⟩
  cases rv with
  | cons r1 r2 =>
    cases r2
    obtain ⟨as, h1, h2⟩ := rep_reads I hm r e r1
    have fin : ∀ (h' : Heap) (u tk : Tok), (∀ b o, s.heap.get? b = some o → h'.get? b = some o) → EP X pins σ Q (.str p.shown u) { s with heap := h', toks := tk } := fun h' u tk k => ⟨.str p.shown, H, I.kept k, ⟨u, rfl⟩, hq⟩
    cases h1 with
    | none => exact PySem.P.repr_of_none (fin _ _ _ fun _ _ z => z)
    | bool b => exact PySem.P.repr_of_bool (by cases b <;> exact fin _ _ _ fun _ _ z => z)
    | int i t => exact PySem.P.repr_of_int (by simpa [PyData.showable] using hs) (fin _ _ _ fun _ _ z => z)
    | str x t => exact PySem.P.repr_of_str (fin _ _ _ fun _ _ z => z) hl
    | list a1 a2 a3 a4 => exact repr_of_reads' (Reads.list a1 a2 a3 a4) hs (fun _ => h2) gd (by omega) (fun _ _ z => z) (fun h' u tk k => fin h' u tk k) hl
    | tuple a1 a2 a3 a4 => exact repr_of_reads' (Reads.tuple a1 a2 a3 a4) hs (fun _ => h2) gd (by omega) (fun _ _ z => z) (fun h' u tk k => fin h' u tk k) hl
    | dict a1 a2 a3 a4 a5 => exact repr_of_reads' (Reads.dict a1 a2 a3 a4 a5) hs (fun _ => h2) gd (by omega) (fun _ _ z => z) (fun h' u tk k => fin h' u tk k) hl
theorem ok_repr : OkC X.K (rRepr X) fRepr := fun vs ds H μ M QD Q rs r h hq => by
  unfold fRepr at h
  split at h
  · obtain ⟨v, rfl, r1⟩ := reps1 r
    obtain ⟨p, h1, h2, h3, h4, h5⟩ := h
    exact ⟨v, _, μ, p, rfl, r1, h1, h2, h3, h4, hq _ H μ _ M rs.refl rs (.str _) h5⟩
  · exact h.elim
theorem bi_repr (hm : smOk X.K = true) (gd : NoGd X.A) (hu : X.A.units + 64 < cLine) (hg : Gl X "repr") (hf : X.mg "repr" = none) (ha : DA X W (e :: es) wr)
    (he : starEach (e :: es) X.env = (false, eval e X.env) :: starEach es X.env := by rfl) (hpl : (backTo pos (starEach es X.env)).any (·.1) = false := by rfl) : DE X W (.Call (.Name "repr" p) (e :: es) [] pos) (wCB fRepr wr) :=
  de_blt (call_repr_ hm gd hu) ok_repr hg hf (by decide +kernel) ha (by decide) (by decide) he hpl
end
/-! ### sizes of texts -/
mutual
/-- no text of the data is longer -/
def bnd : PyData → Nat
  | .none => 4
  | .bool _ => 5
  | .int _ => 1921
  | .str x => (reprText x).length
  | .list xs => 3 + bnds xs
  | .tuple xs => 4 + bnds xs
  | .dict kvs => 3 + bndk kvs
def bnds : List PyData → Nat
  | [] => 0
  | x :: xs => bnd x + 2 + bnds xs
def bndk : List (PyData × PyData) → Nat
  | [] => 0
  | (k, v) :: r => bnd k + bnd v + 4 + bndk r
end
theorem textFrom_length : ∀ (ts : List Str) (k : Nat) (acc : Str), (textFrom k acc ts).length ≤ acc.length + piled ts
  | [], _, acc => by rw [piled_nil]; exact Nat.le_refl _
  | t :: ts, k, acc => by
    have ih := textFrom_length ts (k + 1) (acc ++ (if k > 0 then ", " else "" : String) ++ t)
    have e : (((if k > 0 then ", " else "" : String) : Str)).length ≤ 2 := by split <;> decide
    rw [strLen_append, strLen_append] at ih
    rw [piled_cons]
    show (textFrom (k + 1) _ ts).length ≤ _
    omega
theorem join_length (ts : List Str) : (Str.join ", " ts).length ≤ piled ts := by
  cases ts with
  | nil => decide
  | cons t ts => have := join_length_add (t :: ts) (by simp); omega
mutual
theorem shown_bnd : ∀ {p : PyData}, p.showable = true → p.shown.length ≤ bnd p
  | .none, _ => by simp only [PyData.shown, bnd]; decide
  | .bool b, _ => by cases b <;> (simp only [PyData.shown, bnd]; decide)
  | .int i, h => by
    simp only [PyData.shown, bnd]
    exact int_text_len_1921 (by simpa [PyData.showable] using h)
  | .str x, _ => by simp only [PyData.shown, bnd]; exact Nat.le_refl _
  | .list xs, h => by
    simp only [PyData.shown, bnd]
    have := shownAll_bnd (ps := xs) (by simpa [PyData.showable] using h)
    unfold listText
    have h1 := textFrom_length (PyData.shownAll xs) 0 "["
    rw [strLen_append]
    have e1 : ((("[" : String) : Str)).length = 1 := rfl
    have e2 : ((("]" : String) : Str)).length = 1 := rfl
    omega
  | .tuple xs, h => by
    simp only [PyData.shown, bnd]
    have := shownAll_bnd (ps := xs) (by simpa [PyData.showable] using h)
    unfold tupleText
    have h1 := join_length (PyData.shownAll xs)
    rw [strLen_append, strLen_append]
    have e1 : ((("(" : String) : Str)).length = 1 := rfl
    have e3 : (((if (PyData.shownAll xs).length == 1 then ",)" else ")" : String) : Str)).length ≤ 2 := by split <;> decide
    omega
  | .dict kvs, h => by
    simp only [PyData.shown, bnd]
    have := shownKv_bnd (ps := kvs) (by simpa [PyData.showable] using h)
    unfold dictText
    have h1 := join_length (PyData.shownKv kvs)
    rw [strLen_append, strLen_append]
    have e1 : ((("{" : String) : Str)).length = 1 := rfl
    have e2 : ((("}" : String) : Str)).length = 1 := rfl
    omega
theorem shownAll_bnd : ∀ {ps : List PyData}, PyData.showableAll ps = true → piled (PyData.shownAll ps) ≤ bnds ps
  | [], _ => by simp only [PyData.shownAll, bnds]; exact Nat.le_refl _
  | x :: xs, h => by
    simp only [PyData.showableAll, Bool.and_eq_true] at h
    simp only [PyData.shownAll, bnds, piled_cons]
    have := shown_bnd h.1
    have := shownAll_bnd h.2
    omega
theorem shownKv_bnd : ∀ {ps : List (PyData × PyData)}, PyData.showableKv ps = true → piled (PyData.shownKv ps) ≤ bndk ps
  | [], _ => by simp only [PyData.shownKv, bndk]; exact Nat.le_refl _
  | (k, v) :: r, h => by
    simp only [PyData.showableKv, Bool.and_eq_true] at h
    simp only [PyData.shownKv, bndk, piled_cons]
    have h1 := shown_bnd h.1.1
    have h2 := shown_bnd h.1.2
    have h3 := shownKv_bnd h.2
    rw [strLen_append, strLen_append]
    have e1 : (((": " : String) : Str)).length = 2 := rfl
    omega
end
/-! ### data whose text can be made: its depth, no more signs than w -/
def Rp (n w : Nat) (d : D) : Prop := ∃ p, pyR d = some p ∧ p.showable = true ∧ p.depth ≤ n ∧ bnd p ≤ w
def Rps (n w : Nat) (l : List D) : Prop := ∃ ps, pyRs l = some ps ∧ PyData.showableAll ps = true ∧ PyData.depthAll ps ≤ n ∧ bnds ps ≤ w
theorem Rp.mono {n m w u : Nat} {d : D} (h : Rp n w d) (h1 : n ≤ m) (h2 : w ≤ u) : Rp m u d := let ⟨p, a, b, c, e⟩ := h; ⟨p, a, b, Nat.le_trans c h1, Nat.le_trans e h2⟩
theorem Rp.non : Rp 1 4 .non := ⟨_, rfl, rfl, by simp [PyData.depth], by simp [bnd]⟩
theorem Rp.bl (b : Bool) : Rp 1 5 (.bl b) := ⟨_, rfl, rfl, by simp [PyData.depth], by simp [bnd]⟩
theorem Rp.int {i : Int} (h : Sm 1920 i) : Rp 1 1921 (.int i) := ⟨_, rfl, by simp [PyData.showable]; exact h.lg (by decide), by simp [PyData.depth], by simp [bnd]⟩
theorem Rp.str (x : Str) : Rp 1 (reprText x).length (.str x) := ⟨_, rfl, rfl, by simp [PyData.depth], by simp [bnd]⟩
theorem Rps.of {n w : Nat} : ∀ {l : List D}, (∀ d ∈ l, Rp n w d) → Rps n (l.length * (w + 2)) l
  | [], _ => ⟨[], rfl, rfl, by simp [PyData.depthAll], by simp [bnds]⟩
  | d :: l, h => by
    obtain ⟨p, a, b, c, e⟩ := h d List.mem_cons_self
    obtain ⟨ps, a', b', c', e'⟩ := Rps.of (n := n) (w := w) (l := l) fun x hx => h x (List.mem_cons_of_mem _ hx)
    refine ⟨p :: ps, by simp [pyRs, a, a'], by simp [PyData.showableAll, b, b'], by simp [PyData.depthAll]; omega, ?_⟩
    simp only [bnds, List.length_cons]
    have : (l.length + 1) * (w + 2) = l.length * (w + 2) + (w + 2) := Nat.succ_mul _ _
    omega
theorem Rp.tup {n w : Nat} {l : List D} (h : ∀ d ∈ l, Rp n w d) : Rp (n + 1) (4 + l.length * (w + 2)) (.tup l) := by
  obtain ⟨ps, a, b, c, e⟩ := Rps.of h
  exact ⟨.tuple ps, by simp [pyR, a], by simpa [PyData.showable] using b, by simp [PyData.depth]; omega, by simp only [bnd]; omega⟩
theorem Rp.lst {n w : Nat} {l : List D} (h : ∀ d ∈ l, Rp n w d) : Rp (n + 1) (4 + l.length * (w + 2)) (.lst l) := by
  obtain ⟨ps, a, b, c, e⟩ := Rps.of h
  exact ⟨.list ps, by simp [pyR, a], by simpa [PyData.showable] using b, by simp [PyData.depth]; omega, by simp only [bnd]; omega⟩
theorem Rp.dct0 : Rp 1 3 (.dct [] []) := ⟨.dict [], rfl, by simp [PyData.showable, PyData.showableKv], by simp [PyData.depth, PyData.depthKv], by simp [bnd, bndk]⟩
theorem Rp.dct1 {n w : Nat} {i : Int} {d : D} (hi : Sm 1920 i) (h : Rp n w d) (hn : 1 ≤ n) : Rp (n + 1) (w + 1930) (.dct [.inl i] [d]) := by
  obtain ⟨p, a, b, c, e⟩ := h
  refine ⟨.dict [(.int i, p)], by simp [pyR, pyRs, a, keyP], ?_, ?_, ?_⟩
  · have := hi.lg (by decide)
    simp only [PyData.showable, PyData.showableKv, b, Bool.and_true, decide_eq_true_eq]
    exact this
  · simp only [PyData.depth, PyData.depthKv]; omega
  · simp only [bnd, bndk]; omega
theorem cps_small (x : String) : ∀ c ∈ (Str.ofString x).cps.toList, c < 16 ^ 8 := by
  intro c hc
  rw [Str.ofString_eq_toList] at hc
  simp only [List.mem_map] at hc
  obtain ⟨z, _, rfl⟩ := hc
  exact Nat.lt_of_lt_of_le z.val.toNat_lt (by decide)
theorem Rp.strI {i : Int} (h : Sm 1920 i) : Rp 1 20000 (.str (Str.ofString (toString i))) := by
  refine (Rp.str _).mono (Nat.le_refl _) ?_
  have h1 := StrLaws.reprText_len _ (cps_small (toString i))
  have h2 := int_text_len_1921 (i := i) (h.lg (by decide))
  omega
def txt (d : D) : Str := ((pyR d).map PyData.shown).getD ""
theorem repr_at {n w : Nat} {d : D} {M : Me} {Q : D → Me → Prop} (h : Rp n w d) (hn : n ≤ 60) (hw : w ≤ sizeLine) (q : Q (.str (txt d)) M) : fRepr [d] M Q := by
  obtain ⟨p, a, b, c, e⟩ := h
  refine ⟨p, a, b, Nat.le_trans c hn, Nat.le_trans (shown_bnd b) (Nat.le_trans e hw), ?_⟩
  have et : txt d = p.shown := by unfold txt; rw [a]; rfl
  rw [← et]
  exact q
theorem wRepr_at {n w i : Nat} {env : En} {M : Me} {Q : D → Me → Prop} {E : EX → Me → Prop} {d : D} (h : env[i]? = some (some d)) (hr : Rp n w d) (hn : n ≤ 60) (hw : w ≤ sizeLine) (q : Q (.str (txt d)) M) : wCB fRepr (wCons (wVar i) wNil) env M Q E :=
  wVar_at (E := E) h (repr_at hr hn hw q)
theorem wNeRepr_at {n w i j : Nat} {env : En} {M : Me} {Q : Bool → Me → Prop} {E : EX → Me → Prop} {d : D} (h : env[i]? = some (some d)) (h2 : env[j]? = some (some (.str (txt d)))) (hr : Rp n w d) (hn : n ≤ 60) (hw : w ≤ sizeLine) (q : Q false M) :
    wB (wBin fNe (wCB fRepr (wCons (wVar i) wNil)) (wVar j)) env M Q E := by
  refine wRepr_at (E := E) h hr hn hw (wVar_at (E := E) h2 ?_)
  show Q (!decide (txt d = txt d)) M
  simpa using q
end DL

namespace DL
open PySem PySem.Spec PyProof.Rows L2

/-! ## displays of dicts -/
section
variable {X : Cx} {W : WX} {pos : Pos} {K : PySem.W.Frag}
def wDct0 : WE := fun _ M Q _ => Q (.dct [] []) M
theorem de_dict0 : DE X W (.Dict [] [] pos) wDct0 := by
  refine ⟨pe_mono pe_dnewK fun σ H Q ⟨env, μ, M, QD, ED, re, rs, hw, hq, hx⟩ => fun p hp => ?_⟩
  obtain ⟨k, rs'⟩ := rs.lay (o := .dK []) hp
  exact hq _ _ μ _ M k rs' (.dct (kvs := []) upd_same (notMem_of_none rs hp).1 .nil) hw
/-- a name or a constant -/
structure DP (X : Cx) (e : Expr) (g : En → Option D) (φ : L2.St → V → Prop) : Prop where
  pe : PE X e (fun σ H Q => ∃ v, φ σ v ∧ Q v H)
  at_ : ∀ {σ : L2.St} {H : Hp} {μ : Mu} {env : En} {d : D}, RelE X.K H μ σ env → g env = some d → ∃ v, φ σ v ∧ Rep X.K H μ v d
theorem dp_var {i : Nat} {x : Str} (n : Nm X.N X.env.scope i x) : DP X (.Name x pos) (fun env => (env[i]?).bind id) (fun σ v => σ[i]? = some (some v)) :=
  ⟨pe_mono (pe_var n.hN n.hv n.hd n.hc) fun _ _ _ h => h, fun {σ H μ env d} re h => by
    cases e : env[i]? with
    | none => rw [e] at h; cases h
    | some o =>
      rw [e] at h
      have h : o = some d := h
      subst h
      exact re.at_ i d e⟩
theorem dp_int {i : Int} {j : Nat} : DP X (.Constant (.int i) j pos) (fun _ => some (.int i)) (fun _ v => v = .int i) :=
  ⟨pe_mono pe_int fun _ _ _ ⟨v, e, h⟩ => by subst e; exact h, fun _ h => by cases h; exact ⟨_, rfl, .int i⟩⟩
def keyD : D → Option Key
  | .int i => some (.inl i)
  | .str x => some (.inr x)
  | _ => none
def wDct1 (gk gv : En → Option D) : WE := fun env M Q _ => ∃ dk dv key, gk env = some dk ∧ gv env = some dv ∧ keyD dk = some key ∧ Q (.dct [key] [dv]) M
theorem upd_upd {H : Hp} {p : Addr} {o o' : HO} : upd (upd H p o) p o' = upd H p o' := by
  funext b
  by_cases e : b = p
  · subst e; rw [upd_same, upd_same]
  · rw [upd_ne e, upd_ne e, upd_ne e]
theorem key_rep {H : Hp} {μ : Mu} {v : V} {d : D} {key : Key} (r : Rep K H μ v d) (h : keyD d = some key) : v = kV key := by
  cases r <;> first | (cases h; rfl) | (cases h)
theorem de_dict1 {k v : Expr} {gk gv : En → Option D} {φ ψ : L2.St → V → Prop} (hk : DP X k gk φ) (hv : DP X v gv ψ) : DE X W (.Dict [some k] [v] pos) (wDct1 gk gv) := by
  refine ⟨pe_mono (pe_disp (pps_cons hk.pe hv.pe pps_nil) rfl rfl (by simp) (by show 1 ≤ 15; decide)) fun σ H Q ⟨env, μ, M, QD, ED, re, rs, ⟨dk, dv, key, e1, e2, e3, hw⟩, hq, hx⟩ => fun p hp => ?_⟩
  obtain ⟨x, hx1, rx⟩ := hk.at_ re e1
  obtain ⟨y, hy1, ry⟩ := hv.at_ re e2
  refine ⟨x, hx1, y, hy1, upd_same, [(key, y)], ?_, by show 1 ≤ 15; decide, ?_⟩
  · rw [key_rep rx e3]; rfl
  · rw [upd_upd]
    obtain ⟨k', rs'⟩ := rs.lay (o := .dK [(key, y)]) hp
    exact hq _ _ μ _ M k' rs' (.dct (kvs := [(key, y)]) upd_same (notMem_of_none rs hp).1 (.cons (ry.keep k') .nil)) hw
end
end DL

namespace DL
open PySem PySem.Spec PyProof.Rows L2 HT

/-! ## t[::-1] of a tuple -/
section
variable {prog : Program} {w : World} {A : Around} {E : Value → Shared → Prop} {s : Shared}
theorem adj_rev (n : Nat) : Builtin.Slice.sliceAdjust none none (-1) (n : Int) = ((n : Int) - 1, -1) := rfl
theorem places_rev (n : Nat) : Builtin.Slice.slicePlaces ((n : Int) - 1) (-1) (-1) = n := by
  unfold Builtin.Slice.slicePlaces
  have h1 : ¬ ((-1 : Int) > 0) := by decide
  rw [if_neg h1]
  by_cases h : (n : Int) - 1 > -1
  · rw [if_pos h, show (-(-1) : Int) = 1 by decide, Int.ediv_one]
    omega
  · rw [if_neg h]; omega
theorem sliceApplied_rev {sl : Addr} {vl vu vs : Value} {n : Nat} {Q : Int × Int × Nat → Shared → Prop} (hs : s.heap.IsSliceOf sl vl vu vs) (pl : IsPart vl none) (pu : IsPart vu none) (ps : IsPart vs (some (-1)))
    (h : Q ((n : Int) - 1, -1, n) s) : wpAny (model prog w) A (Builtin.Slice.sliceApplied (.ref sl) (pure (n : Int))) Q E s := by
  obtain ⟨os, hos, hcs, hds⟩ := id hs
  unfold Builtin.Slice.sliceApplied Builtin.Slice.sliceFields
  refine wpAny_bind (wpAny_bind (wpAny_field hos hds (x := vl) rfl (wpAny_bind (wpAny_field hos hds (x := vu) rfl (wpAny_bind (wpAny_field hos hds (x := vs) rfl (wpAny_pure ?_)))))))
  refine wpAny_bind (slicePart_ ps ?_)
  show wpAny _ _ (if ((-1 : Int) == 0) = true then _ else _) _ _ s
  rw [if_neg (by decide)]
  refine wpAny_bind (slicePart_ pl (wpAny_bind (slicePart_ pu (wpAny_bind (wpAny_pure ?_)))))
  show wpAny _ _ (match Builtin.Slice.sliceAdjust none none (-1) (n : Int) with | (lo, hi) => pure (lo, (-1 : Int), Builtin.Slice.slicePlaces lo hi (-1))) _ _ s
  rw [adj_rev n]
  show wpAny _ _ (pure ((n : Int) - 1, (-1 : Int), Builtin.Slice.slicePlaces ((n : Int) - 1) (-1) (-1))) _ _ s
  rw [places_rev]
  exact wpAny_pure h
theorem fm_congr {α β : Type} {f g : α → Option β} : ∀ {l : List α}, (∀ m ∈ l, f m = g m) → l.filterMap f = l.filterMap g
  | [], _ => rfl
  | a :: l, h => by
    rw [List.filterMap_cons, List.filterMap_cons, h a (by simp), fm_congr fun m hm => h m (by simp [hm])]
theorem pick_rev (xs : Array Value) : ((List.range xs.size).filterMap fun (m : Nat) => xs[(((xs.size : Int) - 1) + (m : Int) * (-1)).toNat]?).toArray = xs.toList.reverse.toArray := by
  have e : (List.range xs.size).filterMap (fun (m : Nat) => xs[(((xs.size : Int) - 1) + (m : Int) * (-1)).toNat]?) = ((List.range xs.size).map fun k => xs.size - 1 - k).filterMap (xs[·]?) := by
    rw [List.filterMap_map]
    refine fm_congr fun m hm => ?_
    have : (((xs.size : Int) - 1) + (m : Int) * (-1)).toNat = xs.size - 1 - m := by omega
    rw [this]
    rfl
  rw [e, PySem.W.krv_range, List.filterMap_reverse, PySem.W.krv_all]
theorem getItem_tuple_rev {t sl : Addr} {items : Array Value} {vl vu vs : Value} {Q : Value → Shared → Prop} (ht : IsTup s.heap t items) (hs : s.heap.IsSliceOf sl vl vu vs) (pl : IsPart vl none) (pu : IsPart vu none) (ps : IsPart vs (some (-1)))
    (h : Q (.ref s.heap.objs.size) { s with heap := s.heap.push { cls := .type "tuple", data := .seq items.toList.reverse.toArray } })
    (hsz : items.size ≤ sizeLine) : wpAny (model prog w) A (getItem (.ref t) (.ref sl)) Q E s := by
  have htake : sizeOk (.seq items.toList.reverse.toArray) := by
    show items.toList.reverse.toArray.size ≤ sizeLine
    rw [List.size_toArray, List.length_reverse, Array.length_toList]
    exact hsz
  obtain ⟨os, hos, hcs, hds⟩ := id hs
  have hTs : s.TypeIs (.ref sl) "slice" := ⟨os, hos, hcs⟩
  unfold getItem
  try with_reducible refine wpAny_holding ?_
  first | refine wpAny_bind (wpAny_pure ?_) | skip
  refine wpAny_bind (wpAny_sequenceKey ht.typeIs (by decide) ?_)
  refine wpAny_bind (wpAny_callSpecial?_slot (name := Str.ofString "__getitem__") ht.typeIs PyProof.Rows.slot_tuple_getitem
    (wpAny_call_entry PyProof.Rows.slot_tuple_getitem ht.typeIs entry_tuple_getitem ?_ (args_tuple_getitem _ _)))
  show wpAny _ _ (Builtin.Tuple.tupleItemsOf (.ref t) >>= _) _ _ s
  refine wpAny_bind (tupleItemsOf_ ht ?_)
  refine wpAny_bind (wpAny_typeOf hTs ?_)
  rw [if_pos (by decide)]
  refine wpAny_bind (sliceApplied_rev hs pl pu ps ?_)
  have hno : ¬ ((((items.size : Int) - 1 == 0) && ((-1 : Int) == 1) && (items.size == items.size)) = true) := by
    rw [show ((-1 : Int) == 1) = false by decide, Bool.and_false, Bool.false_and]
    exact Bool.false_ne_true
  show wpAny _ _ (if (((items.size : Int) - 1 == 0) && ((-1 : Int) == 1) && (items.size == items.size)) = true then _ else _) _ _ s
  rw [if_neg hno, pick_rev]
  first
    | exact wpAny_bind (m := Builtin.Tuple.tupleExact _) (wpAny_newObj_type (wpAny_pure ⟨_, rfl, wpAny_pure h⟩) htake)
    | exact wpAny_bind (m := Builtin.Tuple.tupleExact _) (wpAny_newObj_type (wpAny_bind (wpAny_pure (wpAny_pure ⟨_, rfl, wpAny_pure h⟩))) htake)
    | exact wpAny_bind (wpAny_bind (m := Builtin.Tuple.tupleExact _) (wpAny_newObj_type (wpAny_pure (wpAny_pure ⟨_, rfl, wpAny_pure h⟩)) htake))
    | exact wpAny_bind (wpAny_bind (m := Builtin.Tuple.tupleExact _) (wpAny_newObj_type (wpAny_pure ⟨_, rfl, wpAny_pure h⟩) htake))
end
section
variable {X : Cx}
def tRevT (K : PySem.W.Frag) (te : TE) : TE := fun σ H Q => te σ H fun x H1 => ∃ a xs, x = .ref a ∧ SqT K H1 a xs ∧ ∀ p, H1 p = none → Q (.ref p) (upd H1 p (.tup xs.reverse))
theorem pe_revT {e : Expr} {te : TE} {k : Nat} {p1 p2 p3 pos : Pos} (he : PE X e te) : PE X (.Subscript e (.Slice none none (some (.UnaryOp .USub (.Constant (.int 1) k p1) p2)) p3) pos) (tRevT X.K te) := by
  refine ⟨fun pins s σ H Q I h => ?_⟩
  refine Subscript_ (thn (he.run pins s σ H _ I h) fun v s1 ⟨x, H1, I1, r1, q1⟩ => ?_)
  obtain ⟨a, xs, ex, hx, q⟩ := q1
  subst ex
  cases r1
  have hst : PO X (some (.UnaryOp .USub (.Constant (.int 1) k p1) p2)) (tPart (tUn (rU fun i => .int (-i)) (tC (.int 1)))) := po_some (pe_un un_neg pe_int)
  refine wpAny_Slice (thn (po_none.run pins s1 σ H1 (fun o H2 => o = none ∧ H2 = H1) I1 ⟨rfl, rfl⟩) fun vl s2 ⟨l, H2, I2, pl, el, e2⟩ => ?_)
  subst el e2
  refine thn (po_none.run pins s2 σ H2 (fun o H3 => o = none ∧ H3 = H2) I2 ⟨rfl, rfl⟩) fun vu s3 ⟨u, H3, I3, pu, eu, e3⟩ => ?_
  subst eu e3
  refine thn (hst.run pins s3 σ H3 (fun o H4 => o = some (-1) ∧ H4 = H3) I3 ⟨1, rfl, -1, rfl, rfl, rfl⟩) fun vs s4 ⟨o, H4, I4, ps, eo, e4⟩ => ?_
  subst eo e4
  have I5 : Inv X pins σ H4 { s4 with heap := s4.heap.push { cls := .type "slice", data := .fields #[vl, vu, vs] } } := I4.kept (t' := s4.toks) fun b ob q => Heap.get?_push_of_some _ q
  obtain ⟨its, r, ht, hz⟩ := I5.tuple hx
  have hlen := r.length
  show wpAny (model X.prog X.w) X.A (subscriptTail e (.Slice none none (some (.UnaryOp .USub (.Constant (.int 1) k p1) p2)) p3) (.ref a) (.ref s4.heap.objs.size)) (EP X pins σ Q) X.xe { s4 with heap := s4.heap.push { cls := .type "slice", data := .fields #[vl, vu, vs] } }
  refine tail_any (ops := [.ref a, .ref s4.heap.objs.size]) ht.typeIs (PyProof.Rows.slot_tuple_getitem.lookup) ?_ (by with_unfolding_all rfl)
  refine getItem_tuple_rev ht (Heap.IsSliceOf.new _ vl vu vs) pl pu ps ?_ (by rw [List.size_toArray]; omega)
  refine ⟨.ref _, _, I5.laid (t' := s4.toks) (o := .tup xs.reverse) (fun b ob q => Heap.get?_push_of_some _ q) (Nat.le_refl _) ?_, rfl, q _ (I5.hok.fresh (Nat.le_refl _))⟩
  exact ⟨by rw [List.length_reverse]; exact hz, _, r.reverse, IsTup.new _ _⟩
end
section
variable {X : Cx} {W : WX} {pos : Pos} {a : Expr} {wa : WE}
/-- t[::-1] of a tuple -/
def wRevT (wa : WE) : WE := fun env M Q E => wa env M (fun d M1 => match d with | .tup l => Q (.tup l.reverse) M1 | _ => False) E
theorem de_revT {k : Nat} {p1 p2 p3 : Pos} (ha : DE X W a wa) : DE X W (.Subscript a (.Slice none none (some (.UnaryOp .USub (.Constant (.int 1) k p1) p2)) p3) pos) (wRevT wa) := by
  refine ⟨pe_mono (pe_revT ha.pe) fun σ H Q ⟨env, μ, M, QD, ED, re, rs, hw, hq, hx⟩ => ⟨env, μ, M, _, ED, re, rs, hw, fun v H1 μ1 d M1 k1 rs1 r1 q1 => ?_, hx⟩⟩
  cases d with
  | tup ds =>
    obtain ⟨a, vs, rfl, h1, rr⟩ := r1.tup_
    refine ⟨a, vs, rfl, h1, fun p hp => ?_⟩
    obtain ⟨k', rs', r'⟩ := tup_rep rs1 rr.reverse hp
    exact hq _ _ μ1 _ M1 (k1.trans k') rs' r' q1
  | _ => exact q1.elim
end
section
variable {X : Cx} {W : WX} {pos : Pos} {a b : Expr} {wa wb : WE} {K : PySem.W.Frag}
/-- t * k of a tuple -/
def fMulT : F2 := fun d e M Q => ∃ l k, d = .tup l ∧ e = .int k ∧ l ≠ [] ∧ 2 ≤ k ∧ k ≤ 1000 ∧ l.length ≤ 1000 ∧ Q (.tup (List.replicate k.toNat l).flatten) M
theorem ok_mulT : OkR K (rRepT K) fMulT := fun x y d e H μ M QD Q rs rx ry ⟨l, k, h1, h2, h3, h4, h5, h6, q⟩ hq => by
  subst h1; subst h2
  obtain ⟨a, vs, rfl, h1, rr⟩ := rx.tup_
  cases ry
  refine ⟨a, k, vs, rfl, rfl, h1, fun z => h3 (by rw [z] at rr; cases rr; rfl), h4, h5, by rw [rr.length]; exact h6, fun p hp => ?_⟩
  obtain ⟨k', rs', r'⟩ := tup_rep rs (rr.rep k.toNat) hp
  exact hq _ _ μ _ M k' rs' r' q
theorem de_mulT (ha : DE X W a wa) (hb : DE X W b wb) : DE X W (.BinOp a .Mult b pos) (wBin fMulT wa wb) := de_bin op_repT ok_mulT ha hb
end
end DL

namespace DL
open PySem PySem.Spec PyProof.Rows L2

/-! ## a call of one of two defs, picked out of a list -/
section
variable {X : Cx} {CX : CXT} {k1 k2 : Nat} {f1 f2 : Addr} {fd1 fd2 : FuncData} {ps1 ps2 : List Str} {sp1 sp2 : Sp} {E : L2.St → XK} {pos : Pos} {e fe : Expr} {es : List Expr} {t : TA} {tf : TE}
def tCallX2 (f1 f2 : Addr) (sp1 sp2 : Sp) (E : L2.St → XK) (tf : TE) (t : TA) : TE := fun σ H Q => tf σ H fun y H1 => (y = .ref f1 ∧ t σ H1 fun vs H2 => sp1 vs H2 Q (E σ)) ∨ (y = .ref f2 ∧ t σ H1 fun vs H2 => sp2 vs H2 Q (E σ))
theorem pe_callX2 (hf : PE X fe tf) (F1 : FnOk X.prog X.w X.K X.mg X.base CX k1 f1 fd1 ps1 sp1) (F2 : FnOk X.prog X.w X.K X.mg X.base CX k2 f2 fd2 ps2 sp2) (hr1 : Room k1 X.A) (hr2 : Room k2 X.A) (hk1 : PySem.W.keepIn X.K (.ref f1) = true) (hk2 : PySem.W.keepIn X.K (.ref f2) = true)
    (hb1 : Binds X.K fd1 ps1 []) (hb2 : Binds X.K fd2 ps2 []) (hx : ∀ σ, PassesAt CX X σ (E σ)) (ha : PA X (e :: es) t)
    (ht : eval (.Call fe (e :: es) [] pos) X.env = (do callWith pos (← eval fe X.env) [] (backTo pos (starEach (e :: es) X.env)) (backToKw pos (keywordEach [] X.env))) := by rfl)
    (he : starEach (e :: es) X.env = (false, eval e X.env) :: starEach es X.env := by rfl) (hpl : (backTo pos (starEach es X.env)).any (·.1) = false := by rfl) :
    PE X (.Call fe (e :: es) [] pos) (tCallX2 f1 f2 sp1 sp2 E tf t) := by
  refine ⟨fun pins s σ H Q I h => ?_⟩
  refine Call_ (thn (hf.run pins s σ H _ I h) fun u s1 ⟨y, H1, I1, ry, q⟩ => ?_) ht
  rcases q with ⟨ey, q⟩ | ⟨ey, q⟩
  · subst ey
    obtain rfl : u = Value.ref f1 := ry
    refine PySem.W.callWith_K (h₀ := X.base) I1.ok.mod.kin hk1 (thn (ha.run pos pins s1 σ H1 _ I1 q) fun us s2 ⟨vs, H2, I2, r, q2⟩ => ⟨I2.kIn, ?_⟩) he hpl
    exact run_fnS F1 hr1 hb1 (hx σ) I2 r q2
  · subst ey
    obtain rfl : u = Value.ref f2 := ry
    refine PySem.W.callWith_K (h₀ := X.base) I1.ok.mod.kin hk2 (thn (ha.run pos pins s1 σ H1 _ I1 q) fun us s2 ⟨vs, H2, I2, r, q2⟩ => ⟨I2.kIn, ?_⟩) he hpl
    exact run_fnS F2 hr2 hb2 (hx σ) I2 r q2
end
section
variable {X : Cx} {W : WX} {pos : Pos} {e ei : Expr} {es : List Expr} {wi : WE} {wr : WA}
/-- [f, g][i](e, ..) -/
def wPick2 (n : Nat) (s1 s2 : WF) (wi : WE) (wr : WA) : WE := fun env M Q E => wi env M (fun d M1 => (d = .int 0 ∧ wr env M1 (fun ds M2 => ds.length = n ∧ s1 ds M2 Q E) E) ∨ (d = .int 1 ∧ wr env M1 (fun ds M2 => ds.length = n ∧ s2 ds M2 Q E) E)) E
theorem de_pick2 {k1 k2 j n : Nat} {x1 x2 : Str} {s1 s2 : WF} {p1 p2 pl psb : Pos} (c1 : DCal X.prog X.w X.K X.mg X.base k1 x1 n s1) (c2 : DCal X.prog X.w X.K X.mg X.base k2 x2 n s2) (hr : Room j X.A) (hk1 : k1 ≤ j) (hk2 : k2 ≤ j) (hg1 : Gl X x1) (hg2 : Gl X x2) (tk : L2N.Takes X W)
    (hi : DE X W ei wi) (ha : DA X W (e :: es) wr) (hd1 : (x1 == ("__debug__" : Str)) = false) (hd2 : (x2 == ("__debug__" : Str)) = false) (hs : PlainIx ei := by intro _ _; rfl)
    (hst : starEach [.Name x1 p1, .Name x2 p2] X.env = (false, eval (.Name x1 p1) X.env) :: starEach [.Name x2 p2] X.env := by rfl) (hst2 : starEach [.Name x2 p2] X.env = (false, eval (.Name x2 p2) X.env) :: starEach [] X.env := by rfl)
    (ht : eval (.Call (.Subscript (.List [.Name x1 p1, .Name x2 p2] pl) ei psb) (e :: es) [] pos) X.env = (do callWith pos (← eval (.Subscript (.List [.Name x1 p1, .Name x2 p2] pl) ei psb) X.env) [] (backTo pos (starEach (e :: es) X.env)) (backToKw pos (keywordEach [] X.env))) := by rfl)
    (he : starEach (e :: es) X.env = (false, eval e X.env) :: starEach es X.env := by rfl) (hpl : (backTo pos (starEach es X.env)).any (·.1) = false := by rfl) :
    DE X W (.Call (.Subscript (.List [.Name x1 p1, .Name x2 p2] pl) ei psb) (e :: es) [] pos) (wPick2 n s1 s2 wi wr) := by
  obtain ⟨f1, fd1, ps1, hm1, hkp1, hb1, hn1, F1⟩ := c1
  obtain ⟨f2, fd2, ps2, hm2, hkp2, hb2, hn2, F2⟩ := c2
  have hfun : PE X (.Subscript (.List [.Name x1 p1, .Name x2 p2] pl) ei psb) _ := pe_ix ix_seq (pe_lst (pa_cons (pe_glob (v := .ref f1) hg1 hm1 rfl hd1) (pa_cons (pe_glob (v := .ref f2) hg2 hm2 rfl hd2) pa_nil hst2) hst)) hi.pe hs
  refine ⟨pe_mono (pe_callX2 hfun F1 F2 (hr.mono hk1) (hr.mono hk2) hkp1 hkp2 hb1 hb2 (fun σ => L2N.passAt tk σ) ha.pa ht he hpl) fun σ H Q ⟨env, μ, M, QD, ED, re, rs, hw, hq, hx⟩ => ?_⟩
  refine ⟨by show 2 ≤ sizeLine; decide, fun p hp => ?_⟩
  obtain ⟨k0, rs0⟩ := rs.lay (o := .lst [V.ref f1, .ref f2]) hp
  have np : p ∉ μ.h := (notMem_of_none rs hp).1
  refine ⟨env, μ, M, _, ED, re.keep k0, rs0, hw, fun v H1 μ1 d M1 k1 rs1 r1 q1 => ?_, hx.keep k0⟩
  have at_ : SqL X.K H1 p [V.ref f1, .ref f2] := .inl (.inl (k1.objs p _ upd_same np (by intro _ z; cases z)))
  have kk := k0.trans k1
  rcases q1 with ⟨rfl, q1⟩ | ⟨rfl, q1⟩
  · cases r1
    refine .inl ⟨p, _, 0, .ref f1, rfl, rfl, at_, rfl, .inl ⟨rfl, ?_⟩⟩
    refine ⟨env, μ1, M1, _, ED, re.keep kk, rs1, q1, fun vs H2 μ2 ds M2 k2 rs2 r2 q2 => ?_, hx.keep kk⟩
    exact ⟨ds, μ2, M2, QD, ED, r2, rs2, q2.1, q2.2, fun v H' μ' d M' k' => hq v H' μ' d M' (kk.trans (k2.trans k')), fun cls a H' μ' y M' k' => hx cls a H' μ' y M' (kk.trans (k2.trans k'))⟩
  · cases r1
    refine .inl ⟨p, _, 1, .ref f2, rfl, rfl, at_, rfl, .inr ⟨rfl, ?_⟩⟩
    refine ⟨env, μ1, M1, _, ED, re.keep kk, rs1, q1, fun vs H2 μ2 ds M2 k2 rs2 r2 q2 => ?_, hx.keep kk⟩
    exact ⟨ds, μ2, M2, QD, ED, r2, rs2, q2.1, q2.2, fun v H' μ' d M' k' => hq v H' μ' d M' (kk.trans (k2.trans k')), fun cls a H' μ' y M' k' => hx cls a H' μ' y M' (kk.trans (k2.trans k'))⟩
end
end DL

namespace DL
open PySem PySem.Spec PyProof.Rows L2

/-! ## widths by sums -/
mutual
/-- a bound of the signs of a thing's text -/
def wd : D → Nat
  | .non => 4
  | .bl _ => 5
  | .int _ => 1921
  | .str x => (reprText x).length
  | .tup l => 4 + wds l
  | .lst l => 4 + wds l
  | _ => 3
def wds : List D → Nat
  | [] => 0
  | d :: l => wd d + 2 + wds l
end
/-- plain data no deeper than n -/
def OkD : Nat → D → Prop
  | 0, _ => False
  | _ + 1, .non => True
  | _ + 1, .bl _ => True
  | _ + 1, .int i => Sm 1920 i
  | _ + 1, .str _ => True
  | n + 1, .tup l => ∀ x ∈ l, OkD n x
  | n + 1, .lst l => ∀ x ∈ l, OkD n x
  | _ + 1, .dct [] [] => True
  | _ + 1, _ => False
theorem Rps.nil (n : Nat) : Rps n 0 [] := ⟨[], rfl, rfl, by simp [PyData.depthAll], by simp [bnds]⟩
theorem Rps.cons {n w u : Nat} {d : D} {l : List D} (h : Rp n w d) (t : Rps n u l) : Rps n (w + 2 + u) (d :: l) := by
  obtain ⟨p, a, b, c, e⟩ := h
  obtain ⟨ps, a', b', c', e'⟩ := t
  refine ⟨p :: ps, by simp [pyRs, a, a'], by simp [PyData.showableAll, b, b'], by simp [PyData.depthAll]; omega, ?_⟩
  simp only [bnds]
  omega
theorem Rp.tupS {n w : Nat} {l : List D} (h : Rps n w l) : Rp (n + 1) (4 + w) (.tup l) := by
  obtain ⟨ps, a, b, c, e⟩ := h
  exact ⟨.tuple ps, by simp [pyR, a], by simpa [PyData.showable] using b, by simp [PyData.depth]; omega, by simp only [bnd]; omega⟩
theorem Rp.lstS {n w : Nat} {l : List D} (h : Rps n w l) : Rp (n + 1) (4 + w) (.lst l) := by
  obtain ⟨ps, a, b, c, e⟩ := h
  exact ⟨.list ps, by simp [pyR, a], by simpa [PyData.showable] using b, by simp [PyData.depth]; omega, by simp only [bnd]; omega⟩
theorem OkD.rps {n : Nat} (ih : ∀ {d : D}, OkD n d → Rp n (wd d) d) : ∀ {l : List D}, (∀ x ∈ l, OkD n x) → Rps n (wds l) l
  | [], _ => Rps.nil n
  | d :: l, h => Rps.cons (ih (h d (by simp))) (OkD.rps ih fun x hx => h x (by simp [hx]))
theorem OkD.rp : ∀ {n : Nat} {d : D}, OkD n d → Rp n (wd d) d
  | 0, _, h => h.elim
  | n + 1, .non, _ => Rp.non.mono (by omega) (Nat.le_refl _)
  | n + 1, .bl b, _ => (Rp.bl b).mono (by omega) (Nat.le_refl _)
  | n + 1, .int i, h => (Rp.int h).mono (by omega) (Nat.le_refl _)
  | n + 1, .str x, _ => (Rp.str x).mono (by omega) (Nat.le_refl _)
  | n + 1, .tup l, h => Rp.tupS (OkD.rps (fun h => OkD.rp h) h)
  | n + 1, .lst l, h => Rp.lstS (OkD.rps (fun h => OkD.rp h) h)
  | n + 1, .dct [] [], _ => Rp.dct0.mono (by omega) (Nat.le_refl _)
  | n + 1, .dct (_ :: _) _, h => h.elim
  | n + 1, .dct [] (_ :: _), h => h.elim
  | n + 1, .fls _, h => h.elim
  | n + 1, .han _, h => h.elim
  | n + 1, .ref _, h => h.elim
  | n + 1, .ty _, h => h.elim
theorem OkD.up : ∀ {n : Nat} {d : D}, OkD n d → OkD (n + 1) d
  | 0, _, h => h.elim
  | n + 1, .non, _ => trivial
  | n + 1, .bl b, _ => trivial
  | n + 1, .int i, h => h
  | n + 1, .str x, _ => trivial
  | n + 1, .tup l, h => fun x hx => OkD.up (h x hx)
  | n + 1, .lst l, h => fun x hx => OkD.up (h x hx)
  | n + 1, .dct [] [], _ => trivial
  | n + 1, .dct (_ :: _) _, h => h.elim
  | n + 1, .dct [] (_ :: _), h => h.elim
  | n + 1, .fls _, h => h.elim
  | n + 1, .han _, h => h.elim
  | n + 1, .ref _, h => h.elim
  | n + 1, .ty _, h => h.elim
theorem OkD.mono {n m : Nat} {d : D} (h : OkD n d) (hm : n ≤ m) : OkD m d := by
  induction hm with
  | refl => exact h
  | step _ ih => exact ih.up
theorem wds_append : ∀ (l k : List D), wds (l ++ k) = wds l + wds k
  | [], k => by rw [List.nil_append]; show _ = 0 + _; omega
  | d :: l, k => by
    rw [List.cons_append]
    show wd d + 2 + wds (l ++ k) = wd d + 2 + wds l + wds k
    rw [wds_append l k]; omega
theorem wds_rev : ∀ l : List D, wds l.reverse = wds l
  | [] => rfl
  | d :: l => by
    rw [List.reverse_cons, wds_append, wds_rev l]
    show wds l + (wd d + 2 + 0) = wd d + 2 + wds l
    omega
theorem wds_split (l : List D) (k : Nat) : wds (l.take k) + wds (l.drop k) = wds l := by
  rw [← wds_append, List.take_append_drop]
theorem wds_cut (l : List D) (lo hi : Option Int) : wds (cutD l lo hi) ≤ wds l := by
  unfold cutD
  have h1 := wds_split l (HT.sIx l.length 0 lo)
  have h2 := wds_split (l.drop (HT.sIx l.length 0 lo)) (HT.sIx l.length l.length hi - HT.sIx l.length 0 lo)
  omega
theorem cut_to (l : List D) (k : Nat) (h : k ≤ l.length) : cutD l none (some (k : Int)) = l.take k := by
  unfold cutD
  rw [HT.sIx_nat, HT.sIx_none, List.drop_zero, Nat.min_eq_left h, Nat.sub_zero]
theorem cut_from (l : List D) (k : Nat) (h : k ≤ l.length) : cutD l (some (k : Int)) none = l.drop k := by
  unfold cutD
  rw [HT.sIx_nat, HT.sIx_none, Nat.min_eq_left h]
  exact List.take_of_length_le (by rw [List.length_drop]; omega)
theorem wds_put {l : List D} {k : Nat} {x y : D} (h : l[k]? = some x) : wds (l.take k ++ [y] ++ l.drop (k + 1)) + wd x = wds l + wd y := by
  obtain ⟨hk, e⟩ := List.getElem?_eq_some_iff.mp h
  have h1 := wds_split l k
  rw [List.drop_eq_getElem_cons hk, e] at h1
  have h1 : wds (l.take k) + (wd x + 2 + wds (l.drop (k + 1))) = wds l := h1
  rw [wds_append, wds_append]
  show wds (l.take k) + (wd y + 2 + 0) + wds (l.drop (k + 1)) + wd x = _
  omega
theorem wd_int_text {i : Int} (h : Sm 1920 i) : wd (.str (Str.ofString (toString i))) ≤ 20000 := by
  show (reprText (Str.ofString (toString i))).length ≤ 20000
  have h1 := StrLaws.reprText_len _ (cps_small (toString i))
  have h2 := int_text_len_1921 (i := i) (h.lg (by decide))
  omega
end DL

namespace DL
open PySem PySem.Spec PyProof.Rows L2

/-! ## a function without a name, of one parameter, handed to a def that asks it of place by place -/
/-- what is to be known of the tables of code objects -/
structure TabF (K : PySem.W.Frag) (mg : Str → Option Value) (base : Heap) : Prop where
  at_ : ∀ r ∈ lamRs K, LamX.TabB base mg r.c r.p
  nd : ∀ r ∈ lamRs K, ∀ u ∈ lamRs K, r.p = u.p → r.q = u.q
/-- its names: the parameter x, captured ones, those of the module -/
structure Lam1 (sc lam : Scope) (x : Str) : Prop where
  kind : lam.kind = .function
  co : lam.isCoroutine = false
  gen : lam.isGenerator = false
  own : ∀ y ∈ lam.names, y.2 ≠ .cell ∧ (y.2 = .local → y.1 = x)
  par : lam.names.lookup x = some .local
  free : ∀ y ∈ lam.names, y.2 = .free → sc.names.lookup y.1 = some .cell ∨ sc.names.lookup y.1 = some .free
def lam1B (sc lam : Scope) (x : Str) : Bool := decide (lam.kind = .function) && (!lam.isCoroutine && (!lam.isGenerator && (decide (lam.names.lookup x = some .local) &&
  lam.names.all fun y => !decide (y.2 = .cell) && ((!decide (y.2 = .local) || decide (y.1 = x)) && (!decide (y.2 = .free) || (decide (sc.names.lookup y.1 = some .cell) || decide (sc.names.lookup y.1 = some .free)))))))
theorem lam1_by {sc lam : Scope} {x : Str} (h : lam1B sc lam x = true) : Lam1 sc lam x := by
  unfold lam1B at h
  simp only [Bool.and_eq_true, Bool.or_eq_true, Bool.not_eq_true', decide_eq_true_eq, decide_eq_false_iff_not, List.all_eq_true] at h
  obtain ⟨a, b, c, d, g⟩ := h
  refine ⟨a, b, c, fun y hy => ⟨(g y hy).1, fun e => ?_⟩, d, fun y hy e => ?_⟩
  · rcases (g y hy).2.1 with z | z
    · exact absurd e z
    · exact z
  · rcases (g y hy).2.2 with z | z | z
    · exact absurd e z
    · exact .inl z
    · exact .inr z
/-- the context of its body -/
def lamC (X : Cx) (A : Around) (outer : List Env) (s : Shared) (H : Hp) (lam : Scope) (f c : Addr) : Cx :=
  { prog := X.prog, w := X.w, K := X.K, mg := X.mg, base := X.base, A := A.deeper (LamX.lamEnv X lam s.heap.objs.size f c), N := X.N, s_0 := s, H_0 := H, env := LamX.lamEnv X lam s.heap.objs.size f c, outer := outer,
    stack := LamX.lamEnv X lam s.heap.objs.size f c :: outer, ex := [], fn := fun _ => false, calm := true, pn := [], xe := fun _ _ => False }
section
variable {X : Cx} {pins : List (Addr × Obj)} {σ : L2.St} {H HZ : Hp} {s s1 : Shared}
theorem lam_in {A : Around} {outer : List Env} {lam : Scope} {f c : Addr} {h1 : Heap} {tk : Nat} {x : Str} {j : Nat} {v : V} {u : Value} (I : Inv X pins σ H s) (L : Lam1 X.env.scope lam x) (nd : X.N.Nodup) (hj : X.N[j]? = some x) (rv : RelV v u)
    (e0 : Env0 X.prog X.w X.K X.mg X.base A outer s1 HZ) (hd : A.handled = none) (un : Un (frs X.stack) [] H HZ s.heap s1.heap) (ns : h1.Ns s1.heap.objs.size fun y => ([(x, u)] : List (Str × Value)).reverse.lookup y)
    (kp : ∀ b o, s1.heap.get? b = some o → h1.get? b = some o) : Inv (lamC X A outer s1 HZ lam f c) [] (σ.set j (some v)) HZ { s1 with heap := h1, toks := tk } := by
  have has_ : ∀ y ∈ lam.names, y.2 = .free → ∃ a, X.env.cells.lookup y.1 = some a := fun y hy e => (L.free y hy e).elim (fun z => I.ok.has _ (.inl z)) fun z => I.ok.has _ (.inr z)
  have sub : ∀ {y a}, (cloFrom X.env.cells lam.names []).lookup y = some a → X.env.cells.lookup y = some a := fun {y a} e => NdefX.clo_cm has_ e
  have sup : ∀ {y}, lam.names.lookup y = some .free → ∃ a, (cloFrom X.env.cells lam.names []).lookup y = some a := fun {y} e => by
    have m := PySem.mem_of_lookup e
    obtain ⟨a, ha⟩ := has_ _ m rfl
    exact ⟨a, NdefX.clo_has has_ m ha⟩
  have cell_ : ∀ {a : Addr} {w : Option Value}, H a = none → s.heap.IsCell a w → h1.IsCell a w := fun {a w} e ⟨o, ho, hw⟩ => by
    obtain ⟨sl, q⟩ := un.any ho e (by simp)
    exact ⟨_, kp _ _ q, hw⟩
  have none_ : ∀ b : Addr, b ∉ (lamC X A outer s1 HZ lam f c).ex := fun b z => (List.not_mem_nil (show b ∈ ([] : List Addr) from z)).elim
  have ok : (lamC X A outer s1 HZ lam f c).Ok := {
    mod := e0.mod, kind := L.kind, glob := rfl, blt := rfl, above := Nat.le_refl _, inj := fun y z a q1 q2 => I.ok.inj y z a (sub q1) (sub q2),
    has := fun y hy => by
      have hy : lam.names.lookup y = some .cell ∨ lam.names.lookup y = some .free := hy
      rcases hy with hy | hy
      · exact absurd rfl (L.own _ (PySem.mem_of_lookup hy)).1
      · exact sup hy
    cab := fun y a z _ => by
      have z : false = true := z
      cases z
    hd := fun _ => hd, frames := Around.frames_deeper e0.frames, stk := .inr ⟨rfl, rfl⟩, exf := fun b z => absurd z (none_ b), bs := e0.bs, bsz := e0.bsz, noex := fun b _ _ => none_ b, exfs := fun b z => absurd z (none_ b), funs := e0.funs, frf := e0.frf }
  refine { ok := ok, os := rfl, bare := e0.bare, base := Un.kept kp, loc := ⟨_, ns, fun i y w q1 q2 q3 => ?_⟩, cell := fun y a q => ?_, free := e0.hok.fresh (Nat.le_refl _), freeC := fun y a q => ?_, pin := fun p hp => absurd (show p ∈ ([] : List (Addr × Obj)) ++ [] from hp) (by simp), hok := e0.hok.kept kp, len := ?_ }
  · have q3 : Vis lam y := q3
    have q1 : X.N[i]? = some y := q1
    rcases q3 with k | k | k
    · have ey : y = x := (L.own _ (PySem.mem_of_lookup k)).2 rfl
      subst ey
      have eij := nodup_at nd q1 hj
      subst eij
      rcases set_get q2 with ⟨_, e, _⟩ | ⟨ne, _⟩
      · have e : w = v := Option.some.inj e
        subst e
        refine ⟨u, rv, .inl ⟨k, ?_⟩⟩
        show List.lookup y [(y, u)] = some u
        rw [List.lookup_cons, beq_self_eq_true]
      · exact absurd rfl ne
    · exact absurd rfl (L.own _ (PySem.mem_of_lookup k)).1
    · have ne : j ≠ i := fun z => by
        subst z
        rw [hj] at q1
        cases q1
        rw [L.par] at k
        cases k
      rcases set_get q2 with ⟨e, _, _⟩ | ⟨_, q2⟩
      · exact absurd e ne
      · obtain ⟨m, _, hl⟩ := I.loc
        have lk := L.free _ (PySem.mem_of_lookup k) rfl
        obtain ⟨u', r, q⟩ := hl i y w q1 q2 (lk.elim (fun z => .inr (.inl z)) fun z => .inr (.inr z))
        obtain ⟨a, ha⟩ := sup k
        refine ⟨u', r, .inr ⟨.inr k, a, ha, ?_⟩⟩
        have ha' := sub ha
        rcases q with ⟨z, _⟩ | ⟨_, a', e, z⟩
        · have z : X.env.scope.names.lookup y = some .local := z
          rcases lk with g | g
          · have g : X.env.scope.names.lookup y = some .cell := g
            rw [g] at z; cases z
          · have g : X.env.scope.names.lookup y = some .free := g
            rw [g] at z; cases z
        · rw [ha'] at e
          cases e
          exact cell_ (I.freeC y _ ha') z
  · obtain ⟨w, z⟩ := I.cell y a (sub q)
    exact ⟨w, cell_ (I.freeC y a (sub q)) z⟩
  · obtain ⟨w, o, ho, _⟩ := I.cell y a (sub q)
    exact un.free a o ho (I.freeC y a (sub q)) (by simp)
  · rw [List.length_set]
    exact I.len
/-- y(z) in the def that got it in its slot i; z in slot l -/
theorem pe_lamact {CXg : CXT} {Eg : XK} {Ng : List Str} {qg : Str} {sg : Scope} {g f c : Addr} {cdg pm ctv : Value} {params : Arguments} {body : Expr} {lam : Scope} {k i l j : Nat} {x a b : Str} {tb : TE} {p1 p2 p3 : Pos}
    (I : Inv X pins σ H s) (L : Lam1 X.env.scope lam x) (nd : X.N.Nodup) (hj : X.N[j]? = some x) (at_ : s.heap.get? f = some (PySem.W.kla_obj "<lambda>" (X.env.qual ++ "<lambda>") params body lam (cloFrom X.env.cells lam.names []) pm c ctv)) (hfn : H f = none) (hfr : f ∉ frs X.stack)
    (bind : ∀ u, bindArgs (PySem.W.kla_fn "<lambda>" (X.env.qual ++ "<lambda>") params body lam (cloFrom X.env.cells lam.names []) pm (.ref c) ctv) ⟨[u], []⟩ = pure [(x, u)])
    (room : Room (k + 1) (X.A.deeper (envOfC qg sg s.heap.objs.size g cdg)))
    (run : ∀ (A : Around) (outer : List Env) (s : Shared) (H : Hp), Room k (A.deeper (LamX.lamEnv X lam s.heap.objs.size f c)) → PE (lamC X A outer s H lam f c) body tb)
    (ha : Ng[i]? = some a) (va : Vis sg a) (hb : Ng[l]? = some b) (vb : Vis sg b) (da : (a == ("__debug__" : Str)) = false) (ca : (a == ("__classdict__" : Str)) = false) (db : (b == ("__debug__" : Str)) = false) (cb : (b == ("__classdict__" : Str)) = false) :
    PE (cxOf CXg X.prog X.w X.K X.mg X.base Ng qg sg g cdg X.A X.stack s H Eg) (.Call (.Name a p1) [.Name b p3] [] p2)
      (fun σZ HZ Q => σZ[i]? = some (some (.ref f)) ∧ HZ c = some (LamX.CodeO c (X.env.qual ++ "<lambda>")) ∧ ∃ v, σZ[l]? = some (some v) ∧ tb (σ.set j (some v)) HZ Q) := by
  constructor
  rintro pinsZ sZ σZ HZ Q IZ ⟨e1, e2, v, e3, told⟩
  refine wpAny_Call_Name_kw (thn ((pe_var (pos := p1) (i := i) ha va da ca).run pinsZ sZ σZ HZ (fun w H1 => w = .ref f ∧ H1 = HZ) IZ ⟨.ref f, e1, rfl, rfl⟩) ?_)
  rintro u0 s1 ⟨w, H1, I1, r1, rfl, rfl⟩
  have eu : u0 = Value.ref f := r1
  subst eu
  have keep_ : ∀ {s2 : Shared} {σ2 : L2.St} {H2 : Hp} {pn2 : List (Addr × Obj)}, Inv (cxOf CXg X.prog X.w X.K X.mg X.base Ng qg sg g cdg X.A X.stack s H Eg) pn2 σ2 H2 s2 → s2.heap.get? f = some (PySem.W.kla_obj "<lambda>" (X.env.qual ++ "<lambda>") params body lam (cloFrom X.env.cells lam.names []) pm c ctv) :=
    fun I2 => I2.base.keep f _ at_ hfn hfr (fun z => nomatch (show f ∈ ([] : List Addr) from z))
  have args : PA (cxOf CXg X.prog X.w X.K X.mg X.base Ng qg sg g cdg X.A X.stack s H Eg) [.Name b p3] (tCons (tVar l) tNil) := pa_cons (pe_var (i := l) hb vb db cb) pa_nil
  refine PySem.W.callWith_F (first := []) ⟨_, _, _, _, keep_ I1⟩ (thn (args.run p2 pinsZ s1 σZ H1 (fun vs H2 => vs = [v] ∧ H2 = H1) I1 ⟨v, e3, rfl, rfl⟩) ?_) (by rfl) (by rfl)
  rintro us s2 ⟨vs, H2, I2, rr, rfl, rfl⟩
  refine ⟨⟨_, _, _, _, keep_ I2⟩, ?_⟩
  cases rr with
  | cons rv rn =>
    rename_i u ut
    cases rn
    show wpAny _ _ (call (.ref f) [u]) _ _ _
    have un : Un (frs X.stack) [] H H2 s.heap s2.heap := I2.base
    obtain ⟨⟨oc, cs, t, hoc, hdc, hvc⟩, _, _⟩ := I2.hok c _ e2
    have main : codeAny (model X.prog X.w) (X.A.deeper (envOfC qg sg s.heap.objs.size g cdg)) (.call (.ref f) ⟨[u], []⟩) (CR C8.CX0 (envOfC qg sg s.heap.objs.size g cdg :: X.stack) X.prog X.w H2 s2 Q fun _ _ _ => False) s2 := by
      refine PySem.W.kla_callFunE room.depth (keep_ I2) rfl L.co L.gen rfl ⟨c, oc, cs, t, rfl, hoc, hdc, hvc⟩ ?_
      rw [bind u]
      refine wpAny_pure (wpAny_newFunctionEnv (fun y hy => (L.own y hy).1) (fun y hy => ?_) (fun h1 ns sb => ⟨I2.nolimit.fresh _ sb, ?_⟩) L.kind)
      · cases List.mem_singleton.mp hy
        exact L.par
      have kp : ∀ b o, s2.heap.get? b = some o → h1.get? b = some o := fun b o e => sb.extBut b o (Nat.ne_of_lt (Heap.lt_size e)) (Heap.get?_push_of_some _ e)
      have J := lam_in (A := X.A.deeper (envOfC qg sg s.heap.objs.size g cdg)) (outer := envOfC qg sg s.heap.objs.size g cdg :: X.stack) (f := f) (c := c) (tk := s2.toks + ([(x, u)] : List (Str × Value)).length) I L nd hj rv I2.env0 room.hd un ns kp
      refine PySem.W.kla_codeExpr (wpAny_mono ((run _ _ s2 H2 (room.deeper _)).run [] _ _ H2 Q J told) ?_ ?_)
      · rintro r s3 ⟨w', H', J', rv', q⟩
        exact ⟨w', H', J'.os, J'.bare, J'.base, J'.hok, rv', q⟩
      · intro e s3 z
        exact (show False from z).elim
    refine wpAny_call (codeAny_mono main ?_)
    intro r s3 h
    match r, h with
    | .error er, h => exact (show False from h).elim
    | .ok (.ret u), h => exact I2.after h
    | .ok .next, h => exact h.elim
    | .ok .brk, h => exact h.elim
    | .ok .cont, h => exact h.elim
end
section
variable {X : Cx} {pins : List (Addr × Obj)} {σ : L2.St} {H : Hp} {s : Shared}
/-- the function is made; all that is tracked stays, tables grow -/
theorem lam_made {T : List (Addr × Str)} {c P : Addr} {params : Arguments} {body : Expr} {lam : Scope} {pos : Pos} {E : Value → Shared → Prop} {Q : Value → Shared → Prop} (I : Inv X pins σ H s) (tb : LamX.TabB X.base X.mg c P) (code : X.env.code = .ref c)
    (mem : (P, X.env.qual ++ "<lambda>") ∈ T) (one : ∀ p ∈ T, p.1 = P → p.2 = X.env.qual ++ "<lambda>") (tabs : LamX.Tabs T H) (dfl : defaultsOf params X.env = ([], [])) (cls : ∀ y ∈ lam.names, y.2 = .free → ∃ a, X.env.cells.lookup y.1 = some a)
    (go : ∀ (f c' : Addr) (pm ctv : Value) (H1 : Hp) (s' : Shared), Inv X pins σ H1 s' → LamX.ExtN H H1 → (∀ a ps, H a = some (.tbl ps) → ∃ ps', H1 a = some (.tbl ps')) → LamX.Tabs T H1 →
      s'.heap.get? f = some (PySem.W.kla_obj "<lambda>" (X.env.qual ++ "<lambda>") params body lam (cloFrom X.env.cells lam.names []) pm c' ctv) → H1 f = none → f ∉ frs X.stack → H1 c' = some (LamX.CodeO c' (X.env.qual ++ "<lambda>")) → Q (.ref f) s') :
    wpAny (model X.prog X.w) X.A (eval (.Lambda params body lam pos) X.env) Q E s := by
  obtain ⟨ps, atP, tri, all⟩ := tabs _ mem
  have bAt : s.heap.BuiltinsAt X.mg P := tb.bm.keeps I.bk
  have hAt : s.heap.get? P = some { cls := .none, data := .fields ps } := I.hok P _ atP
  have away : ∀ f, s.heap.objs.size ≤ f → f ∉ frs X.stack := by
    intro f hf z
    cases List.mem_cons.mp (I.stkSub _ z) with
    | inl e => exact absurd I.lt (by rw [← e]; exact Nat.not_lt.mpr hf)
    | inr e => exact I.nofs hf e
  apply PySem.W.kla_eval dfl
  cases hit : codeAmong pos ps.toList with
  | some cv =>
    obtain ⟨c', rfl, co⟩ := all pos cv hit
    apply PySem.W.kla_makeFunctionHit (mg := X.mg) (c := c) (P := P) (ps := ps) (closure_ok cls) I.ok.glob (I.mod.glob.keeps I.bk) code (tb.code.keeps I.bk) hAt tri hit bAt
    intro ctv h' tk hx hsz
    have I1 : Inv X pins σ H { s with heap := h'.push (PySem.W.kla_obj "<lambda>" (X.env.qual ++ "<lambda>") params body lam (cloFrom X.env.cells lam.names []) ((X.mg "__name__").getD .none) c' ctv), toks := tk } := I.kept fun b o e => Heap.get?_push_of_some _ (hx b o e)
    exact go h'.objs.size c' _ ctv H _ I1 (LamX.ExtN.refl H) (fun _ ps e => ⟨ps, e⟩) tabs (Heap.get?_push_size _ rfl) (I.hok.fresh hsz) (away _ hsz) co
  | none =>
    apply PySem.W.kla_makeFunction (mg := X.mg) (c := c) (P := P) (ps := ps) (closure_ok cls) I.ok.glob (I.mod.glob.keeps I.bk) code (tb.code.keeps I.bk) hAt tri hit tb.gP bAt
    intro c' ctv h' tk hx hge hlt rec_ htab
    obtain ⟨c2, oc, vs, t, e2, hoc, hd, hv⟩ := rec_
    cases e2
    have big : s.heap.objs.size ≤ h'.objs.size := Nat.le_trans hge (Nat.le_of_lt hlt)
    have new_ : H c' = none := I.hok.fresh hge
    have J := LamX.inv_table (t' := tk) (q := X.env.qual ++ "<lambda>") (more := #[rawInt pos.line, rawInt pos.col, .ref c']) (h' := h'.push (PySem.W.kla_obj "<lambda>" (X.env.qual ++ "<lambda>") params body lam (cloFrom X.env.cells lam.names []) ((X.mg "__name__").getD .none) c' ctv)) I atP
      (fun b o ne e => Heap.get?_push_of_some _ (hx b o ne e)) (Heap.get?_push_of_some _ htab) hge ⟨oc, vs, t, Heap.get?_push_of_some _ hoc, hd, hv⟩
    have nePc : P ≠ c' := ne_of_none atP new_
    have at1 : upd (upd H P (.tbl (ps ++ #[rawInt pos.line, rawInt pos.col, .ref c']))) c' (LamX.CodeO c' (X.env.qual ++ "<lambda>")) P = some (.tbl (ps ++ #[rawInt pos.line, rawInt pos.col, .ref c'])) := by rw [upd_ne nePc, upd_same]
    have ext : LamX.ExtN H (upd (upd H P (.tbl (ps ++ #[rawInt pos.line, rawInt pos.col, .ref c']))) c' (LamX.CodeO c' (X.env.qual ++ "<lambda>"))) := by
      intro b o e n
      rw [upd_ne (ne_of_none e new_), upd_ne]
      · exact e
      · rintro rfl
        rw [atP] at e
        exact n ps (Option.some.inj e).symm
    refine go h'.objs.size c' _ ctv _ _ J ext ?_ ?_ (Heap.get?_push_size _ rfl) ?_ (away _ big) upd_same
    · intro a qs e
      by_cases z : a = P
      · subst z
        exact ⟨_, at1⟩
      · exact ⟨qs, by rw [upd_ne (ne_of_none e new_), upd_ne z]; exact e⟩
    · intro p hp
      by_cases z : p.1 = P
      · rw [one p hp z, z]
        refine ⟨_, at1, by rw [Array.toList_append]; exact PySem.TriplesOk_snoc _ _ _ _ tri, fun p' cv hcv => ?_⟩
        rw [Array.toList_append] at hcv
        rcases LamX.among_app (pos := pos) _ tri hcv with y | y
        · obtain ⟨c0, q1, q2⟩ := all p' cv y
          exact ⟨c0, q1, ext _ _ q2 LamX.codeO_ne⟩
        · exact ⟨c', y, upd_same⟩
      · obtain ⟨qs, q1, q2, q3⟩ := tabs p hp
        refine ⟨qs, by rw [upd_ne (ne_of_none q1 new_), upd_ne z]; exact q1, q2, fun p' cv hcv => ?_⟩
        obtain ⟨c0, r1, r2⟩ := q3 p' cv hcv
        exact ⟨c0, r1, ext _ _ r2 LamX.codeO_ne⟩
    · rw [upd_ne (Nat.ne_of_gt hlt), upd_ne (Nat.ne_of_gt (Nat.lt_of_lt_of_le (Heap.lt_size hAt) big))]
      exact I.hok.fresh big
end
/-! ### the first place at which it is so -/
/-- r places left, from k on -/
def fwGo (wb : WE) (j : Nat) (env : En) (Q : D → Me → Prop) : Nat → Nat → Me → Prop
  | 0, _, M => Q .non M
  | r + 1, k, M => wb (env.set j (some (.int (k : Int)))) M (fun d M1 => match d with
    | .bl true => Q (.int (k : Int)) M1
    | .bl false => fwGo wb j env Q r (k + 1) M1
    | _ => False) EX0
def wFW (wx : WE) (j : Nat) (wb : WE) : WE := fun env M Q E => wx env M (fun d M1 => ∃ l, d = .tup l ∧ l.length ≤ sizeLine ∧ fwGo wb j env Q l.length 0 M1) E
section
variable {X : Cx} {W : WX}
theorem de_fw {x : Str} {g : Addr} {fdg : FuncData} {pg : Arguments} {bg : List Stmt} {sg : Scope} {k j jd : Nat} {y : Str} {r : LamR} {params : Arguments} {body e : Expr} {lam : Scope} {we wb : WE} {p lpos pos p1 p2 p3 p4 p5 p6 p7 p8 p9 p10 p11 p12 p13 p14 p15 : Pos}
    (F : FunD X.K x x pg bg sg [] [] g fdg) (hm : X.mg x = some (.ref g)) (hg : Gl X x) (hb : Binds X.K fdg ["things", "is_bad"] []) (Sg : FnScope ["things", "is_bad", "k"] ["things", "is_bad"] sg)
    (ebg : bg = [.For (.Name "k" p1) (.Call (.Name "range" p2) [.Call (.Name "len" p3) [.Name "things" p4] [] p5] [] p6) [.If (.Call (.Name "is_bad" p7) [.Name "k" p8] [] p9) [.Return (some (.Name "k" p10)) p11] [] p12] [] p13, .Return (some (.Constant .none jd p14)) p15])
    (vk : Loc sg "k") (v0 : Vis sg "things") (v1 : Vis sg "is_bad") (v2 : Vis sg "k") (gr : sg.names.lookup ("range" : Str) = some .globalImplicit) (gl : sg.names.lookup ("len" : Str) = some .globalImplicit) (mr : X.mg "range" = none) (ml : X.mg "len" = none)
    (TF : TabF X.K X.mg X.base) (hr_ : r ∈ lamRs X.K) (code : X.env.code = .ref r.c) (nm : r.q = X.env.qual ++ "<lambda>") (L : Lam1 X.env.scope lam y) (nd : X.N.Nodup) (hj : X.N[j]? = some y) (dfl : defaultsOf params X.env = ([], []))
    (bind : ∀ (cl : List (Str × Addr)) (pm cv ctv u : Value), bindArgs (PySem.W.kla_fn "<lambda>" (X.env.qual ++ "<lambda>") params body lam cl pm cv ctv) ⟨[u], []⟩ = pure [(y, u)]) (room : Room (k + 2) X.A)
    (he : DE X W e we) (run : ∀ (A : Around) (outer : List Env) (s : Shared) (H : Hp) (f c : Addr), Room k (A.deeper (LamX.lamEnv X lam s.heap.objs.size f c)) → DE (lamC X A outer s H lam f c) W0 body wb)
    (hdb : (x == ("__debug__" : Str)) = false) (hs : starEach [e, .Lambda params body lam lpos] X.env = (false, eval e X.env) :: (false, eval (.Lambda params body lam lpos) X.env) :: starEach [] X.env := by rfl) :
    DE X W (.Call (.Name x p) [e, .Lambda params body lam lpos] [] pos) (wFW we j wb) := by
  refine ⟨⟨fun pins s σ H Q I ⟨env, μ, M, QD, ED, re, rs, hw, hq, hx⟩ => ?_⟩⟩
  refine wpAny_Call_Name_kw (ld_glob I hg hm ?_ hdb)
  refine PySem.W.callWith_K (h₀ := X.base) I.ok.mod.kin F.kp ?_ (by rw [hs]; rfl) (by rfl)
  rw [hs]
  show wpAny _ _ (spliced ((false, eval e X.env) :: (false, eval (.Lambda params body lam lpos) X.env) :: backTo pos (starEach [] X.env))) _ _ s
  refine Calls.spliced_cons (thn (he.pe.run pins s σ H (fun v H1 => ∃ μ1 d M1, Keep H μ H1 μ1 ∧ RelS X.K H1 μ1 M1 ∧ Rep X.K H1 μ1 v d ∧ ∃ l, d = .tup l ∧ l.length ≤ sizeLine ∧ fwGo wb j env QD l.length 0 M1) I ⟨env, μ, M, _, ED, re, rs, hw, fun v H1 μ1 d M1 k1 rs1 r1 q1 => ⟨μ1, d, M1, k1, rs1, r1, q1⟩, hx⟩) ?_)
  rintro u s1 ⟨v, H1, I1, rv, μ1, d, M1, k1, rs1, r1, l, rfl, hl, told⟩
  have memT : (r.p, X.env.qual ++ "<lambda>") ∈ lamT X.K := by
    rw [← nm]
    exact List.mem_map.mpr ⟨r, hr_, rfl⟩
  have oneT : ∀ q ∈ lamT X.K, q.1 = r.p → q.2 = X.env.qual ++ "<lambda>" := by
    intro q hq' e
    obtain ⟨r', m', rfl⟩ := List.mem_map.mp hq'
    rw [← nm]
    exact TF.nd r' m' r hr_ e
  have cls : ∀ z ∈ lam.names, z.2 = .free → ∃ a, X.env.cells.lookup z.1 = some a := fun z hz e2 => (L.free z hz e2).elim (fun q => I1.ok.has _ (.inl q)) fun q => I1.ok.has _ (.inr q)
  refine Calls.spliced_cons (lam_made I1 (TF.at_ r hr_) code memT oneT rs1.tb dfl cls fun f c pm ctv H2 s2 I2 ext grow tabs2 at_ hfn hfr co => ?_)
  refine Calls.spliced_nil ⟨I2.kIn, ?_⟩
  have k2 : Keep H1 μ1 H2 μ1 := ⟨rs1.src, fun a o e1 _ ht => ext a o e1 ht, ⟨[], by simp⟩, rfl, fun a ha => .inl ha, grow, fun a ha => by rw [rs1.ext_at ext ha]⟩
  have ne_ : ∀ (vs : List V) (ps : Array Value), HO.lst vs ≠ .tbl ps := fun vs ps z => by cases z
  have rs2 : RelS X.K H2 μ1 M1 := ⟨rs1.len, rs1.nd, fun h a ds e1 e2 => by
      exact (rs1.at2 h a ds e1 e2).to (rs1.ext_at ext (List.mem_of_getElem? e1)) fun _ _ z => z.keep k2, fun a ha => by
      obtain ⟨q1, vs, q2⟩ := rs1.ft a ha
      exact ⟨q1, vs, ext _ _ q2 (ne_ vs)⟩, tabs2⟩
  have k02 := k1.trans k2
  obtain ⟨a, vs, ev, sq, rr⟩ := (r1.keep k2).tup_
  subst ev
  have main : codeAny (model X.prog X.w) X.A (.call (.ref g) ⟨[u, .ref f], []⟩) (CR (L2N.CX X.prog X.w) X.stack X.prog X.w H2 s2 Q fun _ _ _ => False) s2 := by
    obtain ⟨oc, od, dV, kV, doc, pmg, an, cdv, ct, osl, rfl, lk, hcd, _, _⟩ := F.ex
    refine LamX.run_ofS (N := ["things", "is_bad", "k"]) (ps := ["things", "is_bad"]) (us := [u, .ref f]) (vs := [.ref a, .ref f]) lk hcd Sg room I2.env0 (hb s2 [u, .ref f] I2.kIn rfl) (.cons rv (.cons rfl .nil)) rfl fun room' => ?_
    have act := pe_lamact (tb := tD X.K W0 wb) (CXg := L2N.CX X.prog X.w) (Eg := fun _ _ _ => False) (Ng := ["things", "is_bad", "k"]) (qg := x) (sg := sg) (g := g) (cdg := cdv) (a := "is_bad") (b := "k") (i := 1) (l := 2) (p1 := p7) (p2 := p9) (p3 := p8) I2 L nd hj at_ hfn hfr (fun u => bind _ _ _ _ u) room'
      (fun A outer s H rm => (run A outer s H f c rm).pe) rfl v1 rfl v2 (by decide) (by decide) (by decide) (by decide)
    subst ebg
    refine ⟨_, pss_cons (ps_for pso rfl (pi_range1 (X := cxOf (L2N.CX X.prog X.w) X.prog X.w X.K X.mg X.base ["things", "is_bad", "k"] x sg g cdv X.A X.stack s2 H2 fun _ _ _ => False) gr mr (pa_cons (pe_callB call_len_seq gl ml PySem.boot_len (pa_cons (pe_var (i := 0) rfl v0) pa_nil)) pa_nil))
      (pg_name (i := 2) Sg.nd rfl vk) (pss_one (ps_if (pt_val act) (pss_one (ps_ret (pe_var (i := 2) rfl v2))) pss_nil))) (pss_one (ps_ret pe_non)), ?_⟩
    have hl2 : (l.length : Int) < 2 ^ 62 := by
      have : sizeLine < 2 ^ 62 := by decide
      omega
    have ell := rr.length
    refine ⟨.ref a, rfl, a, vs, rfl, .inr sq, (vs.length : Int), rfl, by omega, by rw [ell]; exact hl2, ?_⟩
    refine for_range (fun i σ' H' => ∃ (μ' : Mu) (M' : Me) (z : Option V), σ' = [some (.ref a), some (.ref f), z] ∧ Keep H2 μ1 H' μ' ∧ RelS X.K H' μ' M' ∧ fwGo wb j env QD (l.length - i) i M') ⟨μ1, M1, none, rfl, rs2.refl, rs2, told⟩ ?_ ?_
    · rintro i σ' H' hi ⟨μ', M', z, rfl, k3, rs3, told⟩
      rw [Int.toNat_natCast, ell] at hi
      rw [show l.length - i = (l.length - (i + 1)) + 1 by omega] at told
      have ez : (0 : Int) + (i : Int) = (i : Int) := by omega
      rw [ez]
      refine ⟨rfl, k3.other co (fun xs z => by unfold LamX.CodeO at z; cases z) (fun ps z => by unfold LamX.CodeO at z; cases z), .int i, rfl, ?_⟩
      refine ⟨env.set j (some (.int (i : Int))), μ', M', _, EX0, ((re.keep k02).keep k3).set j (.int _), rs3, told, fun w H4 μ4 d4 M4 k4 rs4 r4 q4 => ?_, xe0⟩
      cases d4 with
      | bl b =>
        cases r4
        refine ⟨b, rfl, ?_⟩
        cases b with
        | true => exact ⟨.int i, rfl, hq _ H4 μ4 (.int i) M4 ((k02.trans k3).trans k4) rs4 (.int _) q4⟩
        | false => exact ⟨μ4, M4, some (.int i), rfl, k3.trans k4, rs4, q4⟩
      | _ => exact q4.elim
    · rintro σ' H' ⟨μ', M', z, rfl, k3, rs3, told⟩
      rw [Int.toNat_natCast, ell, Nat.sub_self] at told
      exact hq _ H' μ' .non M' (k02.trans k3) rs3 .non told
  refine wpAny_call (codeAny_mono main ?_)
  intro r s3 h
  match r, h with
  | .error er, ⟨_, _, _, _, _, _, _, _, _, _, _, _, z⟩ => exact z.elim
  | .ok (.ret u), h => exact I2.after h
  | .ok .next, h => exact h.elim
  | .ok .brk, h => exact h.elim
  | .ok .cont, h => exact h.elim
end
end DL

namespace DL
open PySem PySem.Spec PyProof.Rows L2

/-! ## a def that makes such functions -/
theorem fnD_ofC {P : Program} {w : World} {K : PySem.W.Frag} {mg : Str → Option Value} {base : Heap} {x : Str} {params : Arguments} {body : List Stmt} {scope : Scope} {fd : FuncData} {N ps : List Str} {k n : Nat} {wf : WF} {wb : WS}
    (F : FunD K x x params body scope [] [] (He.fAd K (x, none)) fd) (S : FnScope N ps scope) (hn : ps.length = n) (hx : x ∈ makers) (hc : PySem.W.codeHdIn K (He.cT K (x, none)).1 (He.cT K (x, none)).2 = true)
    (hbody : ∀ (r : LamR), r ∈ lamRs K → r.q = x ++ ".<locals>.<lambda>" → ∀ (A : Around) (outer : List Env) (s : Shared) (H : Hp) (E : XK), Room k (A.deeper (envOfC x scope s.heap.objs.size (He.fAd K (x, none)) (.ref r.c))) →
      DB (cxOf (L2N.CX P w) P w K mg base N x scope (He.fAd K (x, none)) (.ref r.c) A outer s H E) (WXo E) body wb)
    (spec : ∀ (ds : List D) (M : Me) (QD : D → Me → Prop) (ED : EX → Me → Prop), ds.length = n → wf ds M QD ED → wb (env0 N.length ds) M (retE M QD ED)) :
    FnOk P w K mg base (L2N.CX P w) (k + 1) (He.fAd K (x, none)) fd ps (spD K n wf) := by
  obtain ⟨oc, od, dV, kV, doc, pm, an, cdv, ct, osl, rfl, lk, hcd, _, _⟩ := F.ex
  obtain ⟨c, rfl⟩ := He.codeIn_ref hcd
  have ec : He.codeOf K (x, none) = c := He.codeOf_eq lk rfl
  have hr : (⟨(He.cT K (x, none)).1, (He.cT K (x, none)).2, x ++ ".<locals>.<lambda>"⟩ : LamR) ∈ lamRs K := List.mem_filterMap.mpr ⟨x, hx, if_pos hc⟩
  subst ec
  refine fn_of lk hcd S (fun vs H Q E ⟨ds, μ, M, QD, ED, r, rs, hl, _⟩ => by rw [r.length, hl, hn]) (fun A outer s H vs Q E hrm ⟨ds, μ, M, QD, ED, r, rs, hl, h, hq, hx⟩ => ⟨_, (hbody _ hr rfl A outer s H E hrm).pss, ?_⟩)
  refine ⟨env0 N.length ds, μ, M, _, rel_start r, rs, spec ds M QD ED hl h, ?_⟩
  exact {
    nx := fun σ H' μ' env M' k _ rs' q => ret_ok rs hq k rs' .non q
    rt := fun v H' μ' d M' k rs' r' q => ret_ok rs hq k rs' r' q
    bk := fun _ _ _ _ _ _ _ _ q => q.elim
    ct := fun _ _ _ _ _ _ _ _ q => q.elim
    ex := fun cls a σ H' μ' y env M' k _ rs' rx ⟨g, ho, q⟩ => by
      obtain ⟨kc, rc, _, _⟩ := rs.cut k rs' g
      refine hx cls a H' _ y _ kc rc ⟨rx.1, rx.2.1, fun m d e => ?_⟩ q
      obtain ⟨dd, v, h1, h2, h3⟩ := rx.2.2 m d e
      exact ⟨dd, v, h1, h2, h3.cut (ho m d e)⟩ }
theorem fnOk_G {P : Program} {w : World} {K : PySem.W.Frag} {mg : Str → Option Value} {base : Heap} {CX : CXT} {k : Nat} {f : Addr} {fd : FuncData} {ps : List Str} {sp : Sp} (o : FnOk P w K mg base CX k f fd ps sp) : FnG P w K mg base CX k f fd ps sp :=
  ⟨o.len, fun A outer s H ar us vs Q E room _ e0 bnd vals told => o.run A outer s H ar us vs Q E room e0 bnd vals told⟩
/-! ## the hook: tables empty, not told by K -/
def tabB (K : PySem.W.Frag) (g : Addr → Option Obj) : Bool := (lamRs K).all fun r => PySem.W.codeHdIn K r.c r.p && ((match g r.p with
  | some o => He.emptyTab o
  | none => false) && (lamRs K).all fun u => !decide (r.p = u.p) || decide (r.q = u.q))
def lamOk (fs : List Str) (K : PySem.W.Frag) : Bool := fs.all fun x => PySem.W.codeHdIn K (He.cT K (x, none)).1 (He.cT K (x, none)).2
theorem lamOk_at {fs : List Str} {K : PySem.W.Frag} (h : lamOk fs K = true) {x : Str} (hx : x ∈ fs) : PySem.W.codeHdIn K (He.cT K (x, none)).1 (He.cT K (x, none)).2 = true := List.all_eq_true.mp h x hx
structure SaysT (ok : PySem.W.Frag → Bool) (fa : List He.Fa) (fn : List He.DefD) (ts : List He.Tab) (w : World) (h : Heap) (K : PySem.W.Frag) : Prop where
  inH : K.In h
  ok_ : ok K = true
  says : He.SaysD fa fn K
  cd : ∀ r ∈ lamRs K, PySem.W.codeHdIn K r.c r.p = true
  out : ∀ r ∈ lamRs K, K.lookup r.p = none
  emp : ∀ r ∈ lamRs K, h.get? r.p = some { cls := .none, data := .fields #[] }
  nd : ∀ r ∈ lamRs K, ∀ u ∈ lamRs K, r.p = u.p → r.q = u.q
  tbs : ∀ (i : Nat) (t : He.Tab), ts[i]? = some t → ∃ es n, KDict K w (t.1 K) es n
abbrev AlT : Type := ((Bool × Bool) × He.AlD) × List (Option (List (Option (Str × Int))))
def obsK (ok : PySem.W.Frag → Bool) (fa : List He.Fa) (fn : List He.DefD) (ts : List He.Tab) (g : Addr → Option Obj) (K : PySem.W.Frag) : AlT :=
  (((ok K, tabB K g), He.obsD fa fn K), ts.map fun t => He.dicW K (t.1 K))
def obsT (n : Nat) (ok : PySem.W.Frag → Bool) (fa : List He.Fa) (fn : List He.DefD) (ts : List He.Tab) (g : Addr → Option Obj) : AlT :=
  obsK ok fa fn ts g (He.frT g (sysModules :: He.asD g n))
def valT (fn : List He.DefD) (ts : List He.Tab) (w : World) : AlT := (((true, true), He.valD fn), ts.map fun t => some (He.keysIn w.params t.2))
theorem saysT_of {n : Nat} {ok : PySem.W.Frag → Bool} {fa : List He.Fa} {fn : List He.DefD} {ts : List He.Tab} {w : World} {h : Heap} (e : obsT n ok fa fn ts h.get? = valT fn ts w) : SaysT ok fa fn ts w h (He.frT h.get? (sysModules :: He.asD h.get? n)) := by
  have e1 : ok (He.frT h.get? (sysModules :: He.asD h.get? n)) = true := congrArg (fun z : AlT => z.1.1.1) e
  have e2 : tabB (He.frT h.get? (sysModules :: He.asD h.get? n)) h.get? = true := congrArg (fun z : AlT => z.1.1.2) e
  have e3 := congrArg (fun z : AlT => z.1.2) e
  have e4 : (ts.map fun t => He.dicW (He.frT h.get? (sysModules :: He.asD h.get? n)) (t.1 (He.frT h.get? (sysModules :: He.asD h.get? n)))) = ts.map fun t => some (He.keysIn w.params t.2) := congrArg (fun z : AlT => z.2) e
  have key := List.all_eq_true.mp e2
  have emp_ : ∀ r ∈ lamRs (He.frT h.get? (sysModules :: He.asD h.get? n)), ∃ o, h.get? r.p = some o ∧ He.emptyTab o = true := fun r hr => by
    have k2 := (He.ba (He.ba (key r hr)).2).1
    cases q : h.get? r.p with
    | none => rw [q] at k2; cases k2
    | some o => rw [q] at k2; exact ⟨o, rfl, k2⟩
  exact ⟨He.frT_in, e1, e3, fun r hr => (He.ba (key r hr)).1, fun r hr => by
    obtain ⟨o, q, z⟩ := emp_ r hr
    exact He.frT_none q z, fun r hr => by
    obtain ⟨o, q, z⟩ := emp_ r hr
    rw [q, He.emptyTab_eq z], fun r hr u hu ep => by
    have k3 := List.all_eq_true.mp (He.ba (He.ba (key r hr)).2).2 u hu
    simpa [ep] using k3, fun i t ht => by
    have e5 := congrArg (fun l : List (Option (List (Option (Str × Int)))) => l[i]?) e4
    have e5 : (ts.map fun t => He.dicW (He.frT h.get? (sysModules :: He.asD h.get? n)) (t.1 (He.frT h.get? (sysModules :: He.asD h.get? n))))[i]? = (ts.map fun t => some (He.keysIn w.params t.2))[i]? := e5
    rw [List.getElem?_map, List.getElem?_map, ht] at e5
    exact He.dicW_ok (Option.some.inj e5)⟩
def hookT (n : Nat) (ok : PySem.W.Frag → Bool) (fa : List He.Fa) (fn : List He.DefD) (ts : List He.Tab) : PySem.W.Hook where
  α := AlT
  obs := fun s => obsT n ok fa fn ts s.heap.get?
  val := fun w => valT fn ts w
  says := fun w h => ∃ K : PySem.W.Frag, SaysT ok fa fn ts w h K
  of := fun _ _ e => ⟨_, saysT_of e⟩
  keeps := fun _ _ _ ⟨K, c⟩ k => ⟨K, PySem.W.Frag.In.keeps c.inH k, c.ok_, c.says, c.cd, c.out, fun r hr => k _ _ (c.emp r hr), c.nd, c.tbs⟩
theorem obsT_eq {n : Nat} {ok : PySem.W.Frag → Bool} {fa : List He.Fa} {fn : List He.DefD} {ts : List He.Tab} {g : Addr → Option Obj} {s : Shared} (h : ∀ a, g a = s.heap.get? a) : obsT n ok fa fn ts g = (hookT n ok fa fn ts).obs s := by
  have e : g = s.heap.get? := funext h
  subst e
  rfl
/-! ## the end of a row, with tables -/
theorem law_callT {P : Program} {w : World} {K : PySem.W.Frag} {mg mb : Str → Option Value} {CX : CXT} {k : Nat} {fa a : Addr} {fd : FuncData} {x : Str} {sp : Sp} {s1 : Shared} {vs : List Value} {ns : List Int} {ok : PySem.W.Frag → Bool} {fas : List He.Fa} {fns : List He.DefD} {ts : List He.Tab}
    (Y : SaysT ok fas fns ts w s1.heap K) (nsM : s1.heap.Ns mainGlobals mg) (nsB : s1.heap.Ns builtinsNs mb) (bBoot : ∀ x : Str, x ≠ "__name__" → mb x = bootBuiltins x) (lim : s1.heap.NoLimit) (gens : s1.gens = #[])
    (bmn : ∃ (bm : Addr) (ob : Obj), mg "__builtins__" = some (.ref bm) ∧ bm ≠ builtinsNs ∧ s1.heap.get? bm = some ob ∧ ob.cls = .type "module" ∧ ob.dict = some builtinsNs ∧ ob.data = .plain)
    (arg : s1.heap.get? a = some { cls := .type "list", data := .seq vs.toArray }) (iv : IntsAre vs ns) (few : ns.length ≤ sizeLine) (room : Room k callerA)
    (F : ∀ base : Heap, K.In base → base.Ns mainGlobals mg → TabF K mg base → FnG P w K mg base CX k fa fd [x] sp) (bind : ∀ (s : Shared) (u : Value), BindsTo s fd ⟨[u], []⟩ [(x, u)])
    (told : ∀ H : Hp, OnlyT H → LamX.Tabs (lamT K) H → SqL K H a (ns.map V.int) → sp [.ref a] H (fun v _ => v = .bl true) fun _ _ _ => False)
    (noX : ∀ H e s', CX [] H s1 (fun _ _ _ => False) e s' → False) :
    codeAny (model P w) callerA (.call (.ref fa) ⟨[.ref a], []⟩) (fun r s' => r = .ok (.ret (.bool true)) ∧ OldK s1.heap s'.heap ∧ s'.os = s1.os ∧ AllBare s'.gens) s1 := by
  have vals := vals_ints iv
  have len := iv.length
  have inK := Y.inH
  have naT : ∀ r ∈ lamRs K, r.p ≠ a := fun r hr z => by
    have q := Y.emp r hr
    rw [z, arg] at q
    have q := congrArg Obj.data (Option.some.inj q)
    cases q
  -- the script and the tables alone are told of
  obtain ⟨H, alone, seq, tabs0⟩ : ∃ H : Hp, (∀ b u, H b = some u → (b = a ∧ K.lookup a = none ∧ u = .frz { cls := .type "list", data := .seq vs.toArray } (.lst (ns.map V.int))) ∨ ((∃ r ∈ lamRs K, r.p = b) ∧ u = .tbl #[])) ∧ SqL K H a (ns.map V.int) ∧ ∀ r ∈ lamRs K, H r.p = some (.tbl #[]) := by
    have tab_ : ∀ b : Addr, Decidable (∃ r ∈ lamRs K, r.p = b) := fun b => Classical.propDecidable _
    cases lk : K.lookup a with
    | none =>
      refine ⟨fun b => if b = a then some (.frz { cls := .type "list", data := .seq vs.toArray } (.lst (ns.map V.int))) else @ite _ (∃ r ∈ lamRs K, r.p = b) (tab_ b) (some (.tbl #[])) none, fun b u e => ?_, .inl (.inr ⟨{ cls := .type "list", data := .seq vs.toArray }, if_pos rfl⟩), fun r hr => ?_⟩
      · by_cases hb : b = a
        · have e := (if_pos hb).symm.trans e
          cases e
          exact .inl ⟨hb, rfl, rfl⟩
        · have e := (if_neg hb).symm.trans e
          by_cases ht : ∃ r ∈ lamRs K, r.p = b
          · have e := (if_pos ht).symm.trans e
            cases e
            exact .inr ⟨ht, rfl⟩
          · have e := (if_neg ht).symm.trans e
            cases e
      · exact (if_neg (naT r hr)).trans (if_pos ⟨r, hr, rfl⟩)
    | some o =>
      have e := inK a o lk
      rw [arg] at e
      cases e
      refine ⟨fun b => @ite _ (∃ r ∈ lamRs K, r.p = b) (tab_ b) (some (.tbl #[])) none, fun b u e => ?_, .inr ⟨_, vs.toArray, _, lk, rfl, rfl, rfl, ?_, ?_⟩, fun r hr => if_pos ⟨r, hr, rfl⟩⟩
      · by_cases ht : ∃ r ∈ lamRs K, r.p = b
        · have e := (if_pos ht).symm.trans e
          cases e
          exact .inr ⟨ht, rfl⟩
        · have e := (if_neg ht).symm.trans e
          cases e
      · rw [List.size_toArray, len]; exact few
      · simpa using vals
  have only : OnlyT H := fun b => by
    cases e : H b with
    | none => exact .inl rfl
    | some u =>
      rcases alone b u e with ⟨_, _, z⟩ | ⟨_, z⟩
      · exact .inr (.inr ⟨_, _, by rw [z]⟩)
      · exact .inr (.inl ⟨_, by rw [z]⟩)
  have tabs : LamX.Tabs (lamT K) H := fun p hp => by
    obtain ⟨r, hr, rfl⟩ := List.mem_map.mp hp
    exact LamX.TabS.nil (tabs0 r hr)
  have hok : HOk P w H s1.heap := fun b u e => by
    rcases alone b u e with ⟨rfl, _, rfl⟩ | ⟨⟨r, hr, rfl⟩, rfl⟩
    · exact ⟨arg, by rw [List.length_map]; exact few, vs, _, vals, arg⟩
    · exact Y.emp r hr
  have free : ∀ {b : Addr} {o : Obj}, s1.heap.get? b = some o → (∀ ys n, o.data ≠ .seq ys n) → o.data ≠ .fields #[] → H b = none := fun {b o} e n1 n2 => by
    cases q : H b with
    | none => rfl
    | some u =>
      rcases alone b u q with ⟨rfl, _, _⟩ | ⟨⟨r, hr, rfl⟩, _⟩
      · rw [arg] at e
        cases e
        exact absurd rfl (n1 _ _)
      · rw [Y.emp r hr] at e
        cases e
        exact absurd rfl n2
  have dict_ : ∀ {b : Addr} {o : Obj} {es : Array DictEntry} {ep : Nat}, s1.heap.get? b = some o → o.data = .dict es ep → H b = none := fun e d => free e (fun ys n z => by rw [d] at z; cases z) (fun z => by rw [d] at z; cases z)
  have nsIn : ∀ {b : Addr} {m : Str → Option Value}, s1.heap.Ns b m → (hidT s1.heap H).Ns b m := fun {b m} ⟨o, es, ep, e, d, r⟩ => ⟨o, es, ep, hidT_get e (dict_ e d), d, r⟩
  have inB : K.In (hidT s1.heap H) := fun b o e => hidT_get (inK b o e) (by
    cases q : H b with
    | none => rfl
    | some u =>
      rcases alone b u q with ⟨rfl, z, _⟩ | ⟨⟨r, hr, rfl⟩, _⟩
      · rw [z] at e; cases e
      · rw [Y.out r hr] at e; cases e)
  have md : Mod K mg (hidT s1.heap H) := by
    obtain ⟨mc, l1, l2⟩ := lim
    exact ⟨inB, nsIn nsM, ⟨mb, nsIn nsB, bBoot⟩, mc, nsIn l1, l2⟩
  have tf : TabF K mg (hidT s1.heap H) := by
    refine ⟨fun r hr => ⟨PySem.W.codeHd_of_K inB (Y.cd r hr), ?_, fun z => ?_⟩, Y.nd⟩
    · obtain ⟨bm, ob, b1, b2, b3, b4, b5, b6⟩ := bmn
      refine ⟨bm, ob, b1, b2, fun q => ?_, fun q => ?_, hidT_get b3 (free b3 (fun ys n z => by rw [b6] at z; cases z) (fun z => by rw [b6] at z; cases z)), b4, b5, b6⟩
      · obtain ⟨o, es, ep, e, hd, _⟩ := nsM
        rw [q, e] at b3
        cases b3
        rw [hd] at b6
        cases b6
      · rw [q, Y.emp r hr] at b3
        cases b3
        cases b6
    · obtain ⟨o, es, ep, e, hd, _⟩ := nsM
      rw [z, Y.emp r hr] at e
      cases e
      cases hd
  have e0 : Env0 P w K mg (hidT s1.heap H) callerA [] s1 H := {
    frames := rfl, mod := md, bs := fun b o e => of_hidT e, bsz := Nat.le_of_eq (hidT_size _ _), funs := trivial, frf := fun b hb => (nomatch hb), hok := hok, bare := .of_eq gens }
  have run := (F _ inB (nsIn nsM) tf).go callerA [] s1 H ⟨[.ref a], []⟩ [.ref a] [.ref a] _ _ room rfl e0 (bind s1 (.ref a)) (.cons rfl .nil) (told H only tabs seq)
  refine codeAny_mono run ?_
  intro r s2 h
  match r, h with
  | .error e, h => exact (noX H e s2 h).elim
  | .ok .next, h => exact h.elim
  | .ok .brk, h => exact h.elim
  | .ok .cont, h => exact h.elim
  | .ok (.ret u), ⟨v, H', os, bare, un, hok', rv, q⟩ =>
    have q : v = .bl true := q
    subst q
    have eu : u = Value.bool true := rv
    subst eu
    have same : ∀ b o, (∀ r ∈ lamRs K, r.p ≠ b) → s1.heap.get? b = some o → s2.heap.get? b = some o := fun b o nt e => by
      cases q : H b with
      | none => exact un.keep b o e q (fun z => nomatch z) (fun z => nomatch z)
      | some u =>
        rcases alone b u q with ⟨rfl, _, rfl⟩ | ⟨⟨r, hr, rfl⟩, _⟩
        · have e1 := (hok' _ _ (un.frzs _ _ _ q)).1
          rw [arg] at e
          cases e
          exact e1
        · exact absurd rfl (nt r hr)
    have grown : ∀ r ∈ lamRs K, ∃ more : Array Value, s2.heap.get? r.p = some { cls := .none, data := .fields more } := fun r hr => by
      obtain ⟨more, z⟩ := un.tbls r.p #[] (tabs0 r hr)
      exact ⟨_, hok' r.p _ z⟩
    refine ⟨rfl, ⟨fun b o e => ?_, fun b o e => ?_⟩, os, bare⟩
    · by_cases ht : ∃ r ∈ lamRs K, r.p = b
      · obtain ⟨r, hr, rfl⟩ := ht
        obtain ⟨more, hm⟩ := grown r hr
        rw [Y.emp r hr] at e
        cases e
        exact .inr (.inl ⟨((PySem.W.codeHd_of_K inK (Y.cd r hr)).tab (Y.emp r hr)).isCodeTable, rfl, #[], more, rfl, by rw [Array.empty_append]; exact hm⟩)
      · exact .inl (same b o (fun r hr z => ht ⟨r, hr, z⟩) e)
    · by_cases ht : ∃ r ∈ lamRs K, r.p = b
      · obtain ⟨r, hr, rfl⟩ := ht
        obtain ⟨more, hm⟩ := grown r hr
        exact ⟨_, hm⟩
      · exact ⟨o, same b o (fun r hr z => ht ⟨r, hr, z⟩) e⟩
theorem walk_ofT {l : PySem.W.OpenLaw} {n k m : Nat} {q : Program} {lo : List Str} {XP : (Str → Option Value) → Heap → Prop} {ok : PySem.W.Frag → Bool} {fas : List He.Fa} {fns : List He.DefD} {ts : List He.Tab} {d : DefRec} {CX : World → CXT} {x : Str} (h1 : l.most = some n) (h2 : n ≤ sizeLine) (h3 : d.params.defaults = []) (h4 : Room k callerA)
    (F : ∀ (w : World) (mg : Str → Option Value) (f : Addr) (h : Heap) (K : PySem.W.Frag), SaysT ok fas fns ts w h K → h.Ns mainGlobals mg → mg d.name = some (.ref f) → ∃ (fd : FuncData) (sp : Sp), (∀ (s : Shared) (u : Value), BindsTo s fd ⟨[u], []⟩ [(x, u)]) ∧
        (∀ (H : Hp) (a : Addr) (ns : List Int), ns.length ≤ n → OnlyT H → LamX.Tabs (lamT K) H → SqL K H a (ns.map V.int) → sp [.ref a] H (fun v _ => v = .bl true) fun _ _ _ => False) ∧ ∀ base : Heap, K.In base → base.Ns mainGlobals mg → TabF K mg base → FnG l.prog w K mg base (CX w) k f fd [x] sp)
    (h5 : ∀ (w : World) (H : Hp) (s : Shared) (e : Value) (s' : Shared), CX w [] H s (fun _ _ _ => False) e s' → False) : PySem.W.WalkO q lo XP (hookT m ok fas fns ts).says l.row.toRowW d [] (fun f vs => PySem.call f vs) := by
  refine Att.attach_callB h1 h3 fun w t0 t1 mg mb f ob pm cd doc a vs ns G Y ho hd hcd hm hj hi hlen hbits hg => ?_
  obtain ⟨K, Y⟩ := Y
  obtain ⟨fd, sp, q1, q2, q3⟩ := F w mg f _ K Y G.T.g hm
  exact law_callT Y G.T.g G.T.b G.T.builtins G.T.nolimit hg G.T.bmain hj hi (Nat.le_trans hlen h2) h4 q3 q1 (fun H i1 i2 i3 => q2 H a ns hlen i1 i2 i3) fun H e s' => h5 w H t1 e s'
end DL

namespace DL
open PySem PySem.Spec PyProof.Rows L2

/-! ## further words -/
section
variable {X : Cx} {W : WX} {K : PySem.W.Frag} {tg : Expr} {o a b e : Expr} {wo wa wb : WE} {pos apos p : Pos}
/-! ### xs.insert(i, y) -/
def fInsert : FM
  | .han h, [.int i, d], M, Q => ∃ l, M[h]? = some l ∧ l.length < sizeLine ∧ 0 ≤ i ∧ i < 2 ^ 62 ∧ Q .non (M.set h (l.take i.toNat ++ [d] ++ l.drop i.toNat))
  | _, _, _, _ => False
theorem ok_insert : OkM K (fun x vs H Q => ∃ (l : Addr) (xs : List V) (i : Int) (y : V), x = .ref l ∧ vs = [.int i, y] ∧ H l = some (.lst xs) ∧ xs.length < sizeLine ∧ 0 ≤ i ∧ i < 2 ^ 63 ∧ Q .non (upd H l (.lst (xs.take i.toNat ++ [y] ++ xs.drop i.toNat)))) fInsert := fun x vs o ds H μ M QD Q rs rx r h hq => by
  unfold fInsert at h
  split at h
  · cases r with
    | cons r1 r2 =>
      cases r2 with
      | cons r2 r3 =>
        cases r3
        cases r1
        obtain ⟨l, e2, hl, h0, h1, q2⟩ := h
        cases rx with
        | han hm hk =>
          obtain ⟨ws, e1, rr⟩ := rs.at_ _ _ _ hm e2
          refine ⟨_, ws, _, _, rfl, rfl, e1, by rw [rr.length]; exact hl, h0, by omega, ?_⟩
          obtain ⟨k4, rs4⟩ := rs.write hm (((rr.take _).append (.cons r2 .nil)).append (rr.drop _))
          exact hq _ _ μ _ _ k4 rs4 .non q2
  · exact h.elim
theorem de_insert (ho : DE X W o wo) (ha : DE X W a wa) (hb : DE X W b wb) (hbase : attributeBase o "insert" X.env (eval o X.env) = eval o X.env := by rfl)
    (hfew : ((backTo pos (starEach (a :: [b]) X.env)).all (fun x => !x.1) && (backToKw pos (keywordEach [] X.env)).all (fun x => x.1.isSome)
      && decide ((a :: [b]).length + ([] : List Keyword).length + (if ([] : List Keyword).isEmpty then 0 else 1) < 30)) = true := by rfl)
    (hline : (apos.endLine == pos.line) = true := by rfl) (hs : starEach (a :: [b]) X.env = (false, eval a X.env) :: starEach [b] X.env := by rfl) (hs2 : starEach [b] X.env = (false, eval b X.env) :: starEach [] X.env := by rfl)
    (hplain : (backTo pos (starEach [b] X.env)).any (·.1) = false := by rfl) :
    DE X W (.Call (.Attribute o "insert" apos) [a, b] [] pos) (wBM fInsert wo (wCons wa (wCons wb wNil))) := de_bm PySem.F.slot_list_insert PySem.F.type_list_insert mt_insert ok_insert ho (da_cons ha (da_cons hb da_nil hs2) hs) hbase hfew hline hs hplain
/-! ### the signs of a text -/
def sgD (x : Str) : List D := x.cps.toList.map fun c => .str ⟨#[c]⟩
def wIStr (wa : WE) : WI := fun env M Q E => wa env M (fun d M1 => ∃ x, d = .str x ∧ Q (sgD x) GT M1) E
theorem jok_s {H : Hp} {μ : Mu} {x : Str} : JOk K (Its x) H μ (sgD x) GT := fun H1 μ1 M1 i c rs g => by
  have hl : (sgD x).length = x.cps.size := by simp [sgD]
  refine ⟨fun hi => by rw [hl] at hi; exact hi, fun d hd => ?_⟩
  have hi : i < x.cps.size := by rw [← hl]; exact (List.getElem?_eq_some_iff.mp hd).1
  refine ⟨hi, fun v H2 y => ?_⟩
  obtain ⟨rfl, k, hk, rfl⟩ := y
  unfold sgD at hd
  rw [List.getElem?_map, Array.getElem?_toList, hk] at hd
  cases hd
  exact ⟨rs.refl, rs, .str _⟩
theorem di_str (ha : DE X W a wa) : DI X W tg a (wIStr wa) := by
  refine ⟨pi_mono (pi_str ha.pe) fun σ H R ⟨env, μ, M, QD, ED, re, rs, hw, hq, hx⟩ => ⟨env, μ, M, _, ED, re, rs, hw, fun v H1 μ1 d M1 k1 rs1 r1 q1 => ?_, hx⟩⟩
  obtain ⟨x, rfl, q1⟩ := q1
  cases r1
  exact ⟨x, rfl, hq _ H1 μ1 _ _ M1 k1 rs1 jok_s q1⟩
/-! ### reversed(t) -/
def wIRev (wa : WE) : WI := fun env M Q E => wa env M (fun d M1 => ∃ l, d = .tup l ∧ Q l.reverse GT M1) E
theorem di_rev (hg : Gl X "reversed") (hm : X.mg "reversed" = none) (ha : DE X W a wa) (hs : starEach [a] X.env = (false, eval a X.env) :: starEach [] X.env := by rfl) : DI X W tg (.Call (.Name "reversed" p) [a] [] pos) (wIRev wa) := by
  refine ⟨pi_mono (RT.pi_revA hg hm ha.pe hs) fun σ H R ⟨env, μ, M, QD, ED, re, rs, hw, hq, hx⟩ => ⟨env, μ, M, _, ED, re, rs, hw, fun v H1 μ1 d M1 k1 rs1 r1 q1 => ?_, hx⟩⟩
  obtain ⟨l, rfl, q1⟩ := q1
  obtain ⟨p, vs, rfl, sq, rr⟩ := r1.tup_
  have ell := rr.length
  refine ⟨p, vs, rfl, .inr ⟨sq, hq _ H1 μ1 _ _ M1 k1 rs1 (fun H2 μ2 M2 i c rs2 g => ?_) q1⟩⟩
  refine ⟨fun hi => by rw [List.length_reverse] at hi; rw [ell]; exact hi, fun d hd => ?_⟩
  have hi : i < l.length := by have := (List.getElem?_eq_some_iff.mp hd).1; rwa [List.length_reverse] at this
  rw [List.getElem?_reverse hi] at hd
  obtain ⟨v, e1, r1⟩ := (rr.car c).get hd
  have sq2 := c.sqT sq
  rw [← ell] at e1
  refine ⟨⟨by rw [ell]; exact hi, vs, v, sq2, e1⟩, fun x H3 y => ?_⟩
  obtain ⟨rfl, y⟩ := y
  have ex := y vs sq2
  rw [e1] at ex
  cases ex
  exact ⟨rs2.refl, rs2, r1⟩
/-! ### {'a': .., 'b': ..}[k], of texts -/
theorem dp_str {x : Str} {j : Nat} : DP X (.Constant (.str x) j pos) (fun _ => some (.str x)) (fun _ v => v = .str x) :=
  ⟨pe_mono pe_str fun _ _ _ ⟨v, e, h⟩ => by subst e; exact h, fun _ h => by cases h; exact ⟨_, rfl, .str x⟩⟩
def wDctS2 (x1 y1 x2 y2 : Str) (wi : WE) : WE := fun env M Q E => wi env M (fun d M1 => (d = .str x1 ∧ Q (.str y1) M1) ∨ (d = .str x2 ∧ Q (.str y2) M1)) E
theorem de_dctS2 {x1 y1 x2 y2 : Str} {j1 j2 j3 j4 : Nat} {p1 p2 p3 p4 : Pos} (hu : X.A.units + 64 < cLine) (hi : DE X W b wb) (hne : decide (x1 = x2) = false) (hs : NoSl b := by intro _ _; rfl) :
    DE X W (.Subscript (.Dict [some (.Constant (.str x1) j1 p1), some (.Constant (.str x2) j2 p2)] [.Constant (.str y1) j3 p3, .Constant (.str y2) j4 p4] pos) b p) (wDctS2 x1 y1 x2 y2 wb) := by
  have hne := of_decide_eq_false hne
  refine ⟨pe_mono (pe_dget (by omega) (pe_disp (pps_cons (dp_str (X := X)).pe (dp_str (X := X)).pe (pps_cons (dp_str (X := X)).pe (dp_str (X := X)).pe pps_nil)) rfl rfl (by simp) (by show 2 ≤ 15; decide)) hi.pe hs) fun σ H Q ⟨env, μ, M, QD, ED, re, rs, hw, hq, hx⟩ => fun q hp => ?_⟩
  refine ⟨_, rfl, _, rfl, _, rfl, _, rfl, upd_same, [((.inr x1 : Key), V.str y1), (.inr x2, .str y2)], rfl, by show 2 ≤ 15; decide, ?_⟩
  rw [upd_upd]
  have em : mergeK [] [((.inr x1 : Key), V.str y1), (.inr x2, .str y2)] = [((.inr x1 : Key), V.str y1), (.inr x2, .str y2)] := by
    simp [mergeK, putK, hne]
  rw [em]
  obtain ⟨k, rs'⟩ := rs.lay (o := .dK [((.inr x1 : Key), V.str y1), (.inr x2, .str y2)]) hp
  refine ⟨env, μ, M, _, ED, re.keep k, rs', hw, fun v H1 μ1 d M1 k1 rs1 r1 q1 => ?_, hx.keep k⟩
  have at_ : H1 q = some (.dK [((.inr x1 : Key), V.str y1), (.inr x2, .str y2)]) := k1.objs q _ upd_same (notMem_of_none rs hp).1 (by intro _ z; cases z)
  rcases q1 with ⟨rfl, q1⟩ | ⟨rfl, q1⟩
  · cases r1
    refine ⟨q, .str y1, rfl, ?_, hq _ H1 μ1 _ M1 (k.trans k1) rs1 (.str _) q1⟩
    have := DGet.k (k := .inr x1) at_
    rwa [valV_pos rfl] at this
  · cases r1
    refine ⟨q, .str y2, rfl, ?_, hq _ H1 μ1 _ M1 (k.trans k1) rs1 (.str _) q1⟩
    have := DGet.k (k := .inr x2) at_
    rwa [valV_neg (fun z => hne (by injection z)), valV_pos rfl] at this
end
/-! ## tuples and texts of the module -/
def flatIs : Value → D → Bool
  | .int i _, .int j => decide (i = j)
  | .str x _, .str y => decide (x = y)
  | _, _ => false
def allIs : List Value → List D → Bool
  | [], [] => true
  | v :: vs, d :: ds => flatIs v d && allIs vs ds
  | _, _ => false
def tupIs (K : PySem.W.Frag) (q : Str × List D) : Bool := match PySem.W.nsIn K mainGlobals q.1 with
  | some (some (.ref a)) => (match K.lookup a with
    | some ⟨.type c, _, .seq its _, _⟩ => decide (c = "tuple") && (decide (its.size ≤ sizeLine) && allIs its.toList q.2)
    | _ => false)
  | _ => false
def flatV_ : D → V
  | .int i => .int i
  | .str x => .str x
  | _ => .non
theorem allIs_vals : ∀ {vs : List Value} {ds : List D}, allIs vs ds = true → Vals (ds.map flatV_) vs ∧ ∀ K H μ, Reps K H μ (ds.map flatV_) ds
  | [], [], _ => ⟨.nil, fun _ _ _ => .nil⟩
  | v :: vs, d :: ds, h => by
    obtain ⟨h1, h2⟩ := He.ba (show (flatIs v d && allIs vs ds) = true from h)
    obtain ⟨a, b⟩ := allIs_vals h2
    cases v with
    | int i t =>
      cases d with
      | int j => cases of_decide_eq_true h1; exact ⟨.cons ⟨t, rfl⟩ a, fun K H μ => .cons (.int _) (b K H μ)⟩
      | _ => cases h1
    | str x t =>
      cases d with
      | str y => cases of_decide_eq_true h1; exact ⟨.cons ⟨t, rfl⟩ a, fun K H μ => .cons (.str _) (b K H μ)⟩
      | _ => cases h1
    | _ => cases d <;> cases h1
  | [], _ :: _, h => by cases h
  | _ :: _, [], h => by cases h
theorem tupIs_ok {K : PySem.W.Frag} {h : Heap} {mg : Str → Option Value} {x : Str} {ds : List D} (X : K.In h) (G : h.Ns mainGlobals mg) (t : tupIs K (x, ds) = true) : GlD K mg x (.tup ds) := by
  unfold tupIs at t
  split at t
  · rename_i a hn
    have hm := PySem.W.mg_of X G hn
    split at t
    · rename_i c od its n sl lk
      obtain ⟨t1, t2⟩ := He.ba t
      obtain ⟨t2, t3⟩ := He.ba t2
      obtain ⟨v, r⟩ := allIs_vals t3
      exact ⟨.ref a, _, hm, rfl, fun H μ => .tup (.inr ⟨_, its, n, lk, congrArg Value.type (of_decide_eq_true t1), rfl, of_decide_eq_true t2, v⟩) (r K H μ)⟩
    · cases t
  · cases t
def tupsOk (l : List (Str × List D)) (K : PySem.W.Frag) : Bool := l.all (tupIs K)
theorem tupsOk_at {l : List (Str × List D)} {K : PySem.W.Frag} (h : tupsOk l K = true) {x : Str} {ds : List D} (i : Nat) (e : l[i]? = some (x, ds)) : tupIs K (x, ds) = true := List.all_eq_true.mp h _ (List.mem_of_getElem? e)
theorem glD_str {K : PySem.W.Frag} {mg : Str → Option Value} {x z : Str} (h : ∃ t, mg x = some (.str z t)) : GlD K mg x (.str z) := by
  obtain ⟨t, h⟩ := h
  exact ⟨.str z, _, h, ⟨t, rfl⟩, fun _ _ => .str z⟩
/-! ## steps of a reading -/
/-- behind the first half of a chain -/
theorem chainQ {g : F2} {wc : WE} {env : En} {M : Me} {Q : D → Me → Prop} {E : EX → Me → Prop} {e : D} {b : Bool} (hT : b = true → wc env M (fun c M4 => g e c M4 Q) E) (hF : b = false → Q (.bl false) M) :
    (fun (z : D) (M3 : Me) => match z with
      | .bl true => wc env M3 (fun c M4 => g e c M4 Q) E
      | .bl false => Q (.bl false) M3
      | _ => False) (.bl b) M := by
  cases b with
  | true => exact hT rfl
  | false => exact hF rfl
theorem wC_at {d : D} {env : En} {M : Me} {Q : D → Me → Prop} {E : EX → Me → Prop} (q : Q d M) : wC d env M Q E := q
theorem fEq_str {x y : Str} {M : Me} {Q : D → Me → Prop} (q : Q (.bl (decide (x = y))) M) : fEq (.str x) (.str y) M Q := q
theorem fEq_int {x y : Int} {M : Me} {Q : D → Me → Prop} (q : Q (.bl (decide (x = y))) M) : fEq (.int x) (.int y) M Q := q
theorem retQ_drop {M N : Me} {QD : D → Me → Prop} {d : D} (hN : M <+: N) (ho : old M.length d = true) (h : QD d M) : retQ M QD d N :=
  ⟨Gc_pre hN, .inl ⟨ho, by obtain ⟨T, rfl⟩ := hN; rw [List.take_left]; exact h⟩⟩
end DL

namespace DL
open PySem PySem.Spec PyProof.Rows L2

/-! ## dicts of the module, of texts by texts -/
section
variable {X : Cx} {W : WX} {K : PySem.W.Frag} {b : Expr} {wb : WE} {pos p : Pos}
def KdT (K : PySem.W.Frag) (w : World) (mg : Str → Option Value) (x : Str) (l : List (Str × Str)) : Prop := ∃ a, mg x = some (.ref a) ∧ ∀ k v, (k, v) ∈ l → KDct K w a k (.str v)
def dctsOk (l : List (Str × List (Str × Str))) (K : PySem.W.Frag) : Bool := l.all fun q => He.valsB K (He.ga K q.1) (q.2.map fun r => (r.1, He.Dv.str r.2))
theorem dctsOk_at {l : List (Str × List (Str × Str))} {K : PySem.W.Frag} (h : dctsOk l K = true) {x : Str} {r : List (Str × Str)} (i : Nat) (e : l[i]? = some (x, r)) : He.valsB K (He.ga K x) (r.map fun r => (r.1, He.Dv.str r.2)) = true := List.all_eq_true.mp h _ (List.mem_of_getElem? e)
theorem kdT_of {w : World} {mg : Str → Option Value} {x : Str} {l : List (Str × Str)} (hm : mg x = some (.ref (He.ga K x))) (ht : ∃ es n, KDict K w (He.ga K x) es n) (hv : He.valsB K (He.ga K x) (l.map fun r => (r.1, He.Dv.str r.2)) = true) : KdT K w mg x l := by
  obtain ⟨es, n, D⟩ := ht
  refine ⟨_, hm, fun k v hkv => ?_⟩
  obtain ⟨u, h1, h2⟩ := He.valsB_ok hv (q := (k, He.Dv.str v)) (List.mem_map.mpr ⟨(k, v), hkv, rfl⟩)
  exact ⟨es, n, u, D.at_, D.lit, h1, h2⟩
def wKD (l : List (Str × Str)) (wi : WE) : WE := fun env M Q E => wi env M (fun d M1 => ∃ k v, d = .str k ∧ (k, v) ∈ l ∧ Q (.str v) M1) E
theorem de_kd {x : Str} {l : List (Str × Str)} (h : KdT X.K X.w X.mg x l) (hg : Gl X x) (hb : DE X W b wb) (hs : PlainIx b := by intro _ _; rfl) (hd : (x == ("__debug__" : Str)) = false := by decide) : DE X W (.Subscript (.Name x p) b pos) (wKD l wb) := by
  obtain ⟨a, hm, hk⟩ := h
  refine ⟨pe_mono (pe_ix ix_kdict (pe_glob hg hm (show RelV (.ref a) (.ref a) from rfl) hd) hb.pe hs) fun σ H Q ⟨env, μ, M, QD, ED, re, rs, hw, hq, hx⟩ => ?_⟩
  refine ⟨env, μ, M, _, ED, re, rs, hw, fun v H1 μ1 d M1 k1 rs1 r1 q1 => ?_, hx⟩
  obtain ⟨k, y, rfl, hkv, q⟩ := q1
  cases r1
  exact ⟨a, k, .str y, rfl, rfl, hk k y hkv, hq _ H1 μ1 _ M1 k1 rs1 (.str _) q⟩
end
/-! ## try .. except y: -/
section
variable {X : Cx} {W : WX} {L : ExL} {y : Str} {body suite : List Stmt} {s0 : Stmt} {np pos pos' : Pos} {tb : WS} {ts : Addr → Str → WS}
def wTryN (L : ExL) (y : Str) (tb : WS) (ts : Addr → Str → WS) : WS := fun env M DD => tb env M { DD with ex := fun x env1 M1 => ∃ b : Bool, mtE L y x.cls = some b ∧
  if b = true then (x.arg = none ∧ ∀ ad : Addr, ts ad x.cls env1 M1 { nx := DD.nx, rt := DD.rt, bk := DD.bk, ct := DD.ct, ex := fun _ _ _ => False }) else DD.ex x env1 M1 }
theorem ds_tryN (hx : exOk L X.K = true) (hy : y ∈ L.A) (hs : X.stack = X.env :: X.outer) (hf : X.env.frame = some X.env.locals) (hc : Names X y (.ref (He.ga X.K y))) (tk : L2N.Takes X W)
    (hb : ∀ (W : WX) (pn : List (Addr × Obj)) (xe : Value → Shared → Prop), L2N.Takes (X.tr pn xe) W → PassesOwn (model X.prog X.w) X.A X.env xe → DB (X.tr pn xe) W body tb)
    (hsu : ∀ (a : Addr) (oe : Obj) (c : Str) (pn : List (Addr × Obj)), ExP X.K L (a, oe) c → L2H.Hot1 (X.suite a ((a, oe) :: pn)).A (a, oe) → DB (X.suite a ((a, oe) :: pn)) W0 (s0 :: suite) (ts a c)) :
    DS X W (.Try body [.ExceptHandler (some (.Name y np)) none (s0 :: suite) pos'] [] [] pos) (wTryN L y tb ts) := by
  refine ⟨ps_mono (L2N.ps_try_many (l := [(.ref (He.ga X.K y), fun a cls d D σ H => ∃ c, c ∈ L.R ∧ cls = .ref (He.ga X.K c) ∧ d = none ∧ tS X.K W0 (ts a c) D σ H)]) (tb := fun W => tS X.K W tb) hs hf tk (fun W pn xe t p => (hb W pn xe t p).pss) (.cons hc ?_ .nil)) ?_⟩
  · intro a oe cls d pn hz hfl
    constructor
    rintro pins s σ H D I ⟨c, hcR, rfl, rfl, q⟩
    exact (hsu a oe c pn ⟨hcR, hz, hfl⟩ (hot_suite hz hfl).1).pss.run pins s σ H D I q
  · rintro D σ H ⟨env, μ, M, DD, re, rs, hw, o⟩
    refine ⟨env, μ, M, _, re, rs, hw, { nx := o.nx, rt := o.rt, bk := o.bk, ct := o.ct, ex := ?_ }⟩
    rintro cls a σ1 H1 μ1 x env1 M1 k1 re1 rs1 rx ⟨b, hm, q⟩
    obtain ⟨hcR, rfl⟩ := mt_at hm
    refine ⟨isOf L x.cls y, by rw [rx.1]; exact ((exOk_at hx hcR).2.2 y hy).2, fun hbt ad _ => ?_, fun hbf => ?_⟩
    · rw [hbt, if_pos rfl] at q
      refine ⟨x.cls, hcR, rx.1, rx.2.1 q.1, env1, μ1, M1, _, re1, rs1, q.2 ad, ?_⟩
      have o1 := o.keep k1
      exact { nx := o1.nx, rt := o1.rt, bk := o1.bk, ct := o1.ct, ex := fun _ _ _ _ _ _ _ _ _ _ _ _ z => z.elim }
    · rw [hbf, if_neg Bool.false_ne_true] at q
      exact o.ex cls a σ1 H1 μ1 x env1 M1 k1 re1 rs1 rx q
end
end DL

namespace DL
open PySem PySem.Spec PyProof.Rows L2
section
variable {X : Cx}
/-- max(t) of a tuple of ints -/
theorem cr_maxT (hc : X.calm = true) : CallR X (.builtin "max") (fun vs H Q => ∃ (a : Addr) (ns : List Int), vs = [V.ref a] ∧ SqT X.K H a (ns.map V.int) ∧ 0 < ns.length ∧ ∀ m, m ∈ ns → (∀ y, y ∈ ns → y ≤ m) → Q (.int m) H) := by
  intro pins s σ H vs us Q I r h
  obtain ⟨a, ns, rfl, hs, hne, q⟩ := h
  obtain ⟨its, rv, hl, _⟩ := I.tuple hs
  rw [Vals.ref1 r]
  have hT : s.heap.IsTuple a its.toArray := hl
  obtain ⟨xs, e⟩ := rv.ints.allInts.items
  have hn : numsOf (intItems xs).toList = ns := by rw [← e]; exact rv.ints.numsOf
  rw [nums_intItems] at hn
  subst hn
  rw [e] at hT
  have hsz : 0 < xs.size := by simpa using hne
  have ha : a < s.heap.objs.size := by
    obtain ⟨o, ho, _⟩ := hT
    exact Heap.lt_size ho
  refine call_max_walk (wpAny_pyIter_tuple hT ?_)
  refine ⟨s.heap.objs.size, [s.heap.objs.size, a], [s.heap.objs.size], (intItems xs).size, _, _, fun i j => decide (numAt xs i > numAt xs j), rfl, Walks.tuple (A := X.A.in1) (show X.A.in1.handled = none from I.ok.hd hc) _ a (Nat.ne_of_lt ha) (intItems xs),
    ⟨⟨_, Heap.get?_push_size _ rfl, rfl, rfl⟩, hT.push _⟩, fun d hd => ?_, by simpa [intItems] using hsz, CmpOf.ints_gt (numAt xs) (fun i v z => intItems_at z), fun v h' tk hP hk => ?_⟩
  · show d < (s.heap.push _).objs.size
    rw [Heap.size_push]
    rcases List.mem_cons.mp hd with z | z
    · rw [z]; exact Nat.lt_succ_self _
    · rw [List.mem_singleton.mp z]; exact Nat.lt_succ_of_lt ha
  · obtain ⟨t, rfl⟩ := intItems_at hP
    have hz : (intItems xs).size = xs.size := by simp [intItems]
    obtain ⟨h1, h2⟩ := argBest_gt (numAt xs) ((intItems xs).size - 1)
    have hk2 : ∀ b o, s.heap.get? b = some o → h'.get? b = some o := fun b o e => hk b o (fun z => by rw [List.mem_singleton.mp z] at e; exact absurd (Heap.lt_size e) (Nat.lt_irrefl _)) (Heap.get?_push_of_some _ e)
    refine ⟨.int _, H, I.kept (t' := tk) hk2, ⟨t, rfl⟩, q _ ?_ fun y hy => ?_⟩
    · rw [numAt_eq]; exact PySem.getD_mem (by rw [List.length_map, Array.length_toList]; omega)
    · obtain ⟨j, hj, rfl⟩ := mem_getD hy
      rw [List.length_map, Array.length_toList] at hj
      rw [← numAt_eq]; exact h2 j (by omega)
variable {W : WX} {K : PySem.W.Frag} {a : Expr} {wr : WA} {pos p : Pos}
def fMax1 : FC
  | [d], M, Q => ∃ l ns, sqD d M = some l ∧ insD l = some ns ∧ 0 < ns.length ∧ ∀ m, m ∈ ns → (∀ y, y ∈ ns → y ≤ m) → Q (.int m) M
  | _, _, _ => False
theorem ok_max1 : OkC K (fun vs H Q => (∃ (a : Addr) (ns : List Int), vs = [V.ref a] ∧ SqL K H a (ns.map V.int) ∧ 0 < ns.length ∧ ∀ m, m ∈ ns → (∀ y, y ∈ ns → y ≤ m) → Q (.int m) H) ∨ ∃ (a : Addr) (ns : List Int), vs = [V.ref a] ∧ SqT K H a (ns.map V.int) ∧ 0 < ns.length ∧ ∀ m, m ∈ ns → (∀ y, y ∈ ns → y ≤ m) → Q (.int m) H) fMax1 := fun vs ds H μ M QD Q rs r h hq => by
  unfold fMax1 at h
  split at h
  · obtain ⟨v, rfl, r1⟩ := reps1 r
    obtain ⟨l, ns, h1, h2, h3, h4⟩ := h
    obtain ⟨p, vs, rfl, hs, rr⟩ := r1.sq rs h1
    have ew := ins_V rr h2
    subst ew
    rcases hs with hs | hs
    · exact .inl ⟨p, ns, rfl, hs, h3, fun m a b => hq _ H μ _ M rs.refl rs (.int _) (h4 m a b)⟩
    · exact .inr ⟨p, ns, rfl, hs, h3, fun m a b => hq _ H μ _ M rs.refl rs (.int _) (h4 m a b)⟩
  · exact h.elim
theorem bi_max1 (hg : Gl X "max") (hm : X.mg "max" = none) (hc : X.calm = true) (ha : DA X W [a] wr) (he : starEach [a] X.env = (false, eval a X.env) :: starEach [] X.env := by rfl) : DE X W (.Call (.Name "max" p) [a] [] pos) (wCB fMax1 wr) :=
  de_blt ((cr_max hc).or (cr_maxT hc)) ok_max1 hg hm (by decide +kernel) ha (by decide) (by decide) he (by rfl)
end
end DL

/-! ## enumerate over a tuple -/
namespace DLenum
open PySem PySem.Spec PyProof.Rows L2
section
variable {P : Program} {w : World} {K : PySem.W.Frag}
/-- the enumerate object is made over a tuple -/
theorem made_of_tuple (t : Addr) (its : Array Value) (o : Obj) (hoc : o.cls = .type "tuple") (n : Nat) (hod : o.data = .seq its n) :
    Meets (Builtin.«enumerate.__new__» ⟨[.type "enumerate", .ref t], []⟩) (fun _ R s => s.heap.get? t = some o ∧ R (.ok (.ret (.ref (s.heap.push { cls := .type "tuple_iterator", data := .fields #[.ref t, .int 0 0] }).objs.size)))
        { s with heap := (s.heap.push { cls := .type "tuple_iterator", data := .fields #[.ref t, .int 0 0] }).push { cls := .type "enumerate", data := .fields #[.none, .bool false, .ref s.heap.objs.size, rawInt 0, .none, .none] } }) :=
  .of_wp fun prog w A R s hyp => by
    obtain ⟨hp, gens, dr, tk, osx⟩ := s
    obtain ⟨ht, fin⟩ := hyp
    have sub0 := sub_enumerate
    have isT : Heap.IsTuple (Shared.heap ⟨hp, gens, dr, tk, osx⟩) t its := ⟨o, ht, hoc, n, hod⟩
    wp_walk using AutoSeq1.wpAny_loadPart' ht
    refine wpAny_stack_any fun stk => wpAny_pure ?_
    split
    · rename_i cc _ _ _ _ _
      cases (cc == Value.type "enumerate") <;>
        (wp_walk using AutoSeq1.wpAny_loadPart' ht, wpAny_pyIter_tuple isT
         exact ⟨_, rfl, fin⟩)
    · wp_walk using AutoSeq1.wpAny_loadPart' ht, wpAny_pyIter_tuple isT
      exact ⟨_, rfl, fin⟩
/-- enumerate(t), t a tuple -/
theorem called_on_tuple {A : Around} {E : Value → Shared → Prop} {s : Shared} {t : Addr} {its : Array Value} {Q : Value → Shared → Prop} (isT : s.heap.IsTuple t its)
    (fin : ∀ hp, IsEnum hp (s.heap.objs.size + 1) s.heap.objs.size 0 .none → hp.IsTupleIter s.heap.objs.size t 0 → (∀ b o, s.heap.get? b = some o → hp.get? b = some o) → Q (.ref (s.heap.objs.size + 1)) { s with heap := hp }) :
    wpAny (model P w) A (call (.type "enumerate") [.ref t]) Q E s := by
  obtain ⟨o, ho, hoc, n, hod⟩ := isT
  refine callType_new F.called_enumerate (by decide) (F.typeCall_enumerate_1 _) (F.newCall_enumerate_1 _) (fun ob => F.args_object_init_2 ob _) F.entry_enumerate_new (made_of_tuple t its o hoc n hod) ⟨ho, ?_⟩
  have sz : (s.heap.push { cls := .type "tuple_iterator", data := .fields #[.ref t, .int 0 0] }).objs.size = s.heap.objs.size + 1 := Heap.size_push ..
  have new : ((s.heap.push { cls := .type "tuple_iterator", data := .fields #[.ref t, .int 0 0] }).push { cls := .type "enumerate", data := .fields #[.none, .bool false, .ref s.heap.objs.size, rawInt 0, .none, .none] }).get? (s.heap.objs.size + 1) = some { cls := .type "enumerate", data := .fields #[.none, .bool false, .ref s.heap.objs.size, rawInt 0, .none, .none] } := by
    rw [← sz]; exact Heap.get?_push_size _ rfl
  rw [sz]
  exact ⟨⟨_, new, rfl⟩, fin _ new ⟨_, Heap.get?_push_of_some _ (Heap.get?_push_size _ rfl), rfl, rfl⟩ fun b u q => Heap.get?_push_of_some _ (Heap.get?_push_of_some _ q)⟩
/-- the tuple at a, each item in a new pair behind its number -/
def IteT (K : PySem.W.Frag) (a : Addr) : It where
  go := fun i H => ∃ (xs : List V) (x : V), SqT K H a xs ∧ xs[i]? = some x
  yld := fun i H v H' => ∃ T x, v = .ref T ∧ H T = none ∧ H' = upd H T (.tup [.int (i : Nat), x]) ∧ ∀ xs, SqT K H a xs → xs[i]? = some x
  stop := fun i H => ∃ xs : List V, SqT K H a xs ∧ xs.length ≤ i
theorem two_of {b e it : Addr} (h : b ∈ [e, it]) : b = e ∨ b = it := by simpa using h
theorem turns {elts : List Expr} {kk : Nat} {tpos : Pos} (a e it : Addr) :
    Turn P w K (.Tuple elts kk tpos) (IteT K a) [e, it] e (fun i h => (∃ v, IsEnum h e it ((i : Nat) : Int) v) ∧ (h.IsTupleIter it a i ∧ e ≠ it)) where
  mem := List.mem_cons_self
  obj := by
    rintro i h ⟨⟨v0, he⟩, ⟨oi, hoi, _, hdi⟩, _⟩ b hb
    rcases two_of hb with rfl | rfl
    · exact ⟨_, he, fun v q => nomatch q⟩
    · exact ⟨oi, hoi, fun v q => by rw [hdi] at q; cases q⟩
  keep := by
    rintro i h h' ⟨⟨v0, he⟩, hi, ne⟩ k
    exact ⟨⟨v0, k e (by simp) _ he⟩, hi.at fun o q => k it (by simp) o q, ne⟩
  item := by
    rintro X rfl rfl rfl calm i pins s σ H E I free ⟨⟨v0, he⟩, hi, ne⟩ ⟨xs, x, hxs, hx⟩
    obtain ⟨its, rv, isT, _⟩ := I.tuple hxs
    obtain ⟨u, hu, ru⟩ := rv.get hx
    have le := Heap.lt_size he
    have li : it < s.heap.objs.size := by obtain ⟨_, q, _⟩ := hi; exact Heap.lt_size q
    have lt : a < s.heap.objs.size := by obtain ⟨_, q, _⟩ := id isT; exact Heap.lt_size q
    have nt : a ≠ it := by
      rintro rfl
      obtain ⟨o1, q1, c1, _⟩ := hi
      obtain ⟨o2, q2, c2, _⟩ := id isT
      rw [q1] at q2; cases q2; rw [c1] at c2; exact absurd (Value.type.inj c2) (by decide)
    have na : a ≠ e := by
      rintro rfl
      obtain ⟨o2, q2, c2, _⟩ := id isT
      rw [he] at q2; cases q2; exact absurd (Value.type.inj c2) (by decide)
    have hlt : i < its.toArray.size := by
      have := (List.getElem?_eq_some_iff.mp hu).1
      simpa using this
    have D := Draws.tuple (prog := X.prog) (w := X.w) (A := X.A.in1) (show X.A.in1.handled = none from I.ok.hd calm) it a nt its.toArray
    refine wpAny_pyNext_enum_itemD D he ⟨hi, isT⟩ hlt ne (by simp [ne, Ne.symm na]) fun y h1 tk hy out st' new _ others => ?_
    have ey : y = u := by
      have hy : its.toArray[i]? = some y := hy
      have hu : its.toArray[i]? = some u := by simpa using hu
      rw [hu] at hy; exact (Option.some.inj hy).symm
    subst ey
    refine ⟨_, rfl, wpAny_letOwnedTupleGo_enum (s := { s with heap := h1, toks := tk + 1 }) out fun h2 he2 same => ?_⟩
    have new2 : h2.get? s.heap.objs.size = some { cls := .type "tuple", data := .seq #[.int i tk, y] } := (same.2 _ (Nat.ne_of_gt le)).trans new
    have J : Inv X pins σ (upd H s.heap.objs.size (.tup [.int (i : Nat), x])) { s with heap := h2, toks := tk + 1 } := by
      refine I.turnedNew (ch := [e, it]) (fun b o hb q => ?_) free (Nat.le_refl _) ⟨by show 2 ≤ sizeLine; decide, [.int i tk, y], .cons ⟨_, rfl⟩ (.cons ru .nil), _, new2, rfl, _, rfl⟩
      have n1 : b ≠ e := fun z => hb (by simp [z])
      exact (same.2 b n1).trans (others b o n1 (fun z => hb (by simp [z])) q)
    refine ⟨.ref s.heap.objs.size, _, J, rfl, ⟨_, x, rfl, I.hok.fresh (Nat.le_refl _), rfl, fun ys hys => by rw [I.tuple_inj hys hxs]; exact hx⟩, ⟨⟨y, ?_⟩, st'.1.at fun o q => (same.2 it (Ne.symm ne)).trans q, ne⟩, fun b hb => ?_⟩
    · rw [show ((i + 1 : Nat) : Int) = (i : Int) + 1 by omega]
      exact he2
    · have lb : b < s.heap.objs.size := by rcases two_of hb with rfl | rfl <;> assumption
      rw [upd_ne (Nat.ne_of_lt lb)]
      exact (free b hb).1
  done := by
    rintro X rfl rfl rfl calm i pins s σ H E I free ⟨⟨v0, he⟩, hi, ne⟩ ⟨xs, hxs, hx⟩
    obtain ⟨its, rv, isT, _⟩ := I.tuple hxs
    have ll := rv.length
    have out : its.toArray[i]? = none := by simp; omega
    have D : Draws X.prog X.w X.A.in1 it [it, a] i (fun _ _ => True) (fun j h => j = i ∧ (h.IsTupleIter it a i ∧ h.IsTuple a its.toArray)) := {
      live := fun _ _ ⟨_, ⟨oi, hoi, _⟩, _⟩ => ⟨oi, hoi⟩
      frame := fun _ _ _ ⟨ej, h1, h2⟩ k => ⟨ej, h1.at fun o q => k it (by simp) o q, h2.at fun o q => k a (by simp) o q⟩
      item := fun j _ _ _ lt ⟨ej, _⟩ _ => absurd lt (by omega)
      done := fun _ _ _ ⟨_, h1, h2⟩ hE => wpAny_nextOf_tuple_end (show X.A.in1.handled = none from I.ok.hd calm) h1 h2 out hE }
    obtain ⟨f0, f1, f2, f3, f4, f5⟩ := free it (by simp)
    exact wpAny_pyNext_enum_endD D he ⟨rfl, hi, isT⟩ fun h1 ext => ⟨rfl, I.turned (t' := s.toks) (fun b o hb q => ext b o hb q) f0 f1 f3 f4 f5⟩
  self := fun A i s Q E ⟨⟨_, he⟩, _⟩ h => wpAny_pyIter_enum he h
/-- enumerate of a list or of a tuple -/
def iEn (K : PySem.W.Frag) (ta : TA) : TI := fun σ H R => ta σ H fun vs H1 => ∃ a, vs = [.ref a] ∧ (((∃ xs, SqL K H1 a xs) ∧ R (Ite K a) H1) ∨ ((∃ xs, SqT K H1 a xs) ∧ R (IteT K a) H1))
theorem pi_en {X : Cx} {e : Expr} {ta : TA} {p pos tpos : Pos} {elts : List Expr} {kk : Nat} (hg : Gl X "enumerate") (hm : X.mg "enumerate" = none) (ha : PA X [e] ta) (hs : starEach [e] X.env = [(false, eval e X.env)] := by rfl) :
    PI X (.Tuple elts kk tpos) (.Call (.Name "enumerate" p) [e] [] pos) (iEn X.K ta) := by
  refine ⟨fun pins s σ H R I h => ?_⟩
  refine Call_ (ld_blt I hg hm boot_enumerate (PyProof.Rows.callWith_type1 (thn (ha.run pos pins s σ H _ I h) ?_) hs rfl))
  rintro us s1 ⟨vs, H1, I1, rel, a, rfl, way⟩
  cases rel with
  | cons r0 rr =>
    cases rr; cases r0
    have fresh : ∀ b, b ∈ [s1.heap.objs.size + 1, s1.heap.objs.size] → FpOk X pins H1 b := fun b hb => by
      have hle : s1.heap.objs.size ≤ b := by
        rcases two_of hb with z | z <;> rw [z]
        · exact Nat.le_add_right _ _
        · exact Nat.le_refl _
      exact I1.fpOk hle (I1.hok.fresh hle)
    rcases way with ⟨⟨xs, hx⟩, q⟩ | ⟨⟨xs, hx⟩, q⟩
    · obtain ⟨its, rv, isL, _⟩ := I1.list hx
      refine call_enumerate_list isL.isList fun h1 he hit _ hk => wpAny_pyIter_enum he ?_
      exact ⟨s1.heap.objs.size + 1, [s1.heap.objs.size + 1, s1.heap.objs.size], _, _, H1, rfl, I1.kept (t' := s1.toks) hk, turn_enum a (s1.heap.objs.size + 1) s1.heap.objs.size, ⟨⟨.none, he⟩, hit, Nat.succ_ne_self _⟩, fresh, q⟩
    · obtain ⟨its, rv, isT, _⟩ := I1.tuple hx
      refine called_on_tuple isT fun h1 he hit hk => wpAny_pyIter_enum he ?_
      exact ⟨s1.heap.objs.size + 1, [s1.heap.objs.size + 1, s1.heap.objs.size], _, _, H1, rfl, I1.kept (t' := s1.toks) hk, turns a (s1.heap.objs.size + 1) s1.heap.objs.size, ⟨⟨.none, he⟩, hit, Nat.succ_ne_self _⟩, fresh, q⟩
end
end DLenum
namespace DL
open PySem PySem.Spec PyProof.Rows L2
section
variable {X : Cx} {W : WX} {a : Expr} {wr : WA} {pos p : Pos} {K : PySem.W.Frag}
def enD (xs : List D) : List D := List.zipWith (fun (k : Nat) x => D.tup [.int k, x]) (List.range xs.length) xs
theorem enD_len (xs : List D) : (enD xs).length = xs.length := by simp [enD]
theorem enD_at {xs : List D} {i : Nat} {d : D} (h : (enD xs)[i]? = some d) : ∃ x, xs[i]? = some x ∧ d = .tup [.int (i : Nat), x] := by
  unfold enD at h
  rw [List.getElem?_zipWith_eq_some] at h
  obtain ⟨k, x, h1, h2, h3⟩ := h
  have hi := (List.getElem?_eq_some_iff.mp h2).1
  rw [List.getElem?_range hi] at h1
  cases h1
  exact ⟨x, h2, h3.symm⟩
theorem jok_e {J : It} {H : Hp} {μ : Mu} {a : Addr} {xs : List D} {G : Me → Prop} (Sq : Hp → Addr → List V → Prop)
    (hgo : ∀ i H, (∃ (xs : List V) (x : V), Sq H a xs ∧ xs[i]? = some x) → J.go i H)
    (hy : ∀ i H v H', J.yld i H v H' → ∃ T x, v = .ref T ∧ H T = none ∧ H' = upd H T (.tup [.int (i : Nat), x]) ∧ ∀ xs, Sq H a xs → xs[i]? = some x)
    (hst : ∀ i H, (∃ xs : List V, Sq H a xs ∧ xs.length ≤ i) → J.stop i H)
    (h1 : ∀ (H1 : Hp) (μ1 : Mu) (M1 : Me), Car H μ H1 μ1 → RelS K H1 μ1 M1 → G M1 → ∃ vs, Sq H1 a vs ∧ Reps K H1 μ1 vs xs) : JOk K J H μ (enD xs) G := fun H1 μ1 M1 i c rs g => by
  obtain ⟨vs, s1, r1⟩ := h1 H1 μ1 M1 c rs g
  refine ⟨fun hi => hst i H1 ⟨vs, s1, by rw [enD_len] at hi; rw [r1.length]; exact hi⟩, fun d hd => ?_⟩
  obtain ⟨x, e1, rfl⟩ := enD_at hd
  obtain ⟨v, q1, p1⟩ := r1.get e1
  refine ⟨hgo i H1 ⟨vs, v, s1, q1⟩, fun z H2 yl => ?_⟩
  obtain ⟨T, v', rfl, hT, rfl, f1⟩ := hy i H1 z H2 yl
  have ev := f1 vs s1
  rw [q1] at ev; cases ev
  exact tup_rep rs (.cons (.int _) (.cons p1 .nil)) hT
def wIEn (wr : WA) : WI := fun env M Q E => wr env M (fun ds M1 => match ds with
  | [d] => ∃ xs G, itD d M1 = some (xs, G) ∧ Q (enD xs) G M1
  | _ => False) E
theorem di_en {tpos : Pos} {elts : List Expr} {kk : Nat} (hg : Gl X "enumerate") (hm : X.mg "enumerate" = none) (ha : DA X W [a] wr) (hs : starEach [a] X.env = [(false, eval a X.env)] := by rfl) : DI X W (.Tuple elts kk tpos) (.Call (.Name "enumerate" p) [a] [] pos) (wIEn wr) := by
  refine ⟨pi_mono (DLenum.pi_en hg hm ha.pa hs) fun σ H R ⟨env, μ, M, QD, ED, re, rs, hw, hq, hx⟩ => ⟨env, μ, M, _, ED, re, rs, hw, fun vs H1 μ1 ds M1 k1 rs1 r1 q1 => ?_, hx⟩⟩
  match ds, q1 with
  | [d], ⟨xs, G, e1, q1⟩ =>
    obtain ⟨v, rfl, rv⟩ := reps1 r1
    obtain ⟨a, rfl, hs, g⟩ := seq_car rs1 rv e1
    refine ⟨a, rfl, ?_⟩
    rcases hs with hs | hs
    · obtain ⟨vs, h1, _⟩ := hs H1 μ1 M1 .refl rs1 g
      exact .inl ⟨⟨vs, h1⟩, hq _ H1 μ1 _ G M1 k1 rs1 (jok_e (SqL X.K) (fun _ _ h => h) (fun _ _ _ _ h => h) (fun _ _ h => h) hs) q1⟩
    · obtain ⟨vs, h1, _⟩ := hs H1 μ1 M1 .refl rs1 g
      exact .inr ⟨⟨vs, h1⟩, hq _ H1 μ1 _ G M1 k1 rs1 (jok_e (SqT X.K) (fun _ _ h => h) (fun _ _ _ _ h => h) (fun _ _ h => h) hs) q1⟩
end
end DL

/-! ## a refusal that is kept beyond its suite -/
namespace DLkeep
open PySem PySem.Spec PyProof.Rows L2
section
variable {X : Cx} {pins : List (Addr × Obj)} {σ : L2.St} {H : Hp} {s : Shared} {a : Addr} {oe : Obj}
/-- what is tracked of the kept one -/
abbrev keptO (a : Addr) (cls : Value) (d : Option Addr) : HO := .ext fun h => ∃ oe : Obj, h.get? a = some oe ∧ L2N.Zn cls d oe ∧ ∃ vs, oe.data = .fields vs
/-- a pinned object that was not there at the entry becomes a tracked one -/
theorem track (I : Inv X ((a, oe) :: pins) σ H s) (new0 : X.s_0.heap.get? a = none) (apart : ∀ p ∈ X.pn ++ pins, p.1 ≠ a) {cls : Value} {d : Option Addr} (hz : L2N.Zn cls d oe) (hd : ∃ vs, oe.data = .fields vs) : Inv X pins σ (upd H a (keptO a cls d)) s := by
  obtain ⟨at_, free, nL, nF, nC⟩ := I.pin (a, oe) (List.mem_append_right _ List.mem_cons_self)
  have ne : ∀ b u, H b = some u → b ≠ a := fun b u e z => by
    subst z
    have free : H b = none := free
    rw [free] at e; cases e
  have pinS : ∀ p ∈ X.pn ++ pins, p ∈ X.pn ++ (a, oe) :: pins := fun p hp => by
    rcases List.mem_append.mp hp with hp | hp
    · exact List.mem_append_left _ hp
    · exact List.mem_append_right _ (List.mem_cons_of_mem _ hp)
  refine {
    ok := I.ok
    os := I.os
    bare := I.bare
    base := {
      keep := I.base.keep
      slot := I.base.slot
      free := fun b o e n hx => by
        rw [upd_ne (fun z => by rw [z, new0] at e; cases e)]
        exact I.base.free b o e n hx
      there := I.base.there
      tups := fun b xs e => by
        have q := I.base.tups b xs e
        rw [upd_ne (ne b _ q)]; exact q
      frzs := fun b ob xs e => by
        have q := I.base.frzs b ob xs e
        rw [upd_ne (ne b _ q)]; exact q
      tbls := fun b ps e => by
        obtain ⟨more, q⟩ := I.base.tbls b ps e
        exact ⟨more, by rw [upd_ne (ne b _ q)]; exact q⟩ }
    loc := I.loc
    cell := I.cell
    free := by rw [upd_ne (Ne.symm nL)]; exact I.free
    freeC := fun x c e => by
      rw [upd_ne]
      · exact I.freeC x c e
      · rintro rfl
        obtain ⟨v, o, ho, hd⟩ := I.cell x c e
        have at_ : s.heap.get? c = some oe := at_
        rw [at_] at ho; cases ho
        exact nC v hd
    pin := fun p hp => by
      obtain ⟨g1, g2, g3, g4, g5⟩ := I.pin p (pinS p hp)
      exact ⟨g1, by rw [upd_ne (apart p hp)]; exact g2, g3, g4, g5⟩
    hok := fun b u e => by
      by_cases hb : b = a
      · subst hb
        rw [upd_same] at e; cases e
        exact ⟨⟨oe, at_, hz, hd⟩, ⟨oe, at_⟩, fun h1 h2 ⟨o, g, q⟩ k => ⟨o, k o g, q⟩⟩
      · rw [upd_ne hb] at e
        exact (I.hok b u e).stay (fun _ _ _ q => q) (fun c q => by rw [upd_ne (ne c _ q)]; exact q) fun c xs q => by rw [upd_ne (ne c _ q)]; exact q
    len := I.len }
/-- the wish of the clause 'except x as n' whose refusal is kept: behind the suite it is tracked -/
def wKeep (K : PySem.W.Frag) (c : Value) (i : Nat) (ts : Addr → Value → Option Addr → TS) (Wout : WX) (D : Ends) : WX := fun cls d σ H => ∃ b, PySem.W.exmOne K cls c = some b ∧
  (b = true → ∀ (a : Addr) (oe : Obj), H a = none → L2N.Zn cls d oe → (∃ vs, oe.data = .fields vs) → ts a cls d { nx := fun σ1 H1 => H1 a = none → D.nx (σ1.set i none) (upd H1 a (keptO a cls d)), rt := fun _ _ => False, bk := fun _ _ => False, ct := fun _ _ => False } (σ.set i (some (.ref a))) H) ∧ (b = false → Wout cls d σ H)
variable {x n : Str} {c : Value} {i : Nat} {body suite : List Stmt} {st0 : Stmt} {np p1 p2 : Pos} {tb : WX → TS} {ts : Addr → Value → Option Addr → TS} {Wout : WX}
theorem ps_try_keep (hs : X.stack = X.env :: X.outer) (hf : X.env.frame = some X.env.locals) (hex : X.ex = []) (hN : X.N.Nodup) (hi : X.N[i]? = some n) (hln : X.env.kindOf n = some .local) (hc : Names X x c) (tk : L2N.Takes X Wout)
    (hb : ∀ (W : WX) (pn : List (Addr × Obj)) (xe : Value → Shared → Prop), L2N.Takes (X.tr pn xe) W → PassesOwn (model X.prog X.w) X.A X.env xe → PSs (X.tr pn xe) body (tb W))
    (hsu : ∀ (a : Addr) (oe : Obj) (cls : Value) (d : Option Addr) (pn : List (Addr × Obj)), L2N.Zn cls d oe → (∃ vs, oe.data = .fields vs) → PSs (X.suite a ((a, oe) :: pn)) (st0 :: suite) (ts a cls d)) :
    PS X (.Try body [.ExceptHandler (some (.Name x np)) (some n) (st0 :: suite) p1] [] [] p2) (fun D σ H => tb (wKeep X.K c i ts Wout D) D σ H) := by
  constructor
  intro pins s σ H D I h
  have ok := I.ok
  have frames : X.A.frames = some (X.env :: X.outer) := by rw [ok.frames, hs]
  have at_ : Loc X.env.scope n := .inl hln
  refine wpAny_Try_except (wpAny_mono ((hb (wKeep X.K c i ts Wout D) (X.pn ++ pins) (fun e sa => wpAny (model X.prog X.w) X.A (noteFrame e X.env) (fun _ sb => wpAny (model X.prog X.w) X.A (setFlight e none) (fun _ sc =>
    wpAny (model X.prog X.w) X.A (handleBy e X.env [.ExceptHandler (some (.Name x np)) (some n) (st0 :: suite) p1]) (SP X pins D) X.xe sc) X.xe sb) X.xe sa) ?caught PassesOwn.looking).run [] s σ H D (I.toTry _) h) ?went fun e sa he => he)
  case went =>
    intro fl sa hsp
    match fl, hsp with
    | .next, ⟨σ1, H1, J, q⟩ => exact wpAny_execs_nil ⟨σ1, H1, J.ofTry ok, q⟩
    | .brk, ⟨σ1, H1, J, q⟩ => exact ⟨σ1, H1, J.ofTry ok, q⟩
    | .cont, ⟨σ1, H1, J, q⟩ => exact ⟨σ1, H1, J.ofTry ok, q⟩
    | .ret u, ⟨v, σ1, H1, J, r, q⟩ => exact ⟨v, σ1, H1, J.ofTry ok, r, q⟩
  case caught =>
    rintro u sa ⟨a, B, sI, pins1, σ1, H1, cls, d, rfl, J0, nb, up, sky, na, os, ag, b, kind, yes, no⟩
    have J : Inv X pins σ1 H1 sI := J0.ofTry ok
    have sky1 : Sky B (X.env :: X.outer) a (L2N.Zn cls d) X.env.locals sa.heap := by rw [← hs]; exact sky
    refine L2N.Sky.land L2N.Zn.steady frames hf sky1 fun hA flA upA => ?_
    have notFr : ∀ {h : Heap} {o : Obj} {vs : Array Value}, h.FunFrames B (X.env :: X.outer) → h.get? a = some o → o.data = .fields vs → a ∉ frs (X.env :: X.outer) := by
      intro h o vs ff e dd hm
      obtain ⟨_, o1, e1, hnf⟩ := ff.mem hm
      rw [e] at e1; cases e1
      exact hnf _ dd
    obtain ⟨oA, vA, heA, hzA, hdA⟩ := flA.there
    have nfr := notFr flA.2.2.1 heA hdA
    have nL : a ≠ X.env.locals := by
      rintro rfl
      exact nfr (List.mem_filterMap.mpr ⟨X.env, List.mem_cons_self, hf⟩)
    have nF : a ∉ X.fs := fun hm => by
      obtain ⟨e, he, q⟩ := List.mem_filterMap.mp hm
      exact nfr (List.mem_filterMap.mpr ⟨e, List.mem_cons_of_mem _ he, q⟩)
    have noB : B.get? a = none := flA.2.1
    -- it was not there ahead
    have apart : ∀ b o, sI.heap.get? b = some o → b ≠ X.env.locals → b ∉ X.fs → b ≠ a := by
      rintro b o e n1 n2 rfl
      have q := nb b o e (by
        rw [hs]
        intro hm
        obtain ⟨z, hz, q⟩ := List.mem_filterMap.mp hm
        rcases List.mem_cons.mp hz with rfl | hz
        · rw [hf] at q; cases q; exact n1 rfl
        · exact n2 (List.mem_filterMap.mpr ⟨z, hz, q⟩))
      rw [noB] at q; cases q
    have new0 : X.s_0.heap.get? a = none := by
      cases e : X.s_0.heap.get? a with
      | none => rfl
      | some o =>
        obtain ⟨o1, e1⟩ := J.base.there a o e (by rw [hex]; exact List.not_mem_nil)
        exact absurd rfl (apart a o1 e1 nL nF)
    have pinsA : ∀ p ∈ X.pn ++ pins, p.1 ≠ a := fun p hp => by
      obtain ⟨g1, _, g3, g4, _⟩ := J.pin p hp
      exact apart p.1 p.2 g1 g3 g4
    have JA : Inv X pins σ1 H1 { sa with heap := hA } := J.landed nb flA.1 (up.trans upA) os ag
    have SA := JA.suite heA hdA na nL nF
    refine wpAny_handleBy_cons (codeAny_handlers_test ?_) (fun z => by cases z)
    have LT : PySem.W.Looks (model X.prog X.w) hA (typeOf (.ref a)) cls := fun A Q E s0 k q => wpAny_typeOf_ref (k _ _ heA) (by rw [hzA.1]; exact q)
    have LM := PySem.W.exm_one (M := model X.prog X.w) (JA.kIn) LT kind
    have named : ∀ {Q : Value → Shared → Prop} {E : Value → Shared → Prop}, Q c { sa with heap := hA } → wpAny (model X.prog X.w) (X.A.mark (some (.ref a))) (eval (.Name x np) X.env) Q E { sa with heap := hA } := by
      intro Q E q
      obtain ⟨hg, hdbg, way⟩ := hc
      rcases way with hm | ⟨hm, hv, hnn⟩
      · exact ld_glob (X := X.suite a ((a, oA) :: (X.pn ++ pins))) SA hg hm q hdbg
      · exact ld_blt (X := X.suite a ((a, oA) :: (X.pn ++ pins))) SA hg hm hv q hnn hdbg
    refine named (LM.here ?_)
    cases b with
    | false =>
      refine wpAny_handleBy_nil ?_
      obtain ⟨k1, k2, k3, o3, v3, T, oT, tsl, he, hz, hd, h1, hr⟩ := id flA
      unfold PySem.passOn
      refine wpAny_bind (wpAny_field he hd h1 ?_)
      rw [if_neg (show ¬ ((Value.ref T == Value.none) = true) by simp)]
      have out : wpAny (model X.prog X.w) X.A (setFlight (.ref a) X.env.frame) (fun _ sz => wpAny (model X.prog X.w) X.A (throw (.ref a) : Sem Flow) (SP X pins D) X.xe sz) X.xe { sa with heap := hA } := by
        rw [hf]
        refine HandSPX.setFlight_upZ flA fun hB held upB => wpAny_throw (tk _ _ ?_)
        exact ⟨a, B, sI, pins, σ1, H1, cls, d, rfl, J, nb, (up.trans upA).trans upB, .inr (.inr (by rw [hs]; exact held)), na, os, ag, no rfl⟩
      first
        | exact wpAny_bind (wpAny_pure (wpAny_bind out))
        | exact wpAny_bind out
    | true =>
      refine codeAny_handlers_suite_as (HandSPX.lands_againZ flA fun hB flB upB => ?_)
      have JB : Inv X pins σ1 H1 { sa with heap := hB } := J.landed nb flB.1 ((up.trans upA).trans upB) os ag
      obtain ⟨oB, vB, heB, hzB, hdB⟩ := flB.there
      refine store_ok (X := X.suite a ((a, oB) :: (X.pn ++ pins))) (v := .ref a) (JB.suite heB hdB na nL nF) hN hi at_ rfl (fun sc SC => ?_) (.inr hln)
      refine wpAny_mono ((hsu a oB cls d (X.pn ++ pins) hzB ⟨_, hdB⟩).run [] sc _ H1 _ SC (yes rfl a oB na hzB ⟨_, hdB⟩)) (fun fl sd hsp => ?_) (fun _ _ z => False.elim z)
      match fl, hsp with
      | .next, ⟨σ2, H2, SD, q⟩ =>
        have pa := SD.pin (a, oB) (by simp)
        have held : Inv X ((a, oB) :: pins) σ2 H2 sd := by
          have U := SD.unsuite ok
          exact ⟨U.ok, U.os, U.bare, U.base, U.loc, U.cell, U.free, U.freeC, fun p hp => by
            rcases List.mem_append.mp hp with hp | hp
            · exact U.pin p (List.mem_append_left _ hp)
            · rcases List.mem_cons.mp hp with rfl | hp
              · exact pa
              · exact U.pin p (List.mem_append_right _ hp), U.hok, U.len⟩
        exact gone_ok held hN hi hln fun se JE => ⟨_, _, track JE new0 pinsA hzB ⟨_, hdB⟩, q pa.2.1⟩
      | .brk, ⟨_, _, _, q⟩ => exact q.elim
      | .cont, ⟨_, _, _, q⟩ => exact q.elim
      | .ret u, ⟨_, _, _, _, _, q⟩ => exact q.elim
end
end DLkeep
namespace DL
open PySem PySem.Spec PyProof.Rows L2 HotX
/-- the refusal's class told, the name of the clause gone -/
def wTryK (L : ExL) (y : Str) (i j : Nat) (tb : WS) (ts : Addr → Str → WS) : WS := fun env M DD => tb env M { DD with ex := fun x env1 M1 => ∃ b : Bool, mtE L y x.cls = some b ∧
  if b = true then (x.arg = none ∧ ∀ ad : Addr, ts ad x.cls (env1.set i (some (.ref ad))) M1 { nx := fun e m => e[j]? = some (some (.ref ad)) ∧ DD.nx ((e.set j (some (.exc x.cls))).set i none) m, rt := fun _ _ => False, bk := fun _ _ => False, ct := fun _ _ => False, ex := fun _ _ _ => False }) else DD.ex x env1 M1 }
section
variable {X : Cx} {W : WX} {L : ExL} {y n : Str} {i j : Nat} {body suite : List Stmt} {s0 : Stmt} {np pos pos' : Pos} {tb : WS} {ts : Addr → Str → WS}
theorem RelE.swap {K : PySem.W.Frag} {H : Hp} {μ : Mu} {σ : L2.St} {env : En} {v : V} {d : D} (r : RelE K H μ σ env) {j : Nat} (hv : ∀ v', σ[j]? = some (some v') → v' = v) (hs : ∃ v', σ[j]? = some (some v')) (rv : Rep K H μ v d) : RelE K H μ σ (env.set j (some d)) := by
  refine ⟨by simp [r.len], fun k e h => ?_⟩
  rcases set_get h with ⟨rfl, q, hl⟩ | ⟨hj, h⟩
  · cases q
    obtain ⟨v', e1⟩ := hs
    exact ⟨v', e1, by rw [hv v' e1]; exact rv⟩
  · exact r.at_ k e h
theorem ds_tryK (hx : exOk L X.K = true) (hy : y ∈ L.A) (hs : X.stack = X.env :: X.outer) (hf : X.env.frame = some X.env.locals) (hex : X.ex = []) (hN : X.N.Nodup) (hi : X.N[i]? = some n) (hln : X.env.kindOf n = some .local) (hc : Names X y (.ref (He.ga X.K y))) (tk : L2N.Takes X W)
    (hb : ∀ (W : WX) (pn : List (Addr × Obj)) (xe : Value → Shared → Prop), L2N.Takes (X.tr pn xe) W → PassesOwn (model X.prog X.w) X.A X.env xe → DB (X.tr pn xe) W body tb)
    (hsu : ∀ (a : Addr) (oe : Obj) (c : Str) (pn : List (Addr × Obj)), ExP X.K L (a, oe) c → L2H.Hot1 (X.suite a ((a, oe) :: pn)).A (a, oe) → DB (X.suite a ((a, oe) :: pn)) W0 (s0 :: suite) (ts a c)) :
    DS X W (.Try body [.ExceptHandler (some (.Name y np)) (some n) (s0 :: suite) pos'] [] [] pos) (wTryK L y i j tb ts) := by
  refine ⟨ps_mono (DLkeep.ps_try_keep (i := i) (tb := fun W => tS X.K W tb) (ts := fun a cls d D σ H => ∃ c, c ∈ L.R ∧ cls = .ref (He.ga X.K c) ∧ d = none ∧ tS X.K W0 (ts a c) D σ H) hs hf hex hN hi hln hc tk (fun W pn xe t p => (hb W pn xe t p).pss) ?_) ?_⟩
  · intro a oe cls d pn hz hfl
    constructor
    rintro pins s σ H D I ⟨c, hcR, rfl, rfl, q⟩
    exact (hsu a oe c pn ⟨hcR, hz, hfl⟩ (hot_suite hz hfl).1).pss.run pins s σ H D I q
  · rintro D σ H ⟨env, μ, M, DD, re, rs, hw, o⟩
    refine ⟨env, μ, M, _, re, rs, hw, { nx := o.nx, rt := o.rt, bk := o.bk, ct := o.ct, ex := ?_ }⟩
    rintro cls a σ1 H1 μ1 x env1 M1 k1 re1 rs1 rx ⟨b, hm, q⟩
    obtain ⟨hcR, rfl⟩ := mt_at hm
    refine ⟨isOf L x.cls y, by rw [rx.1]; exact ((exOk_at hx hcR).2.2 y hy).2, fun hbt ad oe _ hz hfl => ?_, fun hbf => ?_⟩
    · rw [hbt, if_pos rfl] at q
      refine ⟨x.cls, hcR, rx.1, rx.2.1 q.1, env1.set i (some (.ref ad)), μ1, M1, _, re1.set i (.ref ad), rs1, q.2 ad, ?_⟩
      have o1 := o.keep k1
      refine { nx := fun σ2 H2 μ2 e2 M2 k2 r2 s2 q2 fresh => ?_, rt := fun _ _ _ _ _ _ _ _ z => z.elim, bk := fun _ _ _ _ _ _ _ _ z => z.elim, ct := fun _ _ _ _ _ _ _ _ z => z.elim, ex := fun _ _ _ _ _ _ _ _ _ _ _ _ z => z.elim }
      obtain ⟨hj, q2⟩ := q2
      obtain ⟨k3, s3⟩ := s2.lay (o := DLkeep.keptO ad cls none) fresh
      have r3 := r2.keep k3
      have rep : Rep X.K (upd H2 ad (DLkeep.keptO ad cls none)) μ2 (.ref ad) (.exc x.cls) := .exc (by rw [rx.1]; exact upd_same)
      have e1 := rx.2.1 q.1
      subst e1
      obtain ⟨v, hv, rv⟩ := r3.at_ j _ hj
      have ev : v = .ref ad := by cases rv; rfl
      subst ev
      have r4 : RelE X.K (upd H2 ad (DLkeep.keptO ad cls none)) μ2 σ2 (e2.set j (some (.exc x.cls))) := r3.swap (v := .ref ad) (fun v' e => by rw [hv] at e; cases e; rfl) ⟨_, hv⟩ rep
      exact o1.nx _ _ μ2 _ M2 (k2.trans k3) (r4.setN i) s3 q2
    · rw [hbf, if_neg Bool.false_ne_true] at q
      exact o.ex cls a σ1 H1 μ1 x env1 M1 k1 re1 rs1 rx q
end
/-! ### isinstance of a kept refusal -/
def wIsX (L : ExL) (y : Str) (wa : WE) : WE := fun env M Q E => wa env M (fun d M1 => ∃ c, d = .exc c ∧ c ∈ L.R ∧ Q (.bl (isOf L c y)) M1) E
section
variable {X : Cx} {W : WX} {a : Expr} {wa : WE} {L : ExL} {y : Str} {q r pos : Pos}
def rIsX (X : Cx) : List V → Hp → VK → Prop := fun xs H Q => ∃ (ad : Addr) (c : Str) (cv : V) (u : Value) (b : Bool), xs = [.ref ad, cv] ∧ H ad = some (.ext (ExcO X.K ad c)) ∧ excB X.K c = true ∧ ClsV cv u ∧ PySem.W.kitOne X.K (.ref (He.ga X.K c)) u = some b ∧ Q (.bl b) H
theorem call_isX : CallR X (.builtin "isinstance") (rIsX X) := by
  rintro pins s σ H xs us Q I rv ⟨ad, c, cv, u, b, rfl, hH, he, k, hk, hq⟩
  obtain ⟨u1, u2, rfl, r1, r2⟩ := vals2 rv
  have e2 := k.eq r2
  cases (show u1 = Value.ref ad from r1)
  subst e2
  obtain ⟨⟨oe, P, hz, vs, hv⟩, _⟩ := I.hok ad _ hH
  have Z : PySem.W.InstAt s.heap ad oe (He.ga X.K c) none := ⟨P, hz.1, by unfold PySem.W.notCls; rw [hv], by rw [hz.2.1]; trivial⟩
  exact PySem.W.kia_one (kitx_at he ad oe) I.kIn Z hk (by intro z; cases z) fun tk => ⟨.bl b, H, I.tok tk, rfl, hq⟩
theorem exc_rep {K : PySem.W.Frag} {H : Hp} {μ : Mu} {v : V} {c : Str} (r : Rep K H μ v (.exc c)) : ∃ ad, v = .ref ad ∧ H ad = some (.ext (ExcO K ad c)) := by
  cases r with
  | exc h => exact ⟨_, rfl, h⟩
theorem de_isX (hx : exOk L X.K = true) (hg : Gl X "isinstance") (hm : X.mg "isinstance" = none) (hg2 : Gl X y) (hm2 : X.mg y = some (.ref (He.ga X.K y))) (hy : y ∈ L.A) (hd : (y == ("__debug__" : Str)) = false) (ha : DE X W a wa)
    (he : starEach [a, .Name y r] X.env = (false, eval a X.env) :: starEach [.Name y r] X.env := by rfl) :
    DE X W (.Call (.Name "isinstance" q) [a, .Name y r] [] pos) (wIsX L y wa) := by
  have h2 := pa_cons ha.pe (pa_cons (pe_glob hg2 hm2 (show RelV (.ref (He.ga X.K y)) (.ref (He.ga X.K y)) from rfl) hd (pos := r)) pa_nil) he
  refine ⟨pe_mono (pe_callB call_isX hg hm (by decide +kernel) h2 (by decide) (by decide) he (by rfl)) fun σ H Q ⟨env, μ, M, QD, ED, re, rs, hw, hq, hxx⟩ => ?_⟩
  refine ⟨env, μ, M, _, ED, re, rs, hw, fun v H1 μ1 d M1 k1 rs1 r1 ⟨c, ed, hc, q2⟩ => ?_, hxx⟩
  subst ed
  obtain ⟨ad, rfl, hH⟩ := exc_rep r1
  obtain ⟨e1, e2, e3⟩ := exOk_at hx hc
  exact ⟨ad, c, .ref (He.ga X.K y), .ref (He.ga X.K y), _, rfl, hH, e1, .own _, (e3 y hy).1, hq _ H1 μ1 _ M1 k1 rs1 (.bl _) q2⟩
theorem de_isVX (hx : exOk L X.K = true) (hg : Gl X "isinstance") (hm : X.mg "isinstance" = none) (hg2 : Gl X "ValueError") (hm2 : X.mg "ValueError" = none) (ha : DE X W a wa)
    (he : starEach [a, .Name "ValueError" r] X.env = (false, eval a X.env) :: starEach [.Name "ValueError" r] X.env := by rfl) :
    DE X W (.Call (.Name "isinstance" q) [a, .Name "ValueError" r] [] pos) (wIsX L "ValueError" wa) := by
  have hb : bootBuiltins "ValueError" = some (.type "ValueError") := by decide +kernel
  have h2 := pa_cons ha.pe (pa_cons (pe_bltn hg2 hm2 hb (show RelV (.ty "ValueError") (.type "ValueError") from rfl) (by decide) (by decide) (pos := r)) pa_nil) he
  refine ⟨pe_mono (pe_callB call_isX hg hm (by decide +kernel) h2 (by decide) (by decide) he (by rfl)) fun σ H Q ⟨env, μ, M, QD, ED, re, rs, hw, hq, hxx⟩ => ?_⟩
  refine ⟨env, μ, M, _, ED, re, rs, hw, fun v H1 μ1 d M1 k1 rs1 r1 ⟨c, ed, hc, q2⟩ => ?_, hxx⟩
  subst ed
  obtain ⟨ad, rfl, hH⟩ := exc_rep r1
  obtain ⟨e1, e2, e3⟩ := exOk_at hx hc
  have hi : isOf L c "ValueError" = true := by unfold isOf; simp
  rw [hi] at q2
  exact ⟨ad, c, .ty "ValueError", .type "ValueError", _, rfl, hH, e1, .ty _, e2, hq _ H1 μ1 _ M1 k1 rs1 (.bl _) q2⟩
end
end DL

namespace DL
open PySem PySem.Spec PyProof.Rows L2
/-! ### a text split at a text -/
section
variable {X : Cx} {W : WX} {o a : Expr} {wo wa : WE} {pos apos : Pos}
def wSpl (wo wa : WE) : WFr := fun env M Q E => wo env M (fun d M1 => (∃ x, d = .str x) ∧ wa env M1 (fun e M2 => ∃ x y, d = .str x ∧ e = .str y ∧ (y.length == 0) = false ∧ x.length + 2 ≤ sizeLine ∧ Q ((Txt.split x y).map .str) M2) E) E
theorem strs_rep {K : PySem.W.Frag} {H : Hp} {μ : Mu} (l : List Str) : Reps K H μ (l.map V.str) (l.map D.str) := Reps.map l fun x _ => .str x
theorem df_split (ho : DE X W o wo) (ha : DE X W a wa) (hs : starEach [a] X.env = [(false, eval a X.env)] := by rfl) (hbase : attributeBase o "split" X.env (eval o X.env) = eval o X.env := by rfl) (hline : (apos.endLine == pos.line) = true := by rfl) :
    DF X W (.Call (.Attribute o "split" apos) [a] [] pos) (wSpl wo wa) := by
  refine ⟨pe_mono (pe_splitAny ho.pe ha.pe hs hbase hline) fun σ H Q ⟨env, μ, M, QD, ED, re, rs, hw, hq, hx⟩ => ?_⟩
  refine ⟨env, μ, M, _, ED, re, rs, hw, fun v H1 μ1 d M1 k1 rs1 r1 q1 => ?_, hx⟩
  obtain ⟨⟨x0, ex⟩, q1⟩ := q1
  subst ex
  refine ⟨⟨x0, by cases r1; rfl⟩, env, μ1, M1, _, ED, re.keep k1, rs1, q1, fun u H2 μ2 e M2 k2 rs2 r2 q2 => ?_, hx.keep k1⟩
  obtain ⟨x, y, e1, e2, h1, h2, q⟩ := q2
  cases e1
  subst e2
  refine .inl ⟨x0, y, by cases r1; rfl, by cases r2; rfl, h1, h2, fun p hp => ?_⟩
  exact fin_lst (σ := σ) hq (k1.trans k2) rs2 (strs_rep _) q (p := p) (hp := hp) (hp0 := none_of_keep (k1.trans k2) rs2 hp)
end
end DL

namespace DL
open PySem PySem.Spec PyProof.Rows L2
/-! ### texts of data, width by width -/
theorem Rps.mono {n m w u : Nat} {l : List D} (h : Rps n w l) (h1 : n ≤ m) (h2 : w ≤ u) : Rps m u l := let ⟨p, a, b, c, e⟩ := h; ⟨p, a, b, Nat.le_trans c h1, Nat.le_trans e h2⟩
theorem Rps.mapW {α : Type} {n : Nat} {f : α → D} {g : α → Nat} : ∀ {l : List α}, (∀ x ∈ l, Rp n (g x) (f x)) → Rps n ((l.map fun x => g x + 2).sum) (l.map f)
  | [], _ => Rps.nil n
  | x :: l, h => by
    rw [List.map_cons, List.map_cons, List.sum_cons]
    exact Rps.cons (h x List.mem_cons_self) (Rps.mapW fun y hy => h y (List.mem_cons_of_mem _ hy))
theorem Rp.mapT {α : Type} {n w k : Nat} {f : α → D} {l : List α} (h : ∀ x ∈ l, Rp n w (f x)) (hl : l.length ≤ k) : Rp (n + 1) (4 + k * (w + 2)) (.tup (l.map f)) := by
  refine (Rp.tup (n := n) (w := w) (l := l.map f) fun d hd => ?_).mono (Nat.le_refl _) ?_
  · obtain ⟨x, hx, rfl⟩ := List.mem_map.mp hd
    exact h x hx
  · rw [List.length_map]
    exact Nat.add_le_add_left (Nat.mul_le_mul_right _ hl) 4
theorem Rp.mapL {α : Type} {n w k : Nat} {f : α → D} {l : List α} (h : ∀ x ∈ l, Rp n w (f x)) (hl : l.length ≤ k) : Rp (n + 1) (4 + k * (w + 2)) (.lst (l.map f)) := by
  refine (Rp.lst (n := n) (w := w) (l := l.map f) fun d hd => ?_).mono (Nat.le_refl _) ?_
  · obtain ⟨x, hx, rfl⟩ := List.mem_map.mp hd
    exact h x hx
  · rw [List.length_map]
    exact Nat.add_le_add_left (Nat.mul_le_mul_right _ hl) 4
theorem Rp.small {i : Int} (h : i.natAbs ≤ 1000000) : Rp 1 1921 (.int i) := Rp.int (Sm.mono (m := 20) (by unfold Sm; omega) (by decide))
theorem upR {n m w : Nat} {d : D} (h : Rp n w d) (l : n ≤ m) : Rp m w d := h.mono l (Nat.le_refl _)
theorem upW {n w u : Nat} {d : D} (h : Rp n w d) (l : w ≤ u) : Rp n u d := h.mono (Nat.le_refl _) l
theorem map_sum_add {α : Type} (f g : α → Nat) (l : List α) : (l.map fun x => f x + g x).sum = (l.map f).sum + (l.map g).sum := by
  induction l with
  | nil => rfl
  | cons a l ih => simp only [List.map_cons, List.sum_cons, ih]; omega
theorem map_sum_const {α : Type} (c : Nat) (l : List α) : (l.map fun _ => c).sum = l.length * c := by
  induction l with
  | nil => simp
  | cons a l ih => simp only [List.map_cons, List.sum_cons, List.length_cons, ih, Nat.add_mul]; omega
theorem map_sum_mul {α : Type} (f : α → Nat) (c : Nat) (l : List α) : (l.map fun x => f x * c).sum = (l.map f).sum * c := by
  induction l with
  | nil => simp
  | cons a l ih => simp only [List.map_cons, List.sum_cons, ih, Nat.add_mul]
/-- a branch that does nothing: told apart for the kernel's sake -/
theorem next_ {env : En} {M : Me} {DD : EndD} (h : DD.nx env M) : wNext env M DD := h
theorem cut_in (l : List D) (a b : Nat) (hb : b ≤ l.length) (ha : a ≤ b) : cutD l (some (a : Int)) (some (b : Int)) = (l.drop a).take (b - a) := by
  unfold cutD
  rw [HT.sIx_nat, HT.sIx_nat, Nat.min_eq_left (Nat.le_trans ha hb), Nat.min_eq_left hb]
/-- a slice that goes beyond the end -/
theorem cut_over (l : List D) (a b : Nat) (ha : a ≤ l.length) (hb : l.length ≤ b) : cutD l (some (a : Int)) (some (b : Int)) = l.drop a := by
  unfold cutD
  rw [HT.sIx_nat, HT.sIx_nat, Nat.min_eq_left ha, Nat.min_eq_right hb]
  exact List.take_of_length_le (by rw [List.length_drop]; omega)
end DL

namespace DL
open PySem PySem.Spec PyProof.Rows L2
/-! ### truths as whole numbers -/
def bI (b : Bool) : Int := if b = true then (1 : Int) else 0
def fIB (C : Int → Int → Prop) (g : Int → Int → D) : F2
  | .int i, .int j, M, Q => C i j ∧ Q (g i j) M
  | .bl b, .int j, M, Q => Q (g (bI b) j) M
  | .int i, .bl b, M, Q => Q (g i (bI b)) M
  | _, _, _, _ => False
def rIB (C : Int → Int → Prop) (g : Int → Int → V) : R2 := fun x y H Q => (rI C g) x y H Q ∨ (∃ (b : Bool) (j : Int), x = .bl b ∧ y = .int j ∧ Q (g (bI b) j) H) ∨ ∃ (i : Int) (b : Bool), x = .int i ∧ y = .bl b ∧ Q (g i (bI b)) H
section
variable {X : Cx} {W : WX} {a b : Expr} {wa wb : WE} {wr : WA} {K : PySem.W.Frag} {p pos : Pos}
theorem op_bl {f : Value → Value → Sem Value} {C : Int → Int → Prop} {g : Int → Int → Int} (h : OpR X f (rI C fun i j => .int (g i j)))
    (h1 : ∀ (a : Bool) (j : Int) (u : Tok) (s : Shared) (Q E : Value → Shared → Prop), Q (.int (g (bI a) j) s.toks) { s with toks := s.toks + 1 } → wpAny (model X.prog X.w) X.A (f (.bool a) (.int j u)) Q E s)
    (h2 : ∀ (i : Int) (t : Tok) (b : Bool) (s : Shared) (Q E : Value → Shared → Prop), Q (.int (g i (bI b)) s.toks) { s with toks := s.toks + 1 } → wpAny (model X.prog X.w) X.A (f (.int i t) (.bool b)) Q E s) : OpR X f (rIB C fun i j => .int (g i j)) := by
  intro pins s σ H x y v u Q I rx ry q
  rcases q with q | ⟨b, j, rfl, rfl, q⟩ | ⟨i, b, rfl, rfl, q⟩
  · exact h pins s σ H x y v u Q I rx ry q
  · cases (show v = Value.bool b from rx)
    obtain ⟨t, rfl⟩ := ry
    exact h1 b j t s _ _ ⟨.int _, H, I.tok _, ⟨_, rfl⟩, q⟩
  · cases (show u = Value.bool b from ry)
    obtain ⟨t, rfl⟩ := rx
    exact h2 i t b s _ _ ⟨.int _, H, I.tok _, ⟨_, rfl⟩, q⟩
theorem ok_IB {C : Int → Int → Prop} {g : Int → Int → D} {gv : Int → Int → V} (hg : ∀ i j H μ, Rep K H μ (gv i j) (g i j)) : OkR K (rIB C gv) (fIB C g) := fun x y d e H μ M QD Q rs rx ry h hq => by
  cases d with
  | int i =>
    cases e with
    | int j =>
      cases rx; cases ry
      exact .inl ⟨i, j, rfl, rfl, h.1, hq _ H μ _ M rs.refl rs (hg i j H μ) h.2⟩
    | bl b =>
      cases rx; cases ry
      exact .inr (.inr ⟨i, b, rfl, rfl, hq _ H μ _ M rs.refl rs (hg _ _ H μ) h⟩)
    | _ => exact h.elim
  | bl b =>
    cases e with
    | int j =>
      cases rx; cases ry
      exact .inr (.inl ⟨b, j, rfl, rfl, hq _ H μ _ M rs.refl rs (hg _ _ H μ) h⟩)
    | _ => exact h.elim
  | _ => exact h.elim
abbrev fSubB : F2 := fIB (fun _ _ => True) fun i j => .int (i - j)
abbrev fMulB : F2 := fIB IntMulOk fun i j => .int (i * j)
abbrev fAddI : F2 := fIB (fun _ _ => True) fun i j => .int (i + j)
theorem de_subB (ha : DE X W a wa) (hb : DE X W b wb) : DE X W (.BinOp a .Sub b pos) (wBin fSubB wa wb) :=
  de_bin (op_bl (g := fun i j => i - j) (opI0_I op_sub) (fun _ _ _ _ _ _ h => IntBool.sub_bool_int h) fun _ _ _ _ _ _ h => IntBool.sub_int_bool h) (ok_IB fun _ _ _ _ => .int _) ha hb
theorem de_mulB (ha : DE X W a wa) (hb : DE X W b wb) : DE X W (.BinOp a .Mult b pos) (wBin fMulB wa wb) :=
  de_bin (op_bl (g := fun i j => i * j) o_mul (fun _ _ _ _ _ _ h => IntBool.mul_bool_int h) fun _ _ _ _ _ _ h => IntBool.mul_int_bool h) (ok_IB fun _ _ _ _ => .int _) ha hb
/-- + : whole numbers, truths, texts, tuples -/
def fAddB : F2
  | .bl b, .int j, M, Q => Q (.int (bI b + j)) M
  | x, y, M, Q => fAdd x y M Q
theorem ok_addB : OkR K (fun x y H Q => (fun x y H Q => (rI0 fun i j => .int (i + j)) x y H Q ∨ (∃ i j, x = .str i ∧ y = .str j ∧ i.length + j.length ≤ sizeLine ∧ Q (.str (i ++ j)) H) ∨ rCatA K x y H Q) x y H Q ∨ (∃ (b : Bool) (j : Int), x = .bl b ∧ y = .int j ∧ Q (.int (bI b + j)) H)) fAddB := fun x y d e H μ M QD Q rs rx ry h hq => by
  unfold fAddB at h
  split at h
  · cases rx; cases ry
    exact .inr ⟨_, _, rfl, rfl, hq _ H μ _ M rs.refl rs (.int _) h⟩
  · exact .inl (ok_add _ _ _ _ _ _ _ _ _ rs rx ry h hq)
theorem op_addB : OpR X (binaryOp .Add) (fun x y H Q => ∃ (b : Bool) (j : Int), x = .bl b ∧ y = .int j ∧ Q (.int (bI b + j)) H) := by
  rintro pins s σ H x y v u Q I rx ry ⟨b, j, rfl, rfl, q⟩
  cases (show v = Value.bool b from rx)
  obtain ⟨t, rfl⟩ := ry
  exact IntBool.add_bool_int ⟨.int _, H, I.tok _, ⟨_, rfl⟩, q⟩
theorem de_addB (ha : DE X W a wa) (hb : DE X W b wb) : DE X W (.BinOp a .Add b pos) (wBin fAddB wa wb) := de_bin ((op_add.or (op_add_str.or op_catA)).or op_addB) ok_addB ha hb
theorem int_gt_bool (a : Bool) (b : Int) (u : Tok) : Gives (Builtin.«int.__gt__» ⟨[.bool a, .int b u], []⟩) (.val (Value.bool ((fun x1 x2 => decide (x2 < x1)) (if a = true then (1 : Int) else 0) b))) :=
  .of_wp fun M A E s Q h => by obtain ⟨hp, g, d, tk, os⟩ := s; wp_walk; exact ⟨_, rfl, h⟩
def fGtB : F2 := fIB (fun _ _ => True) fun i j => .bl (decide (j < i))
theorem op_gtB : OpR X (compareOp .Gt) (fun x y H Q => ∃ (b : Bool) (j : Int), x = .bl b ∧ y = .int j ∧ Q (.bl (decide (j < bI b))) H) := by
  rintro pins s σ H x y v u Q I rx ry ⟨b, j, rfl, rfl, q⟩
  cases (show v = Value.bool b from rx)
  obtain ⟨t, rfl⟩ := ry
  show wpAny _ _ (richCompare .Gt _ _) _ _ _
  exact SeqAt.rc_left_or rfl (typeIs_int s j t) (by decide) F.sub_int_bool F.slot_bool_gt (call_gives F.slot_bool_gt rfl F.entry_int_gt (F.args_int_gt_2 _ _) (int_gt_bool b j t) ⟨nofun, .bl _, H, I, rfl, q⟩) (.inl rfl)
def fGtL : F2
  | .int i, .int j, M, Q => Q (.bl (decide (j < i))) M
  | .bl b, .int j, M, Q => Q (.bl (decide (j < bI b))) M
  | _, _, _, _ => False
theorem ok_gtL : OkR K (fun x y H Q => (rI (fun _ _ => True) fun i j => .bl (decide (j < i))) x y H Q ∨ (∃ (b : Bool) (j : Int), x = .bl b ∧ y = .int j ∧ Q (.bl (decide (j < bI b))) H)) fGtL := fun x y d e H μ M QD Q rs rx ry h hq => by
  unfold fGtL at h
  split at h
  · cases rx; cases ry
    exact .inl ⟨_, _, rfl, rfl, trivial, hq _ H μ _ M rs.refl rs (.bl _) h⟩
  · cases rx; cases ry
    exact .inr ⟨_, _, rfl, rfl, hq _ H μ _ M rs.refl rs (.bl _) h⟩
  · exact h.elim
theorem de_gtB (ha : DE X W a wa) (hb : DE X W b wb) : DE X W (.Compare a [.Gt] [b] pos) (wBin fGtL wa wb) := de_cmp (o_gt.or op_gtB) ok_gtL ha hb (nomark _)
def fStrB : FC := fun ds M Q => match ds with
  | [.int i] => i.natAbs.log2 < 1920 ∧ Q (.str (toString i)) M
  | [.bl b] => Q (.str (if b then "True" else "False")) M
  | _ => False
theorem call_strB : CallR X (.type "str") (fun xs H Q => (∃ i, xs = [.int i] ∧ i.natAbs.log2 < 1920 ∧ Q (.str (toString i)) H) ∨ ∃ b : Bool, xs = [.bl b] ∧ Q (.str (if b then "True" else "False")) H) := by
  intro pins s σ H xs us Q I r h
  rcases h with h | ⟨b, rfl, q⟩
  · exact call_str_int pins s σ H xs us Q I r h
  · obtain ⟨u, rfl, r1⟩ := vals1 r
    cases (show u = Value.bool b from r1)
    exact PySem.P.str_of_bool ⟨.str _, H, I.tok _, ⟨_, rfl⟩, q⟩
theorem ok_strB : OkC K (fun xs H Q => (∃ i, xs = [.int i] ∧ i.natAbs.log2 < 1920 ∧ Q (.str (toString i)) H) ∨ ∃ b : Bool, xs = [.bl b] ∧ Q (.str (if b then "True" else "False")) H) fStrB := fun vs ds H μ M QD Q rs r h hq => by
  unfold fStrB at h
  split at h
  · obtain ⟨v, rfl, r1⟩ := reps1 r
    cases r1
    exact .inl ⟨_, rfl, h.1, hq _ H μ _ M rs.refl rs (.str _) h.2⟩
  · obtain ⟨v, rfl, r1⟩ := reps1 r
    cases r1
    exact .inr ⟨_, rfl, hq _ H μ _ M rs.refl rs (.str _) h⟩
  · exact h.elim
theorem bi_strB (hg : Gl X "str") (hm : X.mg "str" = none) (ha : DA X W [a] wr) (he : starEach [a] X.env = (false, eval a X.env) :: starEach [] X.env := by rfl) : DE X W (.Call (.Name "str" p) [a] [] pos) (wCB fStrB wr) :=
  de_btp call_strB ok_strB hg hm (by decide +kernel) ha (by decide) (by decide) he (by rfl)
end
/-! ### isinstance of a kept refusal, several classes -/
def tCs : List V → TA
  | [] => tNil
  | v :: vs => tCons (tC v) (tCs vs)
theorem tCs_at {σ : L2.St} : ∀ (vs : List V) {H : Hp} {Q : List V → Hp → Prop}, Q vs H → tCs vs σ H Q
  | [], _, _, q => q
  | v :: vs, H, Q, q => tCs_at vs (Q := fun xs H2 => Q (v :: xs) H2) q
def wIsXT (L : ExL) (ys : List Str) (wa : WE) : WE := fun env M Q E => wa env M (fun d M1 => ∃ c, d = .exc c ∧ c ∈ L.R ∧ Q (.bl (ys.any fun y => isOf L c y)) M1) E
def rIsXT (X : Cx) : List V → Hp → VK → Prop := fun xs H Q => ∃ (ad tp : Addr) (c : Str) (cs : List V) (us : List Value) (b : Bool), xs = [.ref ad, .ref tp] ∧ H ad = some (.ext (ExcO X.K ad c)) ∧ excB X.K c = true ∧ H tp = some (.tup cs) ∧ Paired ClsV cs us ∧ PySem.W.kitAny X.K (.ref (He.ga X.K c)) us = some b ∧ Q (.bl b) H
section
variable {X : Cx} {W : WX} {a : Expr} {es : List Expr} {wa : WE} {L : ExL} {ys : List Str} {q tpos pos : Pos}
theorem call_isXT : CallR X (.builtin "isinstance") (rIsXT X) := by
  rintro pins s σ H xs us Q I rv ⟨ad, tp, c, cs, ws, b, rfl, hH, he, hT, k, e, hq⟩
  obtain ⟨u1, u2, rfl, r1, r2⟩ := vals2 rv
  cases (show u1 = Value.ref ad from r1)
  cases (show u2 = Value.ref tp from r2)
  obtain ⟨⟨oe, P, hz, vs, hv⟩, _⟩ := I.hok ad _ hH
  have Z : PySem.W.InstAt s.heap ad oe (He.ga X.K c) none := ⟨P, hz.1, by unfold PySem.W.notCls; rw [hv], by rw [hz.2.1]; trivial⟩
  obtain ⟨_, its, rv2, o, h1, h2, n, h3⟩ := (show ObjOk X.prog X.w H s.heap tp (.tup cs) from I.hok tp _ hT)
  have e3 := ClsV.all k rv2
  subst e3
  obtain ⟨oc, od, dt, sl⟩ := o
  simp only at h2 h3
  subst h2 h3
  exact PySem.W.kia_tup (kitx_at he ad oe) I.kIn Z h1 e (by intro z; cases z) fun tk => ⟨.bl b, H, I.tok tk, rfl, hq⟩
theorem kitAny_at {K : PySem.W.Frag} {c : Str} (hc : exOk L K = true) (hcR : c ∈ L.R) : ∀ {ys : List Str}, (∀ y ∈ ys, y ∈ L.A) → PySem.W.kitAny K (.ref (He.ga K c)) (ys.map fun y => .ref (He.ga K y)) = some (ys.any fun y => isOf L c y)
  | [], _ => rfl
  | y :: ys, h => by
    have e := (exOk_at hc hcR).2.2 y (h y List.mem_cons_self)
    have ih := kitAny_at (K := K) (c := c) hc hcR (ys := ys) fun z hz => h z (List.mem_cons_of_mem _ hz)
    refine kitAny_cons e.1 (fun z => ?_) fun z => ?_
    · rw [List.any_cons, z, Bool.false_or]; exact ih
    · rw [List.any_cons, z, Bool.true_or]
theorem cls_paired {K : PySem.W.Frag} : ∀ ys : List Str, Paired ClsV (ys.map fun y => V.ref (He.ga K y)) (ys.map fun y => Value.ref (He.ga K y))
  | [] => .nil
  | y :: ys => .cons (.own _) (cls_paired ys)
theorem de_isXT {kk : Nat} (hx : exOk L X.K = true) (hg : Gl X "isinstance") (hm : X.mg "isinstance" = none) (hes : PA X es (tCs (ys.map fun y => .ref (He.ga X.K y)))) (hy : ∀ y ∈ ys, y ∈ L.A) (hl : ys.length ≤ 100) (ha : DE X W a wa)
    (he : starEach [a, .Tuple es kk tpos] X.env = (false, eval a X.env) :: starEach [.Tuple es kk tpos] X.env := by rfl)
    (he2 : starEach [.Tuple es kk tpos] X.env = (false, eval (.Tuple es kk tpos) X.env) :: starEach [] X.env := by rfl)
    (hpl : (backTo pos (starEach [.Tuple es kk tpos] X.env)).any (·.1) = false := by rfl) :
    DE X W (.Call (.Name "isinstance" q) [a, .Tuple es kk tpos] [] pos) (wIsXT L ys wa) := by
  have h2 := pa_cons ha.pe (pa_cons (pe_tup (pos := tpos) (x1 := kk) hes) pa_nil he2) he
  refine ⟨pe_mono (pe_callB call_isXT hg hm (by decide +kernel) h2 (by decide) (by decide) he hpl) fun σ H Q ⟨env, μ, M, QD, ED, re, rs, hw, hq, hxx⟩ => ?_⟩
  refine ⟨env, μ, M, _, ED, re, rs, hw, fun v H1 μ1 d M1 k1 rs1 r1 ⟨c, ed, hc, q2⟩ => ?_, hxx⟩
  subst ed
  obtain ⟨ad, rfl, hH⟩ := exc_rep r1
  obtain ⟨e1, e2, e3⟩ := exOk_at hx hc
  refine tCs_at _ ?_
  refine ⟨by rw [List.length_map]; exact Nat.le_trans hl (by decide), fun p hp => ?_⟩
  obtain ⟨k2, rs2⟩ := rs1.lay (o := .tup (ys.map fun y => .ref (He.ga X.K y))) hp
  have ne : ad ≠ p := fun z => by rw [z, hp] at hH; cases hH
  exact ⟨ad, p, c, _, _, _, rfl, by rw [upd_ne ne]; exact hH, e1, upd_same, cls_paired ys, kitAny_at hx hc hy, hq _ _ _ _ M1 (k1.trans k2) rs2 (.bl _) q2⟩
end
/-! ### a tuple beside the empty one -/
def fNeNil : F2
  | .tup xs, .tup [], M, Q => Q (.bl (!xs.isEmpty)) M
  | .lst xs, .lst [], M, Q => Q (.bl (!xs.isEmpty)) M
  | _, _, _, _ => False
def rNeNil (K : PySem.W.Frag) : R2 := fun x y H Q => ∃ (a b : Addr) (xs : List V), x = .ref a ∧ y = .ref b ∧ SqT K H a xs ∧ SqT K H b [] ∧ Q (.bl (!xs.isEmpty)) H
section
variable {X : Cx} {W : WX} {a b : Expr} {wa wb : WE} {K : PySem.W.Frag} {pos : Pos}
theorem emp_eq {xs : List V} {its : List Value} (r : Vals xs its) : (!(its.toArray.size == ([] : List Value).toArray.size)) = !xs.isEmpty := by
  cases r <;> rfl
theorem op_neNil (hu : X.A.units + 64 < cLine) : OpR X (compareOp .NotEq) (rNeNil X.K) := by
  rintro pins s σ H x y v u Q I rx ry ⟨a, b, xs, rfl, rfl, ha, hb, q⟩
  cases (show v = Value.ref a from rx)
  cases (show u = Value.ref b from ry)
  obtain ⟨its, rv, isT, _⟩ := I.tuple ha
  obtain ⟨its2, rv2, isT2, _⟩ := I.tuple hb
  cases rv2
  have e := emp_eq rv
  refine SeqAt.RcNeAt.tuples (e := fun _ => true) isT isT2 (Nat.lt_of_le_of_lt (Nat.le_add_right _ 64) hu) (fun j h1 h2 => absurd h2 (Nat.not_lt_zero j)) _ _ _ _ ?_
  have e2 : (!((List.range (min its.toArray.size ([] : List Value).toArray.size)).all (fun _ => true) && its.toArray.size == ([] : List Value).toArray.size)) = !xs.isEmpty := by
    rw [← e, show min its.toArray.size ([] : List Value).toArray.size = 0 from Nat.min_zero _]
    rfl
  rw [e2]
  exact ⟨.bl _, H, I, rfl, q⟩
def rNeNilL (K : PySem.W.Frag) : R2 := fun x y H Q => ∃ (a b : Addr) (xs : List V), x = .ref a ∧ y = .ref b ∧ SqL K H a xs ∧ SqL K H b [] ∧ Q (.bl (!xs.isEmpty)) H
theorem op_neNilL (hu : X.A.units + 64 < cLine) : OpR X (compareOp .NotEq) (rNeNilL X.K) := by
  rintro pins s σ H x y v u Q I rx ry ⟨a, b, xs, rfl, rfl, ha, hb, q⟩
  cases (show v = Value.ref a from rx)
  cases (show u = Value.ref b from ry)
  obtain ⟨its, rv, isT, _⟩ := I.list ha
  obtain ⟨its2, rv2, isT2, _⟩ := I.list hb
  cases rv2
  have hu2 : X.A.units < cLine := Nat.lt_of_le_of_lt (Nat.le_add_right _ 64) hu
  cases rv with
  | nil =>
    refine SeqAt.RcNeAt.lists (e := fun _ => true) isT.isList isT2.isList rfl hu2 (fun j h1 h2 => absurd h2 (Nat.not_lt_zero j)) _ _ _ _ ?_
    exact ⟨.bl _, H, I, rfl, q⟩
  | cons r rr =>
    refine SeqAt.RcNeAt.lists_lengths isT.isList isT2.isList (by simp) hu2 _ _ _ _ ?_
    exact ⟨.bl _, H, I, rfl, q⟩
theorem ok_neNil : OkR K (fun x y H Q => rNeNil K x y H Q ∨ rNeNilL K x y H Q) fNeNil := fun x y d e H μ M QD Q rs rx ry h hq => by
  unfold fNeNil at h
  split at h
  · obtain ⟨a, vs, rfl, h1, r1⟩ := rx.tup_
    obtain ⟨b, ws, rfl, h2, r2⟩ := ry.tup_
    cases (r2.nil_iff).mpr rfl
    exact .inl ⟨a, b, vs, rfl, rfl, h1, h2, hq _ H μ _ M rs.refl rs (.bl _) (by cases r1 <;> exact h)⟩
  · cases rx with
    | lst h1 _ _ r1 =>
      cases ry with
      | lst h2 _ _ r2 =>
        cases (r2.nil_iff).mpr rfl
        exact .inr ⟨_, _, _, rfl, rfl, .of h1, .of h2, hq _ H μ _ M rs.refl rs (.bl _) (by cases r1 <;> exact h)⟩
  · exact h.elim
theorem de_neNil (hu : X.A.units + 64 < cLine) (ha : DE X W a wa) (hb : DE X W b wb) : DE X W (.Compare a [.NotEq] [b] pos) (wBin fNeNil wa wb) := de_cmp ((op_neNil hu).or (op_neNilL hu)) ok_neNil ha hb (nomark _)
theorem dt_neNil (hu : X.A.units + 64 < cLine) (ha : DE X W a wa) (hb : DE X W b wb) : DT X W (.Compare a [.NotEq] [b] pos) (wB (wBin fNeNil wa wb)) := dt_cmp ((op_neNil hu).or (op_neNilL hu)) ok_neNil ha hb (nomark _)
end
end DL

namespace DL
open PySem PySem.Spec PyProof.Rows L2
/-! ### list.index of plain data -/
theorem room65 {j : Nat} {A : Around} (hr : Room j A) : A.units + 65 < cLine := by have := hr.un; omega
def fIndexD : FM := fun o ds M Q => ∃ (x : D) (ps : List PyData) (p z : PyData) (j : Nat), ds = [x] ∧ pyM M o = some (.list ps) ∧ pyM M x = some p ∧ SeqAt.shaped (.list ps) = true ∧ SeqAt.shaped p = true ∧ ps[j]? = some z ∧ PyData.eqv z p = true ∧ (∀ (m : Nat) (z' : PyData), m < j → ps[m]? = some z' → PyData.eqv z' p = false) ∧ Q (.int (j : Nat)) M
section
variable {X : Cx} {W : WX} {K : PySem.W.Frag}
theorem ok_indexD : OkM K (rIndexD K) fIndexD := fun x vs o ds H μ M QD Q rs rx r h hq => by
  obtain ⟨y, ps, p, z, j, rfl, h1, h2, h3, h4, h5, h6, h7, h8⟩ := h
  obtain ⟨v, rfl, r1⟩ := reps1 r
  have d1 := dpM_of rs rx h1
  have d2 := dpM_of rs r1 h2
  have ex : ∃ a, x = V.ref a := by
    cases d1 with
    | lst _ _ => exact ⟨_, rfl⟩
    | _ => exact ⟨_, rfl⟩
  obtain ⟨a, rfl⟩ := ex
  exact ⟨a, v, p, ps, j, z, rfl, rfl, d1, d2, h3, h4, h5, h6, h7, hq _ H μ _ M rs.refl rs (.int _) h8⟩
theorem de_indexD {o a : Expr} {wo wa : WE} {pos apos : Pos} (hu : X.A.units + 65 < cLine) (ho : DE X W o wo) (ha : DE X W a wa) (hbase : attributeBase o "index" X.env (eval o X.env) = eval o X.env := by rfl)
    (hfew : ((backTo pos (starEach (a :: []) X.env)).all (fun x => !x.1) && (backToKw pos (keywordEach [] X.env)).all (fun x => x.1.isSome)
      && decide ((a :: []).length + ([] : List Keyword).length + (if ([] : List Keyword).isEmpty then 0 else 1) < 30)) = true := by rfl)
    (hline : (apos.endLine == pos.line) = true := by rfl) (hs : starEach (a :: []) X.env = (false, eval a X.env) :: starEach [] X.env := by rfl) :
    DE X W (.Call (.Attribute o "index" apos) [a] [] pos) (wBM fIndexD wo (wCons wa wNil)) := de_bm PySem.F.slot_list_index PySem.F.type_list_index (mt_indexD hu) ok_indexD ho (da_cons ha da_nil hs) hbase hfew hline hs
theorem pyDs_get : ∀ {l : List D} {ps : List PyData} {i : Nat} {d : D}, pyDs l = some ps → l[i]? = some d → ∃ p, ps[i]? = some p ∧ pyD d = some p
  | [], _, _, _, _, h => by simp at h
  | x :: l, ps, i, d, e, h => by
    have e : (pyD x).bind (fun p => (pyDs l).map fun qs => p :: qs) = some ps := e
    obtain ⟨p, e1, e⟩ := Option.bind_eq_some_iff.mp e
    obtain ⟨qs, e2, e⟩ := Option.map_eq_some_iff.mp e
    subst e
    cases i with
    | zero => simp at h; subst h; exact ⟨p, rfl, e1⟩
    | succ i => exact pyDs_get (i := i) e2 (by simpa using h)
theorem pyDs_len : ∀ {l : List D} {ps : List PyData}, pyDs l = some ps → ps.length = l.length
  | [], _, e => by cases e; rfl
  | x :: l, ps, e => by
    have e : (pyD x).bind (fun p => (pyDs l).map fun qs => p :: qs) = some ps := e
    obtain ⟨p, e1, e⟩ := Option.bind_eq_some_iff.mp e
    obtain ⟨qs, e2, e⟩ := Option.map_eq_some_iff.mp e
    subst e
    rw [List.length_cons, List.length_cons, pyDs_len e2]
/-- the first place of a thing among plain data -/
theorem index_noB {n : Nat} {L : List D} {x : D} {j : Nat} {M : Me} {Q : D → Me → Prop} (hL : ∀ d ∈ L, noB n d = true) (hj : L[j]? = some x) (hm : ∀ (m : Nat) (y : D), m < j → L[m]? = some y → y ≠ x) (hn : n + 1 ≤ 60) (q : Q (.int (j : Nat)) M) : fIndexD (.lst L) [x] M Q := by
  have hl : noB (n + 1) (.lst L) = true := by
    simp only [noB]
    have : ∀ l : List D, (∀ d ∈ l, noB n d = true) → noBs n l = true := fun l => by
      induction l with
      | nil => intro _; simp [noBs]
      | cons d l ih =>
        intro h
        simp only [noBs, Bool.and_eq_true]
        exact ⟨h d (by simp), ih fun y hy => h y (by simp [hy])⟩
    exact this L hL
  have hx := hL x (List.mem_of_getElem? hj)
  obtain ⟨pl, e1, c1, d1, _⟩ := dep_py (noB_dep hl)
  obtain ⟨p, e2, c2, d2, v2⟩ := dep_py (noB_dep hx)
  obtain ⟨ps, e3, rfl⟩ : ∃ ps, pyDs L = some ps ∧ pl = .list ps := by
    have e1 : (pyDs L).map PyData.list = some pl := e1
    obtain ⟨ps, e3, e4⟩ := Option.map_eq_some_iff.mp e1
    exact ⟨ps, e3, e4.symm⟩
  obtain ⟨z, g1, g2⟩ := pyDs_get e3 hj
  rw [e2] at g2
  cases g2
  refine ⟨x, ps, p, p, j, rfl, pyM_py e1, pyM_py e2, shaped_of c1 d1 (by omega), shaped_of c2 d2 (by omega), g1, v2, fun m z' hm' hz => ?_, q⟩
  have lt : m < L.length := by
    have := (List.getElem?_eq_some_iff.mp hz).1
    rw [pyDs_len e3] at this
    exact this
  have gm : L[m]? = some L[m] := List.getElem?_eq_getElem lt
  obtain ⟨y, k1, k2⟩ := pyDs_get e3 gm
  rw [hz] at k1
  cases k1
  have ne := hm m _ hm' gm
  have iff := eqv_iff (hL _ (List.mem_of_getElem? gm)) hx k2 e2
  cases e : PyData.eqv z' p with
  | false => rfl
  | true => exact absurd (iff.mp e) ne
end
end DL

namespace DL
open PySem PySem.Spec PyProof.Rows L2
/-! ## defs as values -/
def fnA (mg : Str → Option Value) (x : Str) : Addr := match mg x with
  | some (.ref a) => a
  | _ => 0
theorem fnA_at {mg : Str → Option Value} {x : Str} {f : Addr} (h : mg x = some (.ref f)) : fnA mg x = f := by unfold fnA; rw [h]
section
variable {X : Cx} {CX : CXT} {E : L2.St → XK} {pos : Pos} {e fe : Expr} {es : List Expr} {t : TA} {tf : TE}
def tCallV (fs : List (Addr × Sp)) (E : L2.St → XK) (tf : TE) (t : TA) : TE := fun σ H Q => tf σ H fun y H1 => ∃ o ∈ fs, y = .ref o.1 ∧ t σ H1 fun vs H2 => o.2 vs H2 Q (E σ)
/-- a value of these defs is called -/
theorem pe_callV {fs : List (Addr × Sp)} (hf : PE X fe tf) (F : ∀ o ∈ fs, ∃ (k : Nat) (fd : FuncData) (ps : List Str), FnOk X.prog X.w X.K X.mg X.base CX k o.1 fd ps o.2 ∧ Room k X.A ∧ PySem.W.keepIn X.K (.ref o.1) = true ∧ Binds X.K fd ps [])
    (hx : ∀ σ, PassesAt CX X σ (E σ)) (ha : PA X (e :: es) t)
    (ht : eval (.Call fe (e :: es) [] pos) X.env = (do callWith pos (← eval fe X.env) [] (backTo pos (starEach (e :: es) X.env)) (backToKw pos (keywordEach [] X.env))) := by rfl)
    (he : starEach (e :: es) X.env = (false, eval e X.env) :: starEach es X.env := by rfl) (hpl : (backTo pos (starEach es X.env)).any (·.1) = false := by rfl) :
    PE X (.Call fe (e :: es) [] pos) (tCallV fs E tf t) := by
  refine ⟨fun pins s σ H Q I h => ?_⟩
  refine Call_ (thn (hf.run pins s σ H _ I h) fun u s1 ⟨y, H1, I1, ry, o, ho, ey, q⟩ => ?_) ht
  subst ey
  obtain rfl : u = Value.ref o.1 := ry
  obtain ⟨k, fd, ps, F1, hr1, hk1, hb1⟩ := F o ho
  refine PySem.W.callWith_K (h₀ := X.base) I1.ok.mod.kin hk1 (thn (ha.run pos pins s1 σ H1 _ I1 q) fun us s2 ⟨vs, H2, I2, r, q2⟩ => ⟨I2.kIn, ?_⟩) he hpl
  exact run_fnS F1 hr1 hb1 (hx σ) I2 r q2
end
section
variable {X : Cx} {W : WX} {pos p : Pos} {e fe : Expr} {es : List Expr} {wf : WE} {wr : WA}
abbrev Opt := Addr × Nat × WF
def OptOk (X : Cx) (j : Nat) (o : Opt) : Prop := ∃ (x : Str) (k : Nat), k ≤ j ∧ DCal X.prog X.w X.K X.mg X.base k x o.2.1 o.2.2 ∧ o.1 = fnA X.mg x
def OptsOk (X : Cx) (j : Nat) (os : List Opt) : Prop := ∀ o ∈ os, OptOk X j o
theorem opts_nil {j : Nat} : OptsOk X j [] := fun _ h => by cases h
theorem opts_cons {j k n : Nat} {x : Str} {s : WF} {os : List Opt} (c : DCal X.prog X.w X.K X.mg X.base k x n s) (hk : k ≤ j) (t : OptsOk X j os) : OptsOk X j ((fnA X.mg x, n, s) :: os) := fun o h => by
  rcases List.mem_cons.mp h with rfl | h
  · exact ⟨x, k, hk, c, rfl⟩
  · exact t o h
def wCallV (os : List Opt) (wf : WE) (wr : WA) : WE := fun env M Q E => wf env M (fun d M1 => ∃ o ∈ os, d = .ref o.1 ∧ wr env M1 (fun ds M2 => ds.length = o.2.1 ∧ o.2.2 ds M2 Q E) E) E
theorem de_fnv {x : Str} {k n : Nat} {s : WF} (c : DCal X.prog X.w X.K X.mg X.base k x n s) (hg : Gl X x) (hd : (x == ("__debug__" : Str)) = false) : DE X W (.Name x p) (wC (.ref (fnA X.mg x))) := by
  obtain ⟨f, fd, ps, hm, _⟩ := c
  rw [fnA_at hm]
  refine ⟨pe_mono (pe_glob (v := .ref f) hg hm rfl hd) fun σ H Q ⟨env, μ, M, QD, ED, re, rs, hw, hq, hx⟩ => ?_⟩
  exact hq _ H μ _ M rs.refl rs (.ref f) hw
theorem de_callV {j : Nat} {os : List Opt} (hos : OptsOk X j os) (hr : Room j X.A) (tk : L2N.Takes X W) (hf : DE X W fe wf) (ha : DA X W (e :: es) wr)
    (ht : eval (.Call fe (e :: es) [] pos) X.env = (do callWith pos (← eval fe X.env) [] (backTo pos (starEach (e :: es) X.env)) (backToKw pos (keywordEach [] X.env))) := by rfl)
    (he : starEach (e :: es) X.env = (false, eval e X.env) :: starEach es X.env := by rfl) (hpl : (backTo pos (starEach es X.env)).any (·.1) = false := by rfl) :
    DE X W (.Call fe (e :: es) [] pos) (wCallV os wf wr) := by
  refine ⟨pe_mono (pe_callV (fs := os.map fun o => (o.1, spD X.K o.2.1 o.2.2)) hf.pe (fun o1 ho1 => ?_) (fun σ => L2N.passAt tk σ) ha.pa ht he hpl) fun σ H Q ⟨env, μ, M, QD, ED, re, rs, hw, hq, hx⟩ => ?_⟩
  · obtain ⟨o, ho, rfl⟩ := List.mem_map.mp ho1
    obtain ⟨x, k, hk, ⟨f, fd, ps, hm, hkp, hb, hn, F⟩, ea⟩ := hos o ho
    rw [fnA_at hm] at ea
    refine ⟨k, fd, ps, ?_, hr.mono hk, ?_, hb⟩
    · show FnOk _ _ _ _ _ _ k o.1 fd ps _
      rw [ea]; exact F
    · show PySem.W.keepIn X.K (.ref o.1) = true
      rw [ea]; exact hkp
  · refine ⟨env, μ, M, _, ED, re, rs, hw, fun v H1 μ1 d M1 k1 rs1 r1 ⟨o, ho, ed, q1⟩ => ?_, hx⟩
    subst ed
    cases r1
    refine ⟨_, List.mem_map.mpr ⟨o, ho, rfl⟩, rfl, ?_⟩
    refine ⟨env, μ1, M1, _, ED, re.keep k1, rs1, q1, fun vs H2 μ2 ds M2 k2 rs2 r2 q2 => ?_, hx.keep k1⟩
    exact ⟨ds, μ2, M2, QD, ED, r2, rs2, q2.1, q2.2, fun v H' μ' d M' k' => hq v H' μ' d M' (k1.trans (k2.trans k')), fun cls a H' μ' y M' k' => hx cls a H' μ' y M' (k1.trans (k2.trans k'))⟩
end
/-! ### a tuple like the empty one -/
def fEqNil : F2
  | .tup xs, .tup [], M, Q => Q (.bl xs.isEmpty) M
  | .lst xs, .lst [], M, Q => Q (.bl xs.isEmpty) M
  | _, _, _, _ => False
def rEqNil (K : PySem.W.Frag) : R2 := fun x y H Q => ∃ (a b : Addr) (xs : List V), x = .ref a ∧ y = .ref b ∧ SqT K H a xs ∧ SqT K H b [] ∧ Q (.bl xs.isEmpty) H
section
variable {X : Cx} {W : WX} {a b : Expr} {wa wb : WE} {K : PySem.W.Frag} {pos : Pos}
theorem op_eqNil (hu : X.A.units + 64 < cLine) : OpR X (compareOp .Eq) (rEqNil X.K) := by
  rintro pins s σ H x y v u Q I rx ry ⟨a, b, xs, rfl, rfl, ha, hb, q⟩
  cases (show v = Value.ref a from rx)
  cases (show u = Value.ref b from ry)
  obtain ⟨its, rv, isT, _⟩ := I.tuple ha
  obtain ⟨its2, rv2, isT2, _⟩ := I.tuple hb
  cases rv2
  refine SeqAt.RcAt.tuples (e := fun _ => true) isT isT2 (Nat.lt_of_le_of_lt (Nat.le_add_right _ 64) hu) (fun j h1 h2 => absurd h2 (Nat.not_lt_zero j)) _ _ _ _ ?_
  have e2 : ((List.range (min its.toArray.size ([] : List Value).toArray.size)).all (fun _ => true) && its.toArray.size == ([] : List Value).toArray.size) = xs.isEmpty := by
    rw [show min its.toArray.size ([] : List Value).toArray.size = 0 from Nat.min_zero _]
    cases rv <;> rfl
  rw [e2]
  exact ⟨.bl _, H, I, rfl, q⟩
def rEqNilL (K : PySem.W.Frag) : R2 := fun x y H Q => ∃ (a b : Addr) (xs : List V), x = .ref a ∧ y = .ref b ∧ SqL K H a xs ∧ SqL K H b [] ∧ Q (.bl xs.isEmpty) H
theorem op_eqNilL (hu : X.A.units + 64 < cLine) : OpR X (compareOp .Eq) (rEqNilL X.K) := by
  rintro pins s σ H x y v u Q I rx ry ⟨a, b, xs, rfl, rfl, ha, hb, q⟩
  cases (show v = Value.ref a from rx)
  cases (show u = Value.ref b from ry)
  obtain ⟨its, rv, isT, _⟩ := I.list ha
  obtain ⟨its2, rv2, isT2, _⟩ := I.list hb
  cases rv2
  have hu2 : X.A.units < cLine := Nat.lt_of_le_of_lt (Nat.le_add_right _ 64) hu
  cases rv with
  | nil =>
    refine SeqAt.RcAt.lists (e := fun _ => true) isT.isList isT2.isList rfl hu2 (fun j h1 h2 => absurd h2 (Nat.not_lt_zero j)) _ _ _ _ ?_
    exact ⟨.bl _, H, I, rfl, q⟩
  | cons r rr =>
    refine SeqAt.RcAt.lists_lengths isT.isList isT2.isList (by simp) hu2 _ _ _ _ ?_
    exact ⟨.bl _, H, I, rfl, q⟩
theorem ok_eqNil : OkR K (fun x y H Q => rEqNil K x y H Q ∨ rEqNilL K x y H Q) fEqNil := fun x y d e H μ M QD Q rs rx ry h hq => by
  unfold fEqNil at h
  split at h
  · obtain ⟨a, vs, rfl, h1, r1⟩ := rx.tup_
    obtain ⟨b, ws, rfl, h2, r2⟩ := ry.tup_
    cases (r2.nil_iff).mpr rfl
    exact .inl ⟨a, b, vs, rfl, rfl, h1, h2, hq _ H μ _ M rs.refl rs (.bl _) (by cases r1 <;> exact h)⟩
  · cases rx with
    | lst h1 _ _ r1 =>
      cases ry with
      | lst h2 _ _ r2 =>
        cases (r2.nil_iff).mpr rfl
        exact .inr ⟨_, _, _, rfl, rfl, .of h1, .of h2, hq _ H μ _ M rs.refl rs (.bl _) (by cases r1 <;> exact h)⟩
  · exact h.elim
theorem de_eqNil (hu : X.A.units + 64 < cLine) (ha : DE X W a wa) (hb : DE X W b wb) : DE X W (.Compare a [.Eq] [b] pos) (wBin fEqNil wa wb) := de_cmp ((op_eqNil hu).or (op_eqNilL hu)) ok_eqNil ha hb (nomark _)
theorem dt_eqNil (hu : X.A.units + 64 < cLine) (ha : DE X W a wa) (hb : DE X W b wb) : DT X W (.Compare a [.Eq] [b] pos) (wB (wBin fEqNil wa wb)) := dt_cmp ((op_eqNil hu).or (op_eqNilL hu)) ok_eqNil ha hb (nomark _)
end
end DL

namespace DL
open PySem PySem.Spec PyProof.Rows L2
/-! ### x.upper() -/
theorem upper_list : ∀ l : List Nat, (∀ c ∈ l, c < 128) → ∃ l' : List Nat, Txt.upper ⟨l.toArray⟩ = ⟨l'.toArray⟩ ∧ l'.length = l.length ∧ ∀ c ∈ l', c < 128
  | [], _ => ⟨[], by decide +kernel, rfl, fun _ h => by cases h⟩
  | c :: l, h => by
    obtain ⟨l', e, e2, e3⟩ := upper_list l fun x hx => h x (List.mem_cons_of_mem _ hx)
    have hc := h c List.mem_cons_self
    refine ⟨(if 97 ≤ c ∧ c ≤ 122 then c - 32 else c) :: l', ?_, by simp [e2], fun x hx => ?_⟩
    · have e4 : (⟨(c :: l).toArray⟩ : PySem.Str) = ⟨#[c]⟩ ++ ⟨l.toArray⟩ := by
        show _ = (⟨#[c] ++ l.toArray⟩ : PySem.Str)
        simp
      rw [e4, PySem.W.KOpn.upper_app, PySem.W.KOpn.upper_one hc, e]
      show (⟨_ ++ _⟩ : PySem.Str) = _
      simp
    · rcases List.mem_cons.mp hx with rfl | hx
      · split <;> omega
      · exact e3 x hx
theorem upper_small {x : Str} (h : ∀ c ∈ x.cps.toList, c < 128) : (Txt.upper x).length = x.length ∧ ∀ c ∈ (Txt.upper x).cps.toList, c < 128 := by
  obtain ⟨l', e, e2, e3⟩ := upper_list x.cps.toList h
  have ex : (⟨x.cps.toList.toArray⟩ : PySem.Str) = x := by cases x; simp
  rw [ex] at e
  rw [e]
  exact ⟨by show l'.toArray.size = x.cps.size; simp [e2], fun c hc => e3 c (by simpa using hc)⟩
def wUpper (wo : WE) : WE := fun env M Q E => wo env M (fun d M1 => ∃ x, d = .str x ∧ x.length ≤ 5592405 ∧ Q (.str (Txt.upper x)) M1) E
section
variable {X : Cx} {W : WX} {o : Expr} {wo : WE} {pos apos : Pos}
theorem de_upper (ho : DE X W o wo) (hbase : attributeBase o "upper" X.env (eval o X.env) = eval o X.env := by rfl) (hline : (apos.endLine == pos.line) = true := by rfl) :
    DE X W (.Call (.Attribute o "upper" apos) [] [] pos) (wUpper wo) := by
  refine ⟨pe_mono (pe_upper ho.pe hbase hline) fun σ H Q ⟨env, μ, M, QD, ED, re, rs, hw, hq, hx⟩ => ⟨env, μ, M, _, ED, re, rs, hw, fun v H1 μ1 d M1 k1 rs1 r1 ⟨x, ed, hl, q1⟩ => ?_, hx⟩⟩
  subst ed
  cases r1
  exact ⟨⟨x, rfl⟩, x, rfl, rfl, hl, hq _ H1 μ1 _ M1 k1 rs1 (.str _) q1⟩
end
end DL

namespace DL
open PySem PySem.Spec PyProof.Rows L2
/-! ### list(range(n)) -/
def wListRg (wa : WE) : WFr := fun env M Q E => wa env M (fun d M1 => ∃ n : Int, d = .int n ∧ RgOk 0 n ∧ Q (rgD 0 n.toNat) M1) E
theorem reps_rg {K : PySem.W.Frag} {H : Hp} {μ : Mu} (n : Int) : Reps K H μ (rgV 0 n) (rgD 0 n.toNat) := by
  unfold rgV rgD
  rw [show n - 0 = n by omega]
  exact Reps.map _ fun i _ => .int _
section
variable {X : Cx} {W : WX} {a : Expr} {wa : WE} {p p2 pos pos2 : Pos}
theorem df_listRg (hc : X.calm = true) (hg : Gl X "list") (hm : X.mg "list" = none) (hg2 : Gl X "range") (hm2 : X.mg "range" = none) (ha : DE X W a wa)
    (na : starEach [a] X.env = (false, eval a X.env) :: starEach [] X.env := by rfl)
    (ne : starEach [Expr.Call (.Name "range" p2) [a] [] pos2] X.env = (false, eval (.Call (.Name "range" p2) [a] [] pos2) X.env) :: starEach [] X.env := by rfl) :
    DF X W (.Call (.Name "list" p) [.Call (.Name "range" p2) [a] [] pos2] [] pos) (wListRg wa) := by
  refine ⟨pe_mono (pe_listRg hc hg hm (prg_1 hg2 hm2 ha.pe na) ne) fun σ H Q ⟨env, μ, M, QD, ED, re, rs, hw, hq, hx⟩ => ⟨env, μ, M, _, ED, re, rs, hw, fun v H1 μ1 d M1 k1 rs1 r1 ⟨n, ed, hr, q1⟩ => ?_, hx⟩⟩
  subst ed
  cases r1
  exact ⟨n, rfl, hr, fun q hq0 => fin_lst (σ := σ) hq k1 rs1 (reps_rg n) q1 (p := q) (hp := hq0) (hp0 := none_of_keep k1 rs1 hq0)⟩
end
/-! ### xs.pop(i) -/
def fPopAt : FM
  | .han h, [.int i], M, Q => ∃ l k d, M[h]? = some l ∧ -(2 ^ 63) ≤ i ∧ i < 2 ^ 63 ∧ seqIndex? i l.length = some k ∧ l[k]? = some d ∧ Q d (M.set h (l.eraseIdx k))
  | _, _, _, _ => False
theorem seqIx_nat {j n : Nat} (h : j < n) : seqIndex? (j : Int) n = some j := by
  unfold seqIndex?
  simp [h]
  try omega
theorem ok_popAt {K : PySem.W.Frag} : OkM K rPopAt fPopAt := fun x vs o ds H μ M QD Q rs rx r h hq => by
  unfold fPopAt at h
  split at h
  · rename_i hh i
    obtain ⟨v, rfl, rv⟩ := reps1 r
    cases rv
    obtain ⟨l, k, d, e2, i0, i1, ei, e3, q2⟩ := h
    cases rx with
    | han hm hk =>
      obtain ⟨ws, h1, h2⟩ := rs.at_ _ _ _ hm e2
      obtain ⟨v, h3, r3⟩ := h2.get e3
      refine ⟨_, ws, i, k, v, rfl, rfl, h1, i0, i1, by rw [h2.length]; exact ei, h3, ?_⟩
      obtain ⟨k4, rs4⟩ := rs.write hm (h2.eraseIdx k)
      exact hq _ _ μ _ _ k4 rs4 (r3.keep k4) q2
  · exact h.elim
section
variable {X : Cx} {W : WX} {o a : Expr} {wo wa : WE} {pos apos : Pos}
theorem de_popAt (ho : DE X W o wo) (ha : DE X W a wa) (hbase : attributeBase o "pop" X.env (eval o X.env) = eval o X.env := by rfl)
    (hfew : ((backTo pos (starEach (a :: []) X.env)).all (fun x => !x.1) && (backToKw pos (keywordEach [] X.env)).all (fun x => x.1.isSome)
      && decide ((a :: []).length + ([] : List Keyword).length + (if ([] : List Keyword).isEmpty then 0 else 1) < 30)) = true := by rfl)
    (hline : (apos.endLine == pos.line) = true := by rfl) (hs : starEach (a :: []) X.env = (false, eval a X.env) :: starEach [] X.env := by rfl) :
    DE X W (.Call (.Attribute o "pop" apos) [a] [] pos) (wBM fPopAt wo (wCons wa wNil)) := de_bm PySem.F.slot_list_pop PySem.F.type_list_pop mt_popAt ok_popAt ho (da_cons ha da_nil hs) hbase hfew hline hs
end
end DL

namespace DL
open PySem PySem.Spec PyProof.Rows L2
/-! ### str(x) of any plain data -/
def fStrG : FC := fun ds M Q => match ds with
  | [.str x] => Q (.str x) M
  | [d] => (∀ x, d ≠ .str x) ∧ ∃ p, pyR d = some p ∧ p.showable = true ∧ p.depth ≤ 60 ∧ p.shown.length ≤ sizeLine ∧ Q (.str p.shown) M
  | _ => False
section
variable {X : Cx} {W : WX} {a : Expr} {wr : WA} {pos p : Pos}
def rStrG (X : Cx) : List V → Hp → VK → Prop := fun xs H Q => (∃ x, xs = [.str x] ∧ Q (.str x) H) ∨
  ∃ (v : V) (d : D) (μ : Mu) (p : PyData), xs = [v] ∧ (∀ x, d ≠ .str x) ∧ Rep X.K H μ v d ∧ pyR d = some p ∧ p.showable = true ∧ p.depth ≤ 60 ∧ p.shown.length ≤ sizeLine ∧ Q (.str p.shown) H
theorem call_strG (hm : smOk X.K = true) (gd : NoGd X.A) (hu : X.A.units + 66 < cLine) : CallR X (.type "str") (rStrG X) := by
  rintro pins s σ H xs us Q I rv (⟨x, rfl, q⟩ | ⟨v, d, μ, p, rfl, nd, r, e, hs, hd, hl, hq⟩)
  · obtain ⟨u, rfl, r1⟩ := vals1 rv
    obtain ⟨t, rfl⟩ := r1
    exact PySem.P.str_of_str ⟨.str x, H, I, ⟨t, rfl⟩, q⟩
  · cases rv with
    | cons r1 r2 =>
      cases r2
      obtain ⟨as, h1, h2⟩ := rep_reads I hm r e r1
      have fin : ∀ (h' : Heap) (u tk : Tok), (∀ b o, s.heap.get? b = some o → h'.get? b = some o) → EP X pins σ Q (.str p.shown u) { s with heap := h', toks := tk } := fun h' u tk k => ⟨.str p.shown, H, I.kept k, ⟨u, rfl⟩, hq⟩
      cases h1 with
      | none => exact PySem.P.str_of_none (fin _ _ _ fun _ _ z => z)
      | bool b => exact PySem.P.str_of_bool (by cases b <;> exact fin _ _ _ fun _ _ z => z)
      | int i t => exact PySem.P.str_of_int (by simpa [PyData.showable] using hs) (fin _ _ _ fun _ _ z => z)
      | str x t =>
        cases d with
        | str y => exact absurd rfl (nd y)
        | _ => simp [pyR] at e
      | list a1 a2 a3 a4 => exact str_of_reads (Reads.list a1 a2 a3 a4) hs (fun _ => h2) gd (by omega) (fun _ _ z => z) (fun h' u tk k => fin h' u tk k) hl
      | tuple a1 a2 a3 a4 => exact str_of_reads (Reads.tuple a1 a2 a3 a4) hs (fun _ => h2) gd (by omega) (fun _ _ z => z) (fun h' u tk k => fin h' u tk k) hl
      | dict a1 a2 a3 a4 a5 => exact str_of_reads (Reads.dict a1 a2 a3 a4 a5) hs (fun _ => h2) gd (by omega) (fun _ _ z => z) (fun h' u tk k => fin h' u tk k) hl
theorem ok_strG : OkC X.K (rStrG X) fStrG := fun vs ds H μ M QD Q rs r h hq => by
  unfold fStrG at h
  split at h
  · obtain ⟨v, rfl, r1⟩ := reps1 r
    cases r1
    exact .inl ⟨_, rfl, hq _ H μ _ M rs.refl rs (.str _) h⟩
  · obtain ⟨v, rfl, r1⟩ := reps1 r
    obtain ⟨nd, p, h1, h2, h3, h4, h5⟩ := h
    exact .inr ⟨v, _, μ, p, rfl, nd, r1, h1, h2, h3, h4, hq _ H μ _ M rs.refl rs (.str _) h5⟩
  · exact h.elim
theorem bi_strG (hm : smOk X.K = true) (gd : NoGd X.A) (hu : X.A.units + 66 < cLine) (hg : Gl X "str") (hf : X.mg "str" = none) (ha : DA X W [a] wr) (he : starEach [a] X.env = (false, eval a X.env) :: starEach [] X.env := by rfl) : DE X W (.Call (.Name "str" p) [a] [] pos) (wCB fStrG wr) :=
  de_btp (call_strG hm gd hu) ok_strG hg hf (by decide +kernel) ha (by decide) (by decide) he (by rfl)
end
theorem room66 {j : Nat} {A : Around} (hr : Room j A) : A.units + 66 < cLine := by have := hr.un; omega
/-- str of data of which the text is bounded -/
theorem strG_at {n w : Nat} {d : D} {M : Me} {Q : D → Me → Prop} (h : Rp n w d) (nd : ∀ x, d ≠ .str x) (hn : n ≤ 60) (hw : w ≤ sizeLine) (q : Q (.str (txt d)) M) : fStrG [d] M Q := by
  obtain ⟨p, a, b, c, e⟩ := h
  have key : (∀ x, d ≠ .str x) ∧ ∃ p, pyR d = some p ∧ p.showable = true ∧ p.depth ≤ 60 ∧ p.shown.length ≤ sizeLine ∧ Q (.str p.shown) M := by
    refine ⟨nd, p, a, b, Nat.le_trans c hn, Nat.le_trans (shown_bnd b) (Nat.le_trans e hw), ?_⟩
    have et : txt d = p.shown := by unfold txt; rw [a]; rfl
    rw [← et]
    exact q
  cases d with
  | str x => exact absurd rfl (nd x)
  | _ => exact key
end DL

namespace DL
open PySem PySem.Spec PyProof.Rows L2
section
variable {X : Cx} {W : WX} {a b c e : Expr} {wa wb wc : WE} {pos : Pos} {K : PySem.W.Frag}
variable {lo hi : Option Expr} {wl wh : WO} {p2 : Pos}
/-- a slice of a tuple, or of a list (made new) -/
def wSlQ (wa : WE) (wl wh : WO) : WE := fun env M Q E => wa env M (fun d M1 => wl env M1 (fun lo M2 => wh env M2 (fun hi M3 => match d with
  | .tup l => Q (.tup (cutD l lo hi)) M3
  | .lst l => Q (.lst (cutD l lo hi)) M3
  | .fls l => Q (.lst (cutD l lo hi)) M3
  | .han h => ∃ l, M3[h]? = some l ∧ Q (.lst (cutD l lo hi)) M3
  | _ => False) E) E) E
theorem de_slQ (ha : DE X W a wa) (hl : DO X W lo wl) (hh : DO X W hi wh) : DE X W (.Subscript a (.Slice lo hi none p2) pos) (wSlQ wa wl wh) := by
  refine ⟨pe_mono (pe_slice (sl_tupA.or sl_list) ha.pe hl.po hh.po) fun σ H Q ⟨env, μ, M, QD, ED, re, rs, hw, hq, hx⟩ => ⟨env, μ, M, _, ED, re, rs, hw, fun v H1 μ1 d M1 k1 rs1 r1 q1 => ?_, hx⟩⟩
  refine ⟨env, μ1, M1, _, ED, re.keep k1, rs1, q1, fun l H2 μ2 M2 k2 rs2 q2 => ?_, hx.keep k1⟩
  refine ⟨env, μ2, M2, _, ED, re.keep (k1.trans k2), rs2, q2, fun h H3 μ3 M3 k3 rs3 q3 => ?_, hx.keep (k1.trans k2)⟩
  have r3 := (r1.keep k2).keep k3
  have k := (k1.trans k2).trans k3
  have fin : ∀ (v : V) (H' : Hp) (μ' : Mu) (d : D) (M' : Me), Keep H3 μ3 H' μ' → RelS X.K H' μ' M' → Rep X.K H' μ' v d → QD d M' → Q v H' := fun v H' μ' d M' kk => hq v H' μ' d M' (k.trans kk)
  cases d with
  | tup ds =>
    obtain ⟨a, vs, rfl, h1, rr⟩ := r3.tup_
    refine .inl ⟨a, vs, rfl, h1, fun hw => ?_, fun _ p hp => ?_⟩
    · have e : cutD ds l h = ds := by
        unfold cutD
        rw [← rr.length, hw.1, hw.2]
        simp [rr.length]
      have q3 : QD (.tup (cutD ds l h)) M3 := q3
      rw [e] at q3
      exact hq _ H3 μ3 _ M3 k rs3 (.tup h1 rr) q3
    · obtain ⟨k', rs', r'⟩ := tup_rep rs3 (cut_V (lo := l) (hi := h) rr) hp
      exact hq _ _ μ3 _ M3 (k.trans k') rs' r' q3
  | han i =>
    obtain ⟨ds, e1, q3⟩ := q3
    obtain ⟨a, vs, rfl, h1, rr⟩ := r3.ls rs3 (show lsD (.han i) M3 = some ds from e1)
    exact .inr ⟨a, vs, rfl, .of h1, fun p hp => fin_fz rs3 fin (cut_V (lo := l) (hi := h) rr) q3 hp⟩
  | lst ds =>
    obtain ⟨a, vs, rfl, h1, rr⟩ := r3.ls rs3 (show lsD (.lst ds) M3 = some ds from rfl)
    exact .inr ⟨a, vs, rfl, .of h1, fun p hp => fin_fz rs3 fin (cut_V (lo := l) (hi := h) rr) q3 hp⟩
  | fls ds =>
    cases r3 with
    | fix h1 rr => exact .inr ⟨_, _, rfl, KLst.sq h1, fun p hp => fin_fz rs3 fin (cut_V (lo := l) (hi := h) rr) q3 hp⟩
  | _ => exact q3.elim
end
end DL

namespace DL
open PySem PySem.Spec PyProof.Rows L2 L2N

/-! ## try .. except (y1, y2): without a name -/
theorem flying_grow {B h h' : Heap} {l : List Env} {a : Addr} {Z : Obj → Prop} (x : HandSPX.FlyingZ B l a Z h) (k : ∀ b o, h.get? b = some o → h'.get? b = some o) : HandSPX.FlyingZ B l a Z h' := by
  obtain ⟨x1, x2, x3, oe, vs, T, oT, ts, h1, h2, h3, h4, h5, h6, h7, h8, h9⟩ := x
  exact ⟨fun b o e => k _ _ (x1 b o e), x2, Heap.FunFrames.of_keeps (fun b o e _ => ⟨o, k _ _ e, rfl⟩) x3, oe, vs, T, oT, ts, k _ _ h1, h2, h3, h4, h5, h6, k _ _ h7, h8, h9⟩
def wTwo (K : PySem.W.Frag) (c1 c2 : Value) (ts : Addr → Value → Option Addr → TS) (Wout : WX) (D : Ends) : WX := fun cls d σ H =>
  ∃ b, PySem.W.exmAny K cls [c1, c2] = some b ∧ (b = true → ∀ a, H a = none → ts a cls d D σ H) ∧ (b = false → Wout cls d σ H)
section
variable {X : Cx} {x1 x2 : Str} {c1 c2 : Value} {body suite : List Stmt} {b₀ : Stmt} {np1 np2 tpos pos pos' : Pos} {kk : Nat} {tb : WX → TS} {ts : Addr → Value → Option Addr → TS} {Wout : WX}
theorem ps_try_two (hs : X.stack = X.env :: X.outer) (hf : X.env.frame = some X.env.locals) (g1 : Names X x1 c1) (g2 : Names X x2 c2) (tk : L2N.Takes X Wout)
    (hb : ∀ (W : WX) (pn : List (Addr × Obj)) (xe : Value → Shared → Prop), L2N.Takes (X.tr pn xe) W → PassesOwn (model X.prog X.w) X.A X.env xe → PSs (X.tr pn xe) body (tb W))
    (hsu : ∀ (a : Addr) (oe : Obj) (cls : Value) (d : Option Addr) (pn : List (Addr × Obj)), L2N.Zn cls d oe → (∃ vs, oe.data = .fields vs) → PSs (X.suite a ((a, oe) :: pn)) (b₀ :: suite) (ts a cls d)) :
    PS X (.Try body [.ExceptHandler (some (.Tuple [.Name x1 np1, .Name x2 np2] kk tpos)) none (b₀ :: suite) pos'] [] [] pos) (fun D σ H => tb (wTwo X.K c1 c2 ts Wout D) D σ H) := by
  refine ⟨fun pins s σ H D I h => ?_⟩
  have ok := I.ok
  have hfr : X.A.frames = some (X.env :: X.outer) := by rw [ok.frames, hs]
  refine wpAny_Try_except ?_
  refine wpAny_mono ((hb (wTwo X.K c1 c2 ts Wout D) (X.pn ++ pins) (fun e s₁ => wpAny (model X.prog X.w) X.A (noteFrame e X.env) (fun _ s₂ => wpAny (model X.prog X.w) X.A (setFlight e none) (fun _ s₃ =>
    wpAny (model X.prog X.w) X.A (handleBy e X.env [.ExceptHandler (some (.Tuple [.Name x1 np1, .Name x2 np2] kk tpos)) none (b₀ :: suite) pos']) (SP X pins D) X.xe s₃) X.xe s₂) X.xe s₁) (fun u s' xx => ?_) PassesOwn.looking).run [] s σ H D (I.toTry _) h) (fun f s1 hsp => ?_) (fun e s1 he => he)
  · obtain ⟨a, B, sI, pins', σ', H', cls, d, rfl, J', nb, up, sky, na, os, ag, b, hb1, hyes, hno⟩ := xx
    have J : Inv X pins σ' H' sI := J'.ofTry ok
    have sky' : Sky B (X.env :: X.outer) a (L2N.Zn cls d) X.env.locals s'.heap := by rw [← hs]; exact sky
    show wpAny (model X.prog X.w) X.A (noteFrame (.ref a) X.env) _ _ _
    refine L2N.Sky.land L2N.Zn.steady hfr hf sky' fun h3 fl3 up3 => ?_
    have J3 : Inv X pins σ' H' { s' with heap := h3 } := J.landed nb fl3.1 (up.trans up3) os ag
    obtain ⟨oe3, vs3, he3, hz3, hd3⟩ := fl3.there
    have notFr : ∀ {h : Heap} {o : Obj} {vs : Array Value}, h.FunFrames B (X.env :: X.outer) → h.get? a = some o → o.data = .fields vs → a ∉ frs (X.env :: X.outer) := fun {h o vs} ff e dd hm => by
      obtain ⟨_, o', e', hnf⟩ := ff.mem hm
      rw [e] at e'; cases e'
      exact hnf _ dd
    have nfr := notFr fl3.2.2.1 he3 hd3
    have nL : a ≠ X.env.locals := fun z => nfr (List.mem_filterMap.mpr ⟨X.env, List.mem_cons_self, by rw [hf, z]⟩)
    have nF : a ∉ X.fs := fun hm => by
      obtain ⟨e, he, q⟩ := List.mem_filterMap.mp hm
      exact nfr (List.mem_filterMap.mpr ⟨e, List.mem_cons_of_mem _ he, q⟩)
    have S3 := J3.suite he3 hd3 na nL nF
    refine wpAny_handleBy_cons (codeAny_handlers_test ?_) (by intro q; cases q)
    have name : ∀ {x : Str} {c : Value} {np : Pos} {Q : Value → Shared → Prop} {E : Value → Shared → Prop}, Names X x c → Q c { s' with heap := h3 } → wpAny (model X.prog X.w) (X.A.mark (some (.ref a))) (eval (.Name x np) X.env) Q E { s' with heap := h3 } := fun {x c np Q E} hc q => by
      obtain ⟨hg, hdbg, hm | ⟨hm, hv, hnn⟩⟩ := hc
      · exact ld_glob (X := X.suite a ((a, oe3) :: (X.pn ++ pins))) S3 hg hm q hdbg
      · exact ld_blt (X := X.suite a ((a, oe3) :: (X.pn ++ pins))) S3 hg hm hv q hnn hdbg
    refine wpAny_Tuple_spliced ?_
    rw [show starEach [.Name x1 np1, .Name x2 np2] X.env = (false, eval (.Name x1 np1) X.env) :: starEach [.Name x2 np2] X.env by rfl]
    refine Calls.spliced_cons (name g1 ?_)
    rw [show starEach [.Name x2 np2] X.env = (false, eval (.Name x2 np2) X.env) :: starEach [] X.env by rfl]
    refine Calls.spliced_cons (name g2 (Calls.spliced_nil ⟨by show 2 ≤ sizeLine; decide, ?_⟩))
    -- the heap with the tuple
    have kk3 : ∀ b o, h3.get? b = some o → (h3.push { cls := .type "tuple", data := .seq [c1, c2].toArray }).get? b = some o := fun b o e => Heap.get?_push_of_some _ e
    have tpl : (h3.push { cls := .type "tuple", data := .seq [c1, c2].toArray }).get? h3.objs.size = some { cls := .type "tuple", data := .seq [c1, c2].toArray } := Heap.get?_push_size _ rfl
    show wpAny _ _ _ _ _ { s' with heap := h3.push { cls := .type "tuple", data := .seq [c1, c2].toArray } }
    generalize h3.push { cls := .type "tuple", data := .seq [c1, c2].toArray } = h5 at kk3 tpl
    have fl5 := flying_grow fl3 kk3
    have up5 := up3.trans (Heap.UpToSlots.of_keeps kk3)
    have J5 : Inv X pins σ' H' { s' with heap := h5 } := J.landed nb fl5.1 (up.trans up5) os ag
    have he5 := kk3 _ _ he3
    have LT : PySem.W.Looks (model X.prog X.w) h5 (typeOf (.ref a)) cls := fun A Q E s k q => wpAny_typeOf_ref (k _ _ he5) (by rw [hz3.1]; exact q)
    have LM := PySem.W.exm_tup2 (M := model X.prog X.w) (J5.kIn) LT tpl hb1
    refine LM.here ?_
    cases b with
    | true =>
      refine codeAny_handlers_suite ?_
      refine HandSPX.lands_againZ fl5 fun h4 fl4 up4 => ?_
      have J4 : Inv X pins σ' H' { s' with heap := h4 } := J.landed nb fl4.1 ((up.trans up5).trans up4) os ag
      obtain ⟨oe4, vs4, he4, hz4, hd4⟩ := fl4.there
      have S4 := J4.suite he4 hd4 na nL nF
      refine wpAny_mono ((hsu a oe4 cls d (X.pn ++ pins) hz4 ⟨_, hd4⟩).run [] _ _ H' _ S4 (hyes rfl a na)) (fun f s6 hsp => ?_) (fun _ _ z => False.elim z)
      cases f with
      | next =>
        obtain ⟨σ6, H6, S6, q6⟩ := hsp
        exact ⟨_, _, S6.unsuite ok, q6⟩
      | brk =>
        obtain ⟨σ6, H6, S6, q6⟩ := hsp
        exact ⟨_, _, S6.unsuite ok, q6⟩
      | cont =>
        obtain ⟨σ6, H6, S6, q6⟩ := hsp
        exact ⟨_, _, S6.unsuite ok, q6⟩
      | ret u =>
        obtain ⟨v6, σ6, H6, S6, r6, q6⟩ := hsp
        exact ⟨_, _, _, S6.unsuite ok, r6, q6⟩
    | false =>
      show wpAny _ X.A (handleBy (.ref a) X.env []) _ _ _
      refine wpAny_handleBy_nil ?_
      obtain ⟨k1, k2, k3, oe, vs, T, oT, ts', he, hz, hd, h1, hr⟩ := id fl5
      unfold PySem.passOn
      refine wpAny_bind (wpAny_field he hd h1 ?_)
      rw [if_neg (show ¬ ((Value.ref T == Value.none) = true) from by simp)]
      have fin : wpAny (model X.prog X.w) X.A (setFlight (.ref a) X.env.frame) (fun _ s4 => wpAny (model X.prog X.w) X.A (throw (.ref a) : Sem Flow) (SP X pins D) X.xe s4) X.xe { s' with heap := h5 } := by
        rw [hf]
        refine HandSPX.setFlight_upZ fl5 fun h4 hh4 up4 => wpAny_throw (tk _ _ ?_)
        exact ⟨a, B, sI, pins, σ', H', cls, d, rfl, J, nb, (up.trans up5).trans up4, .inr (.inr (by rw [hs]; exact hh4)), na, os, ag, hno rfl⟩
      first
        | exact wpAny_bind (wpAny_pure (wpAny_bind fin))
        | exact wpAny_bind fin
  · cases f with
    | next =>
      obtain ⟨σ', H', J', q⟩ := hsp
      exact wpAny_execs_nil ⟨σ', H', J'.ofTry ok, q⟩
    | brk =>
      obtain ⟨σ', H', J', q⟩ := hsp
      exact ⟨σ', H', J'.ofTry ok, q⟩
    | cont =>
      obtain ⟨σ', H', J', q⟩ := hsp
      exact ⟨σ', H', J'.ofTry ok, q⟩
    | ret u =>
      obtain ⟨v, σ', H', J', r, q⟩ := hsp
      exact ⟨v, σ', H', J'.ofTry ok, r, q⟩
end
section
variable {X : Cx} {W : WX} {L : ExL} {y1 y2 : Str} {body suite : List Stmt} {s0 : Stmt} {np1 np2 tpos pos pos' : Pos} {kk : Nat} {tb : WS} {ts : Addr → Str → WS}
def wTryN2 (L : ExL) (y1 y2 : Str) (tb : WS) (ts : Addr → Str → WS) : WS := fun env M DD => tb env M { DD with ex := fun x env1 M1 => ∃ b1 b2 : Bool, mtE L y1 x.cls = some b1 ∧ mtE L y2 x.cls = some b2 ∧
  if (b1 || b2) = true then (x.arg = none ∧ ∀ ad : Addr, ts ad x.cls env1 M1 { nx := DD.nx, rt := DD.rt, bk := DD.bk, ct := DD.ct, ex := fun _ _ _ => False }) else DD.ex x env1 M1 }
theorem ds_tryN2 (hx : exOk L X.K = true) (hy1 : y1 ∈ L.A) (hy2 : y2 ∈ L.A) (hs : X.stack = X.env :: X.outer) (hf : X.env.frame = some X.env.locals) (hc1 : Names X y1 (.ref (He.ga X.K y1))) (hc2 : Names X y2 (.ref (He.ga X.K y2))) (tk : L2N.Takes X W)
    (hb : ∀ (W : WX) (pn : List (Addr × Obj)) (xe : Value → Shared → Prop), L2N.Takes (X.tr pn xe) W → PassesOwn (model X.prog X.w) X.A X.env xe → DB (X.tr pn xe) W body tb)
    (hsu : ∀ (a : Addr) (oe : Obj) (c : Str) (pn : List (Addr × Obj)), ExP X.K L (a, oe) c → L2H.Hot1 (X.suite a ((a, oe) :: pn)).A (a, oe) → DB (X.suite a ((a, oe) :: pn)) W0 (s0 :: suite) (ts a c)) :
    DS X W (.Try body [.ExceptHandler (some (.Tuple [.Name y1 np1, .Name y2 np2] kk tpos)) none (s0 :: suite) pos'] [] [] pos) (wTryN2 L y1 y2 tb ts) := by
  refine ⟨ps_mono (ps_try_two (c1 := .ref (He.ga X.K y1)) (c2 := .ref (He.ga X.K y2)) (ts := fun a cls d D σ H => ∃ c, c ∈ L.R ∧ cls = .ref (He.ga X.K c) ∧ d = none ∧ tS X.K W0 (ts a c) D σ H) (tb := fun W => tS X.K W tb) hs hf hc1 hc2 tk (fun W pn xe t p => (hb W pn xe t p).pss) ?_) ?_⟩
  · intro a oe cls d pn hz hfl
    constructor
    rintro pins s σ H D I ⟨c, hcR, rfl, rfl, q⟩
    exact (hsu a oe c pn ⟨hcR, hz, hfl⟩ (hot_suite hz hfl).1).pss.run pins s σ H D I q
  · rintro D σ H ⟨env, μ, M, DD, re, rs, hw, o⟩
    refine ⟨env, μ, M, _, re, rs, hw, { nx := o.nx, rt := o.rt, bk := o.bk, ct := o.ct, ex := ?_ }⟩
    rintro cls a σ1 H1 μ1 x env1 M1 k1 re1 rs1 rx ⟨b1, b2, hm1, hm2, q⟩
    obtain ⟨hcR, rfl⟩ := mt_at hm1
    obtain ⟨_, rfl⟩ := mt_at hm2
    have e1 := ((exOk_at hx hcR).2.2 y1 hy1).2
    have e2 := ((exOk_at hx hcR).2.2 y2 hy2).2
    refine ⟨isOf L x.cls y1 || isOf L x.cls y2, by rw [rx.1]; simp only [PySem.W.exmAny, e1, e2, Bool.or_false], fun hbt ad _ => ?_, fun hbf => ?_⟩
    · rw [hbt, if_pos rfl] at q
      refine ⟨x.cls, hcR, rx.1, rx.2.1 q.1, env1, μ1, M1, _, re1, rs1, q.2 ad, ?_⟩
      have o1 := o.keep k1
      exact { nx := o1.nx, rt := o1.rt, bk := o1.bk, ct := o1.ct, ex := fun _ _ _ _ _ _ _ _ _ _ _ _ z => z.elim }
    · rw [hbf, if_neg Bool.false_ne_true] at q
      exact o.ex cls a σ1 H1 μ1 x env1 M1 k1 re1 rs1 rx q
end
end DL

/-! DLke: sorted(set(xs)), xs a list of ints, any number of them. Own work, after the shape of the library's rule for set(tuple). -/
namespace DL
open PySem PySem.Spec PyProof.Rows L2
section
variable {P : Program} {w : World} {A : Around} {E : Value → Shared → Prop} {s : Shared}
/-- a set just begun -/
abbrev newS (w : World) : Obj := { cls := .type "set", dict := none, data := .set #[] 0 (.fresh 0 0 (!w.params.followText "set-order")) }
/-- the set at S holds these; what was there ahead stays -/
def Full (w : World) (h h' : Heap) (S : Addr) (ns : List Int) : Prop := (∃ c, c ≤ ns.length ∧ SetR w h' S (fun j => decide (j ∈ ns)) c) ∧ ∀ b o, h.get? b = some o → h'.get? b = some o
set_option maxRecDepth 100000 in
set_option maxHeartbeats 3200000 in
theorem set_init_lst {l : Addr} {its : Array Value} (ns : List Int) (hh : A.handled = none) (hl : s.heap.IsList l its) (hi : IntsAre its.toList ns) (hb : ns.length + 1 < scanBound) :
    codeAny (model P w) A (.call (.builtin "set.__init__") ⟨[.ref s.heap.objs.size, .ref l], []⟩) (wants (fun r s2 => r = .none ∧ ∃ (h' : Heap) (tk : Nat), s2 = { s with heap := h', toks := tk } ∧ Full w s.heap h' s.heap.objs.size ns) E) { s with heap := s.heap.push (newS w) } := by
  have sz : its.size = ns.length := by rw [← IntsAre.length hi, Array.length_toList]
  have gS : (s.heap.push (newS w)).get? s.heap.objs.size = some (newS w) := Heap.get?_push_size _ rfl
  have tS : Shared.TypeIs { s with heap := s.heap.push (newS w) } (.ref s.heap.objs.size) "set" := ⟨_, gS, rfl⟩
  refine codeAny_call_builtin F.called_set.init.plain F.entry_set_init (check_set_init_1 tS ?_)
  obtain ⟨⟨oc, od, oD, os⟩, ho, ec, nl, ed⟩ := hl
  simp only at ec ed
  subst ec; subst ed
  have lS : l < s.heap.objs.size := Heap.lt_size ho
  have ho' : (s.heap.push (newS w)).get? l = some { cls := .type "list", dict := od, data := .seq its nl, slots := os } := Heap.get?_push_of_some _ ho
  have isl : (s.heap.push (newS w)).IsList l its := ⟨_, ho', rfl, nl, rfl⟩
  have n1 := F.sub_list_set
  have n2 := F.sub_list_frozenset
  have n3 : (Value.type "list" == Value.type "dict") = false := by decide
  unfold Builtin.«set.__init__» noKeywords Builtin.Frozenset.updateFrom
  generalize hPI : pyIter = PI
  wp_walk
  subst hPI
  refine wpAny_pyIter_list isl (wpAny_bind (wpAny_runValue ?_))
  have h3 : A.in1.in1.handled = none := by simp [hh]
  have sI : (s.heap.push (newS w)).objs.size = s.heap.objs.size + 1 := Heap.size_push ..
  have neI : l ≠ (s.heap.push (newS w)).objs.size := by rw [sI]; exact Nat.ne_of_lt (Nat.lt_succ_of_lt lS)
  have notin : s.heap.objs.size ∉ [(s.heap.push (newS w)).objs.size, l] := by
    rw [sI]
    simp only [List.mem_cons, List.mem_singleton, List.not_mem_nil, or_false, not_or]
    exact ⟨Nat.ne_of_lt (Nat.lt_succ_self _), Nat.ne_of_gt lS⟩
  have vals : ∀ (i : Nat) (v : Value), its[i]? = some v → ∃ k t, ns[i]? = some k ∧ v = .int k t := fun i v hv => by
    have hin : i < ns.length := by rw [← sz]; exact (Array.getElem?_eq_some_iff.mp hv).1
    obtain ⟨t, e⟩ := IntsAre.int_at hi i v (by rw [Array.getElem?_toList]; exact hv)
    exact ⟨ns[i], t, List.getElem?_eq_getElem hin, by rw [e, List.getD_eq_getElem?_getD, List.getElem?_eq_getElem hin]; rfl⟩
  refine set_update_ints (Walks.list h3 _ l neI its).toS s.heap.objs.size notin ns sz hb vals (its.size - 0) 0 _ (by omega) (Nat.zero_le _) ?stand ?start fun s' c mv hc fin => ?_
  case stand => exact ⟨⟨_, Heap.get?_push_size _ rfl, rfl, rfl⟩, isl.push _⟩
  case start =>
    have g2 : ((s.heap.push (newS w)).push { cls := .type "list_iterator", data := .fields #[.ref l, .int 0 0] }).get? s.heap.objs.size = some (newS w) := Heap.get?_push_of_some _ gS
    exact ⟨0, Nat.le_refl 0, setR_new_at g2⟩
  obtain ⟨h', g2, d', tk', os'⟩ := s'
  have e1 : g2 = s.gens := mv.gens
  have e2 : d' = s.drawn := mv.drawn
  have e3 : os' = s.os := mv.os
  subst e1; subst e2; subst e3
  refine wpAny_pure ?_
  show wpAny _ _ (ret Value.none) _ _ _
  rw [sz] at hc
  refine wpAny_pure ⟨rfl, h', tk', rfl, ⟨c, hc, fin⟩, fun b o e => ?_⟩
  have lb : b < s.heap.objs.size := Heap.lt_size e
  refine mv.heap b o ?_ (Heap.get?_push_of_some _ (Heap.get?_push_of_some _ e))
  rw [sI]
  simp only [List.mem_cons, List.mem_singleton, List.not_mem_nil, or_false, not_or]
  exact ⟨Nat.ne_of_lt lb, Nat.ne_of_lt (Nat.lt_succ_of_lt lb)⟩
set_option maxRecDepth 100000 in
set_option maxHeartbeats 3200000 in
/-- set(xs) -/
theorem set_of_lst {l : Addr} {its : Array Value} (ns : List Int) {Q : Value → Shared → Prop} (hh : A.handled = none) (hl : s.heap.IsList l its) (hi : IntsAre its.toList ns) (hb : ns.length + 1 < scanBound)
    (q : ∀ (h' : Heap) (tk : Nat), Full w s.heap h' s.heap.objs.size ns → Q (.ref s.heap.objs.size) { s with heap := h', toks := tk }) : wpAny (model P w) A (call (.type "set") [.ref l]) Q E s := by
  obtain ⟨c, tl, mro⟩ := F.called_set.mro
  have made := F.called_set.made
  have sub := F.called_set.sub
  refine wpAny_call (codeAny_of_tree ?_)
  show wpAny _ _ (callAny (.type "set") _) _ _ _
  refine wpAny_pure ⟨Code.quiet_builtin _ (by decide +kernel), codeAny_builtin F.entry_type_call ?_⟩
  rw [Around.under_plain (weight_type_call_type "set" [.ref l] []) rfl]
  have nt := F.called_set.notType
  have cr := F.called_set.canCreate
  have tc := F.typeCall_set_1 (.ref l)
  repeat (any_goals (first | assumption | wp_step))
  refine codeAny_mono (code_set_led1 (.ref l) (E := E) (Q₁ := fun o s1 => o = .ref s.heap.objs.size ∧ s1 = { s with heap := s.heap.push (newS w) }) ⟨rfl, rfl⟩) fun r s1 hr => ?_
  match r, hr with
  | .error e, hr => exact hr
  | .ok (.ret o), ⟨e1, e2⟩ =>
    subst e1; subst e2
    have gS : (s.heap.push (newS w)).get? s.heap.objs.size = some (newS w) := Heap.get?_push_size _ rfl
    have tS : Shared.TypeIs { s with heap := s.heap.push (newS w) } (.ref s.heap.objs.size) "set" := ⟨_, gS, rfl⟩
    have lk := F.called_set.init.lookup
    have bd := F.called_set.init.bind (.ref s.heap.objs.size)
    repeat (any_goals (first | assumption | wp_step))
    refine codeAny_mono (set_init_lst (E := E) ns (by simp [hh]) hl hi hb) fun r2 s2 hr2 => ?_
    match r2, hr2 with
    | .error e, hr2 => exact hr2
    | .ok (.ret v), ⟨e1, h', tk, e2, full⟩ =>
      subst e1; subst e2
      repeat (any_goals (first | assumption | wp_step))
      exact q _ _ full
theorem rising_of {l : List Int} (h : l.Pairwise (· ≤ ·)) (d : l.Nodup) : l.Pairwise (· < ·) := h.imp₂ (fun a b h ne => by omega) d
/-- sorted(s) of a set of ints, any number of them -/
theorem sorted_of_set {a : Addr} {S : Int → Bool} {n : Nat} {Q : Value → Shared → Prop} (R : SetR w s.heap a S n) (hh : A.handled = none)
    (q : ∀ s' p (vs : List Value) (c : Nat) (ns : List Int), (∀ b o, s.heap.get? b = some o → s'.heap.get? b = some o) → s'.gens = s.gens → s'.os = s.os → s.heap.objs.size ≤ p → s'.heap.get? p = some (seqObj "list" vs.toArray c) →
      IntsAre vs ns → ns.Pairwise (· < ·) → (∀ k, k ∈ ns ↔ S k = true) → ns.length = n → Q (.ref p) s') : wpAny (model P w) A (call (.builtin "sorted") [.ref a]) Q E s := by
  obtain ⟨o, es, ep, t, ho, ex, hd, good, nd, mem, small, fit, cnt, ris, led⟩ := R
  refine Calls.call_function_entry kind_sorted plain_sorted entry_sorted (args_sorted1 _) ?_
  unfold Builtin.«sorted»
  refine wpAny_bind (m := checkCount "sorted" 1 1 _) (wpAny_pure (wpAny_bind (collect_set (A := A.in1) hh ⟨o, ho, ex.1, hd⟩ fit small ris led fun s1 out keep big g1 o1 perm => ?_)))
  have len : out.length = es.size := by rw [perm.length_eq, List.length_map, Array.length_toList]
  have hin : IntsAre out (out.map SrtO.iv) := SrtO.ints_iv fun v hv => by
    obtain ⟨e, he, ev⟩ := List.mem_map.mp (perm.mem_iff.mp hv)
    obtain ⟨k, tk, h1, _⟩ := good e he
    exact ⟨k, tk, ev.symm.trans h1⟩
  have keys : (out.map SrtO.iv).Perm (es.toList.map keyOf) := by
    have z := perm.map SrtO.iv
    rw [List.map_map] at z
    rwa [show es.toList.map (SrtO.iv ∘ fun x : Int × Value => x.2) = es.toList.map keyOf from List.map_congr_left fun e he => by
      obtain ⟨k, tk, h1, _⟩ := good e he
      obtain ⟨h, v⟩ := e
      have h1 : v = Value.int k tk := h1
      subst h1; rfl] at z
  have fits : out.length ≤ sizeLine := by rw [len]; exact fits_of_scanBound small
  refine wpAny_bind (wpAny_newList ?_ fits)
  have gL : (s1.heap.push (seqObj "list" out.toArray 0)).get? s1.heap.objs.size = some (seqObj "list" out.toArray 0) := Heap.get?_push_size _ rfl
  refine wpAny_bind (wpAny_holding (wpAny_call_entry slot_list_sort ⟨_, gL, rfl⟩ entry_list_sort (SrtO.list_sort_ord SrtO.swo_int gL fits (fun h2 => SrtO.ints_sortable hin h2) fun zs k1 k2 => ⟨.none, rfl, ?_⟩) (args_list_sort _)))
  obtain ⟨j1, j2, j3⟩ := SrtO.ints_out hin k1 k2
  obtain ⟨c, hc⟩ := sortedHeap_at (vs := out) (out := zs.toArray) gL
  have all := j2.trans keys
  refine wpAny_pure ⟨_, rfl, q _ s1.heap.objs.size zs c (zs.map SrtO.iv) (fun b u e => ?_) g1 o1 big hc j1 (rising_of j3 (all.nodup_iff.mpr nd)) (fun k => by rw [all.mem_iff, ← mem k]) (by rw [all.length_eq, List.length_map, Array.length_toList]; exact cnt)⟩
  have z := keep b u e
  have lt := Heap.lt_size z
  show (sortedHeap (s1.heap.push (seqObj "list" out.toArray 0)) s1.heap.objs.size out zs.toArray).get? b = some u
  rw [sortedHeap_old (Nat.ne_of_lt lt) (by rw [size_push']; exact Nat.lt_succ_of_lt lt)]
  exact Heap.get?_push_of_some _ z
end
def tSrtSet (K : PySem.W.Frag) (ta : TE) : TE := fun σ H Q => ta σ H fun v H1 => ∃ (l : Addr) (ns : List Int), v = .ref l ∧ SqL K H1 l (ns.map V.int) ∧ ns.length ≤ 1000 ∧
  ∀ (out : List Int) (p : Addr), out.Pairwise (· < ·) → (∀ k, k ∈ out ↔ k ∈ ns) → H1 p = none → Q (.ref p) (upd H1 p (.lst (out.map V.int)))
section
variable {X : Cx} {W : WX} {a : Expr} {ta : TE} {wa : WE} {p p2 pos pos2 : Pos}
theorem pe_srtSet (hc : X.calm = true) (hg : Gl X "sorted") (hm : X.mg "sorted" = none) (hg2 : Gl X "set") (hm2 : X.mg "set" = none) (ha : PE X a ta) (na : starEach [a] X.env = (false, eval a X.env) :: starEach [] X.env := by rfl) :
    PE X (.Call (.Name "sorted" p) [.Call (.Name "set" p2) [a] [] pos2] [] pos) (tSrtSet X.K ta) := by
  refine ⟨fun pins s σ H Q I h => Call_ (ld_blt I hg hm boot_sorted (callWith_builtin1 (args_cons (Call_ (ld_blt I hg2 hm2 PyProof.Rows.boot_set (PyProof.Rows.callWith_type1 (args_cons (thn (ha.run pins s σ H _ I h) fun v s1 ⟨x, H1, I1, r1, q1⟩ => args_nil ?_) na) na))) rfl) rfl rfl))⟩
  obtain ⟨l, ns, rfl, hq, hz, q⟩ := q1
  cases r1
  obtain ⟨its, rv, pl, _⟩ := I1.list hq
  refine set_of_lst ns (I1.ok.hd hc) pl.isList (by simpa using rv.ints) (by unfold scanBound; omega) fun h' tk ⟨⟨c, hcn, R⟩, keep⟩ => args_nil ?_
  refine sorted_of_set (s := { s1 with heap := h', toks := tk }) R (I1.ok.hd hc) fun s2 p vs k out keep2 g2 o2 big hp hi up mem len => ?_
  have all : ∀ b o, s1.heap.get? b = some o → s2.heap.get? b = some o := fun b o e => keep2 b o (keep b o e)
  have lt1 : s1.heap.objs.size ≤ h'.objs.size := by
    obtain ⟨o, es, ep, t, ho, _⟩ := R
    exact Nat.le_of_lt (Heap.lt_size ho)
  have hp1 : s1.heap.objs.size ≤ p := Nat.le_trans lt1 big
  have small : (out.map V.int).length ≤ sizeLine := by
    rw [List.length_map, len]
    exact Nat.le_trans hcn (Nat.le_trans hz (by decide))
  have none : H1 p = none := I1.hok.fresh hp1
  have J : Inv X pins σ (upd H1 p (.lst (out.map V.int))) { s1 with heap := s2.heap, gens := s2.gens, drawn := s2.drawn, toks := s2.toks } :=
    I1.call (ch := []) (Un.laid all hp1 none) (I1.hok.laid all hp1 ⟨small, vs, k, vals_of_ints hi, hp⟩) (by rw [g2]; exact I1.bare) (fun _ z => nomatch z)
  have e : s2 = { s1 with heap := s2.heap, gens := s2.gens, drawn := s2.drawn, toks := s2.toks } := by
    obtain ⟨_, _, _, _, _⟩ := s2
    have o2 : _ = s1.os := o2
    subst o2; rfl
  rw [e]
  exact ⟨.ref p, _, J, rfl, q out p up (fun j => by rw [mem j]; exact decide_eq_true_iff) none⟩
/-- sorted(set(xs)) -/
def wSrtSet (wa : WE) : WFr := fun env M Q E => wa env M (fun d M1 => ∃ l ns, lsD d M1 = some l ∧ insD l = some ns ∧ ns.length ≤ 1000 ∧ ∀ out : List Int, out.Pairwise (· < ·) → (∀ k, k ∈ out ↔ k ∈ ns) → Q (out.map .int) M1) E
theorem reps_ints {K : PySem.W.Frag} {H : Hp} {μ : Mu} : ∀ ns : List Int, Reps K H μ (ns.map V.int) (ns.map .int)
  | [] => .nil
  | n :: ns => .cons (.int n) (reps_ints ns)
theorem df_srtSet (hc : X.calm = true) (hg : Gl X "sorted") (hm : X.mg "sorted" = none) (hg2 : Gl X "set") (hm2 : X.mg "set" = none) (ha : DE X W a wa) (na : starEach [a] X.env = (false, eval a X.env) :: starEach [] X.env := by rfl) :
    DF X W (.Call (.Name "sorted" p) [.Call (.Name "set" p2) [a] [] pos2] [] pos) (wSrtSet wa) := by
  refine ⟨pe_mono (pe_srtSet hc hg hm hg2 hm2 ha.pe na) fun σ H Q ⟨env, μ, M, QD, ED, re, rs, hw, hq, hx⟩ => ⟨env, μ, M, _, ED, re, rs, hw, fun v H1 μ1 d M1 k1 rs1 r1 ⟨l, ns, hl, hi, hz, q1⟩ => ?_, hx⟩⟩
  obtain ⟨b, vs, rfl, h1, rr⟩ := r1.ls rs1 hl
  have ew := ins_V rr hi
  subst ew
  exact ⟨b, ns, rfl, .of h1, hz, fun out p up mem hp => fin_lst (σ := σ) hq k1 rs1 (reps_ints out) (q1 out up mem) (p := p) (hp := hp) (hp0 := none_of_keep k1 rs1 hp)⟩
end
end DL

/-! DLkf: xs[::k] of a list, k an expression that gives 1 or -1. Own work. -/
namespace DL
open PySem PySem.Spec PyProof.Rows L2
theorem range_one (n : Nat) : sliceRange 0 (n : Int) 1 = List.range n := by
  unfold sliceRange
  have h1 : ((1 : Int) > 0) := by decide
  rcases Nat.eq_zero_or_pos n with h | h
  · subst h; rfl
  · have e : ((n : Int) - 0 + 1 - 1) / 1 = (n : Int) := by rw [Int.ediv_one]; omega
    simp only [h1, if_true, show ((n : Int) > 0) by omega, e, Int.toNat_natCast]
    conv => rhs; rw [← List.map_id (List.range n)]
    refine List.map_congr_left fun k _ => ?_
    show (0 + 1 * (k : Int)).toNat = k
    omega
theorem pick_one (its : Array Value) : slicePick its none none (some 1) = its := by
  unfold slicePick
  show ((sliceRange 0 (its.size : Int) 1).filterMap (its[·]?)).toArray = its
  rw [range_one, PySem.W.krv_all, Array.toArray_toList]
def tStepL (K : PySem.W.Frag) (te : TE) (ts : TO) : TE := fun σ H Q => te σ H fun x H1 => ts σ H1 fun o H2 => ∃ (a : Addr) (xs : List V), x = .ref a ∧ SqL K H2 a xs ∧
  ((o = some 1 ∧ ∀ p, H2 p = none → Q (.ref p) (upd H2 p (.lst xs))) ∨ (o = some (-1) ∧ ∀ p, H2 p = none → Q (.ref p) (upd H2 p (.lst xs.reverse))))
section
variable {X : Cx} {W : WX} {a e st : Expr} {te : TE} {ts : TO} {wa : WE} {ws : WO} {p3 pos : Pos}
theorem pe_stepL (he : PE X e te) (hs : PO X (some st) ts) : PE X (.Subscript e (.Slice none none (some st) p3) pos) (tStepL X.K te ts) := by
  refine ⟨fun pins s σ H Q I h => Subscript_ (thn (he.run pins s σ H _ I h) fun v s1 ⟨x, H1, I1, r1, q1⟩ => ?_)⟩
  refine wpAny_Slice (thn (po_none.run pins s1 σ H1 (fun o H2 => o = none ∧ H2 = H1) I1 ⟨rfl, rfl⟩) fun v1 s2 ⟨o1, H2, I2, n1, e1, e2⟩ => ?_)
  subst e1 e2
  refine thn (po_none.run pins s2 σ H2 (fun o H3 => o = none ∧ H3 = H2) I2 ⟨rfl, rfl⟩) fun v2 s3 ⟨o2, H3, I3, n2, e3, e4⟩ => ?_
  subst e3 e4
  refine thn (hs.run pins s3 σ H3 _ I3 q1) fun v3 s4 ⟨o3, H4, I4, n3, q4⟩ => ?_
  obtain ⟨a, xs, ex, hx, q⟩ := q4
  subst ex
  cases r1
  have J : Inv X pins σ H4 { s4 with heap := s4.heap.push { cls := .type "slice", data := .fields #[v1, v2, v3] } } := I4.kept (t' := s4.toks) fun b o z => Heap.get?_push_of_some _ z
  obtain ⟨its, r, pl, hz⟩ := J.list hx
  have len := r.length
  show wpAny (model X.prog X.w) X.A (subscriptTail e (.Slice none none (some st) p3) (.ref a) (.ref s4.heap.objs.size)) (EP X pins σ Q) X.xe { s4 with heap := s4.heap.push { cls := .type "slice", data := .fields #[v1, v2, v3] } }
  refine tail_any (ops := [.ref a, .ref s4.heap.objs.size]) pl.isList.typeIs PySem.slot_list_getitem.lookup ?_ (by with_unfolding_all rfl)
  rcases q with ⟨rfl, q⟩ | ⟨rfl, q⟩
  · refine wpAny_getItem_list_slice pl.isList (Heap.IsSliceOf.new _ v1 v2 v3) n1 n2 n3 (by decide) ?_ (by rw [List.size_toArray]; omega)
    rw [pick_one]
    exact ⟨.ref _, _, J.laid (t' := s4.toks) (o := .lst xs) (fun b o z => Heap.get?_push_of_some _ z) (Nat.le_refl _) ⟨hz, its, 0, r, Heap.get?_push_size _ rfl⟩, rfl, q _ (J.hok.fresh (Nat.le_refl _))⟩
  · refine wpAny_getItem_list_slice pl.isList (Heap.IsSliceOf.new _ v1 v2 v3) n1 n2 n3 (by decide) ?_ (by rw [List.size_toArray]; omega)
    rw [PySem.W.krv_pick]
    exact ⟨.ref _, _, J.laid (t' := s4.toks) (o := .lst xs.reverse) (fun b o z => Heap.get?_push_of_some _ z) (Nat.le_refl _) ⟨by rw [List.length_reverse]; exact hz, _, 0, r.reverse, Heap.get?_push_size _ rfl⟩, rfl, q _ (J.hok.fresh (Nat.le_refl _))⟩
/-- xs[::k] -/
def wStepL (wa : WE) (ws : WO) : WFr := fun env M Q E => wa env M (fun d M1 => ws env M1 (fun o M2 => ∃ l, lsD d M2 = some l ∧ ((o = some 1 ∧ Q l M2) ∨ (o = some (-1) ∧ Q l.reverse M2))) E) E
theorem df_stepL (ha : DE X W a wa) (hs : DO X W (some st) ws) : DF X W (.Subscript a (.Slice none none (some st) p3) pos) (wStepL wa ws) := by
  refine ⟨pe_mono (pe_stepL ha.pe hs.po) fun σ H Q ⟨env, μ, M, QD, ED, re, rs, hw, hq, hx⟩ => ⟨env, μ, M, _, ED, re, rs, hw, fun v H1 μ1 d M1 k1 rs1 r1 q1 => ?_, hx⟩⟩
  refine ⟨env, μ1, M1, fun o M2 => ∃ l, lsD d M2 = some l ∧ ((o = some 1 ∧ QD l M2) ∨ (o = some (-1) ∧ QD l.reverse M2)), ED, re.keep k1, rs1, q1, fun o H2 μ2 M2 k2 rs2 q2 => ?_, hx.keep k1⟩
  · obtain ⟨l, hl, q2⟩ := q2
    obtain ⟨b, vs, rfl, h1, rr⟩ := (r1.keep k2).ls rs2 hl
    have k := k1.trans k2
    refine ⟨b, vs, rfl, .of h1, ?_⟩
    rcases q2 with ⟨rfl, q2⟩ | ⟨rfl, q2⟩
    · exact .inl ⟨rfl, fun p hp => fin_lst (σ := σ) hq k rs2 rr q2 (p := p) (hp := hp) (hp0 := none_of_keep k rs2 hp)⟩
    · exact .inr ⟨rfl, fun p hp => fin_lst (σ := σ) hq k rs2 rr.reverse q2 (p := p) (hp := hp) (hp0 := none_of_keep k rs2 hp)⟩
end
end DL

/-! DLkg: a function without a name of one parameter, handed as the fourth thing to a def that calls it. What it captures is data of tuples, whole numbers, texts, None. Own work. -/
namespace DL
open PySem PySem.Spec PyProof.Rows L2
mutual
def flatB : D → Bool
  | .non => true
  | .bl _ => true
  | .int _ => true
  | .str _ => true
  | .ty _ => true
  | .tup l => flatsB l
  | _ => false
def flatsB : List D → Bool
  | [] => true
  | d :: l => flatB d && flatsB l
end
section
variable {K : PySem.W.Frag} {H H' : Hp} {μ μ' : Mu}
theorem sqt_on (ht : ∀ b xs, H b = some (.tup xs) → H' b = some (.tup xs)) (hf : ∀ b o u, H b = some (.frz o u) → H' b = some (.frz o u)) {a : Addr} {xs : List V} (h : SqT K H a xs) : SqT K H' a xs := by
  rcases h with (h | ⟨o, h⟩) | h
  · exact .inl (.inl (ht _ _ h))
  · exact .inl (.inr ⟨o, hf _ _ _ h⟩)
  · exact .inr h
mutual
theorem Rep.flat (ht : ∀ b xs, H b = some (.tup xs) → H' b = some (.tup xs)) (hf : ∀ b o u, H b = some (.frz o u) → H' b = some (.frz o u)) : ∀ {v : V} {d : D}, Rep K H μ v d → (flatB d = true → Rep K H' μ' v d)
  | _, _, .non => fun _ => .non
  | _, _, .bl b => fun _ => .bl b
  | _, _, .int i => fun _ => .int i
  | _, _, .str x => fun _ => .str x
  | _, _, .ty n => fun _ => .ty n
  | _, _, .ref _ => fun e => (Bool.false_ne_true (show false = true from e)).elim
  | _, _, .exc _ => fun e => (Bool.false_ne_true (show false = true from e)).elim
  | _, _, .tup h r => fun e => .tup (sqt_on ht hf h) (Reps.flat ht hf r (show flatsB _ = true from e))
  | _, _, .lst _ _ _ _ => fun e => (Bool.false_ne_true (show false = true from e)).elim
  | _, _, .fix _ _ => fun e => (Bool.false_ne_true (show false = true from e)).elim
  | _, _, .dct _ _ _ => fun e => (Bool.false_ne_true (show false = true from e)).elim
  | _, _, .dh _ _ => fun e => (Bool.false_ne_true (show false = true from e)).elim
  | _, _, .han _ _ => fun e => (Bool.false_ne_true (show false = true from e)).elim
theorem Reps.flat (ht : ∀ b xs, H b = some (.tup xs) → H' b = some (.tup xs)) (hf : ∀ b o u, H b = some (.frz o u) → H' b = some (.frz o u)) : ∀ {vs : List V} {ds : List D}, Reps K H μ vs ds → (flatsB ds = true → Reps K H' μ' vs ds)
  | _, _, .nil => fun _ => .nil
  | _, _, .cons r t => fun e => .cons (Rep.flat ht hf r ((Bool.and_eq_true _ _).mp (show (flatB _ && flatsB _) = true from e)).1) (Reps.flat ht hf t ((Bool.and_eq_true _ _).mp (show (flatB _ && flatsB _) = true from e)).2)
end
end
/-- the captured slots -/
def capGo (cs : List Nat) : Nat → En → En
  | _, [] => []
  | i, e :: r => (if cs.contains i then e else none) :: capGo cs (i + 1) r
def capOk (cs : List Nat) (env : En) : Bool := (capGo cs 0 env).all fun o => match o with
  | some d => flatB d
  | none => true
theorem capGo_len (cs : List Nat) : ∀ (i : Nat) (env : En), (capGo cs i env).length = env.length
  | _, [] => rfl
  | i, e :: r => by rw [capGo, List.length_cons, capGo_len, List.length_cons]
theorem capGo_get (cs : List Nat) : ∀ (i : Nat) (env : En) (j : Nat) (d : D), (capGo cs i env)[j]? = some (some d) → env[j]? = some (some d)
  | _, [], j, d, h => by simp [capGo] at h
  | i, e :: r, 0, d, h => by
    have h : some (if cs.contains i then e else none) = some (some d) := h
    split at h
    · exact h
    · cases h
  | i, e :: r, j + 1, d, h => capGo_get cs (i + 1) r j d h
/-- a function handed over: where it is, what it does -/
structure Pt where
  f : Addr
  w : WF
def lamW (cap : En) (j : Nat) (wb : WE) : WF := fun ds M Q _ => match ds with
  | [d] => wb (cap.set j (some d)) M Q EX0
  | _ => False
/-- y(z) of the function handed over in slot i, z in slot l -/
def wAct (pt : Pt) (i l : Nat) : WE := fun env M Q E => env[i]? = some (some (.ref pt.f)) ∧ ∃ d, env[l]? = some (some d) ∧ pt.w [d] M Q E
/-- parted(e1, e2, e3, lambda z: e) -/
def wLam3 (wf : Pt → WF) (cs : List Nat) (j : Nat) (w1 w2 w3 wb : WE) : WE := fun env M Q E => w1 env M (fun d1 M1 => w2 env M1 (fun d2 M2 => w3 env M2 (fun d3 M3 => capOk cs env = true ∧ ∀ f : Addr, wf ⟨f, lamW (capGo cs 0 env) j wb⟩ [d1, d2, d3, .ref f] M3 Q E) E) E) E
theorem among_more {pos : Pos} {c : Value} {more : List Value} : ∀ (l : List Value), TriplesOk l → codeAmong pos l = some c → codeAmong pos (l ++ more) = some c
  | [], _, h => by cases h
  | .int a t :: .int b u :: x :: rest, tr, h => by
    have h : (if (a == (pos.line : Int) && b == (pos.col : Int)) = true then some x else codeAmong pos rest) = some c := h
    show (if (a == (pos.line : Int) && b == (pos.col : Int)) = true then some x else codeAmong pos (rest ++ more)) = some c
    by_cases e : (a == (pos.line : Int) && b == (pos.col : Int)) = true
    · rw [if_pos e] at h ⊢; exact h
    · rw [if_neg e] at h ⊢; exact among_more rest tr h
section
variable {X : Cx} {pins : List (Addr × Obj)} {σ : L2.St} {H : Hp} {s : Shared}
/-- the code object that the function has stands in the table -/
def CodeIn (H : Hp) (P c : Addr) (pos : Pos) : Prop := ∃ ps : Array Value, H P = some (.tbl ps) ∧ TriplesOk ps.toList ∧ codeAmong pos ps.toList = some (.ref c)
theorem lam_made3 {T : List (Addr × Str)} {c P : Addr} {params : Arguments} {body : Expr} {lam : Scope} {pos : Pos} {E : Value → Shared → Prop} {Q : Value → Shared → Prop} (I : Inv X pins σ H s) (tb : LamX.TabB X.base X.mg c P) (code : X.env.code = .ref c)
    (mem : (P, X.env.qual ++ "<lambda>") ∈ T) (one : ∀ p ∈ T, p.1 = P → p.2 = X.env.qual ++ "<lambda>") (tabs : LamX.Tabs T H) (dfl : defaultsOf params X.env = ([], [])) (cls : ∀ y ∈ lam.names, y.2 = .free → ∃ a, X.env.cells.lookup y.1 = some a)
    (go : ∀ (f c' : Addr) (pm ctv : Value) (H1 : Hp) (s' : Shared), Inv X pins σ H1 s' → LamX.ExtN H H1 → (∀ a ps, H a = some (.tbl ps) → ∃ ps', H1 a = some (.tbl ps')) → LamX.Tabs T H1 →
      s'.heap.get? f = some (PySem.W.kla_obj "<lambda>" (X.env.qual ++ "<lambda>") params body lam (cloFrom X.env.cells lam.names []) pm c' ctv) → H1 f = none → f ∉ frs X.stack → CodeIn H1 P c' pos → Q (.ref f) s') :
    wpAny (model X.prog X.w) X.A (eval (.Lambda params body lam pos) X.env) Q E s := by
  obtain ⟨ps, atP, tri, all⟩ := tabs _ mem
  have bAt : s.heap.BuiltinsAt X.mg P := tb.bm.keeps I.bk
  have hAt : s.heap.get? P = some { cls := .none, data := .fields ps } := I.hok P _ atP
  have away : ∀ f, s.heap.objs.size ≤ f → f ∉ frs X.stack := by
    intro f hf z
    cases List.mem_cons.mp (I.stkSub _ z) with
    | inl e => exact absurd I.lt (by rw [← e]; exact Nat.not_lt.mpr hf)
    | inr e => exact I.nofs hf e
  apply PySem.W.kla_eval dfl
  cases hit : codeAmong pos ps.toList with
  | some cv =>
    obtain ⟨c', rfl, co⟩ := all pos cv hit
    apply PySem.W.kla_makeFunctionHit (mg := X.mg) (c := c) (P := P) (ps := ps) (closure_ok cls) I.ok.glob (I.mod.glob.keeps I.bk) code (tb.code.keeps I.bk) hAt tri hit bAt
    intro ctv h' tk hx hsz
    have I1 : Inv X pins σ H { s with heap := h'.push (PySem.W.kla_obj "<lambda>" (X.env.qual ++ "<lambda>") params body lam (cloFrom X.env.cells lam.names []) ((X.mg "__name__").getD .none) c' ctv), toks := tk } := I.kept fun b o e => Heap.get?_push_of_some _ (hx b o e)
    exact go h'.objs.size c' _ ctv H _ I1 (LamX.ExtN.refl H) (fun _ ps e => ⟨ps, e⟩) tabs (Heap.get?_push_size _ rfl) (I.hok.fresh hsz) (away _ hsz) ⟨ps, atP, tri, hit⟩
  | none =>
    apply PySem.W.kla_makeFunction (mg := X.mg) (c := c) (P := P) (ps := ps) (closure_ok cls) I.ok.glob (I.mod.glob.keeps I.bk) code (tb.code.keeps I.bk) hAt tri hit tb.gP bAt
    intro c' ctv h' tk hx hge hlt rec_ htab
    obtain ⟨c2, oc, vs, t, e2, hoc, hd, hv⟩ := rec_
    cases e2
    have big : s.heap.objs.size ≤ h'.objs.size := Nat.le_trans hge (Nat.le_of_lt hlt)
    have new_ : H c' = none := I.hok.fresh hge
    have J := LamX.inv_table (t' := tk) (q := X.env.qual ++ "<lambda>") (more := #[rawInt pos.line, rawInt pos.col, .ref c']) (h' := h'.push (PySem.W.kla_obj "<lambda>" (X.env.qual ++ "<lambda>") params body lam (cloFrom X.env.cells lam.names []) ((X.mg "__name__").getD .none) c' ctv)) I atP
      (fun b o ne e => Heap.get?_push_of_some _ (hx b o ne e)) (Heap.get?_push_of_some _ htab) hge ⟨oc, vs, t, Heap.get?_push_of_some _ hoc, hd, hv⟩
    have nePc : P ≠ c' := ne_of_none atP new_
    have at1 : upd (upd H P (.tbl (ps ++ #[rawInt pos.line, rawInt pos.col, .ref c']))) c' (LamX.CodeO c' (X.env.qual ++ "<lambda>")) P = some (.tbl (ps ++ #[rawInt pos.line, rawInt pos.col, .ref c'])) := by rw [upd_ne nePc, upd_same]
    have ext : LamX.ExtN H (upd (upd H P (.tbl (ps ++ #[rawInt pos.line, rawInt pos.col, .ref c']))) c' (LamX.CodeO c' (X.env.qual ++ "<lambda>"))) := by
      intro b o e n
      rw [upd_ne (ne_of_none e new_), upd_ne]
      · exact e
      · rintro rfl
        rw [atP] at e
        exact n ps (Option.some.inj e).symm
    have tri2 : TriplesOk (ps ++ #[rawInt pos.line, rawInt pos.col, Value.ref c']).toList := by rw [Array.toList_append]; exact PySem.TriplesOk_snoc _ _ _ _ tri
    refine go h'.objs.size c' _ ctv _ _ J ext ?_ ?_ (Heap.get?_push_size _ rfl) ?_ (away _ big) ⟨_, at1, tri2, by rw [Array.toList_append]; exact codeAmong_snoc _ tri hit⟩
    · intro a qs e
      by_cases z : a = P
      · subst z
        exact ⟨_, at1⟩
      · exact ⟨qs, by rw [upd_ne (ne_of_none e new_), upd_ne z]; exact e⟩
    · intro p hp
      by_cases z : p.1 = P
      · rw [one p hp z, z]
        refine ⟨_, at1, tri2, fun p' cv hcv => ?_⟩
        rw [Array.toList_append] at hcv
        rcases LamX.among_app (pos := pos) _ tri hcv with y | y
        · obtain ⟨c0, q1, q2⟩ := all p' cv y
          exact ⟨c0, q1, ext _ _ q2 LamX.codeO_ne⟩
        · exact ⟨c', y, upd_same⟩
      · obtain ⟨qs, q1, q2, q3⟩ := tabs p hp
        refine ⟨qs, by rw [upd_ne (ne_of_none q1 new_), upd_ne z]; exact q1, q2, fun p' cv hcv => ?_⟩
        obtain ⟨c0, r1, r2⟩ := q3 p' cv hcv
        exact ⟨c0, r1, ext _ _ r2 LamX.codeO_ne⟩
    · rw [upd_ne (Nat.ne_of_gt hlt), upd_ne (Nat.ne_of_gt (Nat.lt_of_lt_of_le (Heap.lt_size hAt) big))]
      exact I.hok.fresh big
end
section
variable {X : Cx} {pins : List (Addr × Obj)} {σ : L2.St} {H : Hp} {s : Shared}
theorem de_act {CXg : CXT} {Eg : XK} {Wg : WX} {Ng : List Str} {qg : Str} {sg : Scope} {g f c P : Addr} {cdg pm ctv : Value} {params : Arguments} {body : Expr} {lam : Scope} {lpos : Pos} {k i l j : Nat} {x a b : Str} {wb : WE} {cs : List Nat} {env : En} {μ : Mu}
    (I : Inv X pins σ H s) (L : Lam1 X.env.scope lam x) (nd : X.N.Nodup) (hj : X.N[j]? = some x) (at_ : s.heap.get? f = some (PySem.W.kla_obj "<lambda>" (X.env.qual ++ "<lambda>") params body lam (cloFrom X.env.cells lam.names []) pm c ctv)) (hfn : H f = none) (hfr : f ∉ frs X.stack)
    (bind : ∀ u, bindArgs (PySem.W.kla_fn "<lambda>" (X.env.qual ++ "<lambda>") params body lam (cloFrom X.env.cells lam.names []) pm (.ref c) ctv) ⟨[u], []⟩ = pure [(x, u)])
    (room : Room (k + 1) (X.A.deeper (envOfC qg sg s.heap.objs.size g cdg)))
    (run : ∀ (A : Around) (outer : List Env) (s : Shared) (H : Hp), Room k (A.deeper (LamX.lamEnv X lam s.heap.objs.size f c)) → DE (lamC X A outer s H lam f c) W0 body wb)
    (ha : Ng[i]? = some a) (va : Vis sg a) (hb : Ng[l]? = some b) (vb : Vis sg b) (da : (a == ("__debug__" : Str)) = false) (ca : (a == ("__classdict__" : Str)) = false) (db : (b == ("__debug__" : Str)) = false) (cb : (b == ("__classdict__" : Str)) = false)
    (re : RelE X.K H μ σ env) (flat : capOk cs env = true) (cod : CodeIn H P c lpos) (mem : (P, X.env.qual ++ "<lambda>") ∈ lamT X.K) {p1 p2 p3 : Pos} :
    DE (cxOf CXg X.prog X.w X.K X.mg X.base Ng qg sg g cdg X.A X.stack s H Eg) Wg (.Call (.Name a p1) [.Name b p3] [] p2) (wAct ⟨f, lamW (capGo cs 0 env) j wb⟩ i l) := by
  refine ⟨⟨fun pinsZ sZ σZ HZ Q IZ ⟨envZ, μZ, MZ, QD, ED, reZ, rsZ, ⟨w1, d, w2, w3⟩, hq, hx⟩ => ?_⟩⟩
  have un : Un (frs X.stack) [] H HZ s.heap sZ.heap := IZ.base
  obtain ⟨v1, e1, r1⟩ := reZ.2 i _ w1
  obtain ⟨v2, e2, r2⟩ := reZ.2 l _ w2
  cases r1
  have co : HZ c = some (LamX.CodeO c (X.env.qual ++ "<lambda>")) := by
    obtain ⟨ps, atP, tri, hit⟩ := cod
    obtain ⟨more, atZ⟩ := un.tbls _ _ atP
    obtain ⟨qs, q1, q2, q3⟩ := rsZ.tb _ mem
    have q1 : HZ P = some (.tbl qs) := q1
    rw [atZ] at q1
    have eq : ps ++ more = qs := by cases q1; rfl
    have hit2 : codeAmong lpos qs.toList = some (.ref c) := by rw [← eq, Array.toList_append]; exact among_more _ tri hit
    obtain ⟨c0, z1, z2⟩ := q3 lpos _ hit2
    cases z1
    exact z2
  have rel : RelE X.K HZ μZ σ (capGo cs 0 env) := by
    refine ⟨by rw [capGo_len]; exact re.1, fun n d hd => ?_⟩
    obtain ⟨v, h1, h2⟩ := re.2 n d (capGo_get cs 0 env n d hd)
    have fl : flatB d = true := List.all_eq_true.mp flat _ (List.mem_of_getElem? hd)
    exact ⟨v, h1, h2.flat un.tups un.frzs fl⟩
  exact (pe_lamact (tb := tD X.K W0 wb) (CXg := CXg) (Eg := Eg) (Ng := Ng) (qg := qg) (sg := sg) (g := g) (cdg := cdg) (a := a) (b := b) (i := i) (l := l) (p1 := p1) (p2 := p2) (p3 := p3) I L nd hj at_ hfn hfr bind room
    (fun A outer s H rm => (run A outer s H rm).pe) ha va hb vb da ca db cb).run pinsZ sZ σZ HZ Q IZ ⟨e1, co, v2, e2, _, μZ, MZ, QD, EX0, rel.set j r2, rsZ, w3, hq, xe0⟩
end
section
variable {X : Cx} {W : WX}
theorem de_lam3 {x a b : Str} {g : Addr} {fdg : FuncData} {pg : Arguments} {bg : List Stmt} {sg : Scope} {Ng ps : List Str} {k kb i l j : Nat} {y : Str} {r : LamR} {params : Arguments} {body e1 e2 e3 : Expr} {lam : Scope} {w1 w2 w3 wb : WE} {wbody : Pt → WS} {wf : Pt → WF} {p lpos pos : Pos} (cs : List Nat)
    (F : FunD X.K x x pg bg sg [] [] g fdg) (hm : X.mg x = some (.ref g)) (hg : Gl X x) (hb : Binds X.K fdg ps []) (Sg : FnScope Ng ps sg) (hn : ps.length = 4)
    (body_ : ∀ (pt : Pt) (cdv : Value) (A : Around) (outer : List Env) (s : Shared) (H : Hp) (E : XK), Room kb (A.deeper (envOfC x sg s.heap.objs.size g cdv)) →
      (∀ p1 p2 p3 : Pos, DE (cxOf (L2N.CX X.prog X.w) X.prog X.w X.K X.mg X.base Ng x sg g cdv A outer s H E) (WXo E) (.Call (.Name a p1) [.Name b p3] [] p2) (wAct pt i l)) →
      DB (cxOf (L2N.CX X.prog X.w) X.prog X.w X.K X.mg X.base Ng x sg g cdv A outer s H E) (WXo E) bg (wbody pt))
    (spec : ∀ (pt : Pt) (ds : List D) (M : Me) (QD : D → Me → Prop) (ED : EX → Me → Prop), ds.length = 4 → wf pt ds M QD ED → wbody pt (env0 Ng.length ds) M (retE M QD ED))
    (ha : Ng[i]? = some a) (va : Vis sg a) (hb_ : Ng[l]? = some b) (vb : Vis sg b) (da : (a == ("__debug__" : Str)) = false) (ca : (a == ("__classdict__" : Str)) = false) (db : (b == ("__debug__" : Str)) = false) (cb : (b == ("__classdict__" : Str)) = false)
    (TF : TabF X.K X.mg X.base) (hr_ : r ∈ lamRs X.K) (code : X.env.code = .ref r.c) (nm : r.q = X.env.qual ++ "<lambda>") (L : Lam1 X.env.scope lam y) (nd : X.N.Nodup) (hj : X.N[j]? = some y) (dfl : defaultsOf params X.env = ([], []))
    (bind : ∀ (cl : List (Str × Addr)) (pm cv ctv u : Value), bindArgs (PySem.W.kla_fn "<lambda>" (X.env.qual ++ "<lambda>") params body lam cl pm cv ctv) ⟨[u], []⟩ = pure [(y, u)]) (room : Room (kb + 1) X.A) (hk : k + 1 ≤ kb)
    (tk : L2N.Takes X W) (d1 : DE X W e1 w1) (d2 : DE X W e2 w2) (d3 : DE X W e3 w3) (run : ∀ (A : Around) (outer : List Env) (s : Shared) (H : Hp) (f c : Addr), Room k (A.deeper (LamX.lamEnv X lam s.heap.objs.size f c)) → DE (lamC X A outer s H lam f c) W0 body wb)
    (hdb : (x == ("__debug__" : Str)) = false) (hs1 : starEach [e1, e2, e3, .Lambda params body lam lpos] X.env = (false, eval e1 X.env) :: starEach [e2, e3, .Lambda params body lam lpos] X.env := by rfl) (hpl : (backTo pos (starEach [e2, e3, .Lambda params body lam lpos] X.env)).any (·.1) = false := by rfl) (hs : starEach [e1, e2, e3, .Lambda params body lam lpos] X.env = (false, eval e1 X.env) :: (false, eval e2 X.env) :: (false, eval e3 X.env) :: (false, eval (.Lambda params body lam lpos) X.env) :: starEach [] X.env := by rfl) :
    DE X W (.Call (.Name x p) [e1, e2, e3, .Lambda params body lam lpos] [] pos) (wLam3 wf cs j w1 w2 w3 wb) := by
  refine ⟨⟨fun pins s σ H Q I ⟨env, μ, M, QD, ED, re, rs, hw, hq, hx⟩ => ?_⟩⟩
  refine wpAny_Call_Name_kw (ld_glob I hg hm ?_ hdb)
  refine PySem.W.callWith_K (h₀ := X.base) I.ok.mod.kin F.kp ?_ hs1 hpl
  rw [hs]
  show wpAny _ _ (spliced ((false, eval e1 X.env) :: (false, eval e2 X.env) :: (false, eval e3 X.env) :: (false, eval (.Lambda params body lam lpos) X.env) :: backTo pos (starEach [] X.env))) _ _ s
  refine Calls.spliced_cons (thn (d1.pe.run pins s σ H (fun v H1 => ∃ μ1 d M1, Keep H μ H1 μ1 ∧ RelS X.K H1 μ1 M1 ∧ Rep X.K H1 μ1 v d ∧ w2 env M1 (fun d2 M2 => w3 env M2 (fun d3 M3 => capOk cs env = true ∧ ∀ f : Addr, wf ⟨f, lamW (capGo cs 0 env) j wb⟩ [d, d2, d3, .ref f] M3 QD ED) ED) ED) I ⟨env, μ, M, _, ED, re, rs, hw, fun v H1 μ1 d M1 k1 rs1 r1 q1 => ⟨μ1, d, M1, k1, rs1, r1, q1⟩, hx⟩) ?_)
  rintro u1 s1 ⟨v1, H1, I1, rv1, μ1, a1, M1, k1, rs1, r1, hw⟩
  refine Calls.spliced_cons (thn (d2.pe.run pins s1 σ H1 (fun v H2 => ∃ μ2 d M2, Keep H1 μ1 H2 μ2 ∧ RelS X.K H2 μ2 M2 ∧ Rep X.K H2 μ2 v d ∧ w3 env M2 (fun d3 M3 => capOk cs env = true ∧ ∀ f : Addr, wf ⟨f, lamW (capGo cs 0 env) j wb⟩ [a1, d, d3, .ref f] M3 QD ED) ED) I1 ⟨env, μ1, M1, _, ED, re.keep k1, rs1, hw, fun v H2 μ2 d M2 k2 rs2 r2 q2 => ⟨μ2, d, M2, k2, rs2, r2, q2⟩, hx.keep k1⟩) ?_)
  rintro u2 s2 ⟨v2, H2, I2, rv2, μ2, a2, M2, k2, rs2, r2, hw⟩
  have k12 := k1.trans k2
  refine Calls.spliced_cons (thn (d3.pe.run pins s2 σ H2 (fun v H3 => ∃ μ3 d M3, Keep H2 μ2 H3 μ3 ∧ RelS X.K H3 μ3 M3 ∧ Rep X.K H3 μ3 v d ∧ capOk cs env = true ∧ ∀ f : Addr, wf ⟨f, lamW (capGo cs 0 env) j wb⟩ [a1, a2, d, .ref f] M3 QD ED) I2 ⟨env, μ2, M2, _, ED, re.keep k12, rs2, hw, fun v H3 μ3 d M3 k3 rs3 r3 q3 => ⟨μ3, d, M3, k3, rs3, r3, q3⟩, hx.keep k12⟩) ?_)
  rintro u3 s3 ⟨v3, H3, I3, rv3, μ3, a3, M3, k3, rs3, r3, flat, hw⟩
  have k123 := k12.trans k3
  have memT : (r.p, X.env.qual ++ "<lambda>") ∈ lamT X.K := by
    rw [← nm]
    exact List.mem_map.mpr ⟨r, hr_, rfl⟩
  have oneT : ∀ q ∈ lamT X.K, q.1 = r.p → q.2 = X.env.qual ++ "<lambda>" := by
    intro q hq' e
    obtain ⟨r', m', rfl⟩ := List.mem_map.mp hq'
    rw [← nm]
    exact TF.nd r' m' r hr_ e
  have cls : ∀ z ∈ lam.names, z.2 = .free → ∃ a, X.env.cells.lookup z.1 = some a := fun z hz e2 => (L.free z hz e2).elim (fun q => I3.ok.has _ (.inl q)) fun q => I3.ok.has _ (.inr q)
  refine Calls.spliced_cons (lam_made3 I3 (TF.at_ r hr_) code memT oneT rs3.tb dfl cls fun f c pm ctv H4 s4 I4 ext grow tabs4 at_ hfn hfr cod => ?_)
  refine Calls.spliced_nil ⟨I4.kIn, ?_⟩
  have k4 : Keep H3 μ3 H4 μ3 := ⟨rs3.src, fun a o e1 _ ht => ext a o e1 ht, ⟨[], by simp⟩, rfl, fun a ha => .inl ha, grow, fun a ha => by rw [rs3.ext_at ext ha]⟩
  have ne_ : ∀ (vs : List V) (ps : Array Value), HO.lst vs ≠ .tbl ps := fun vs ps z => by cases z
  have rs4 : RelS X.K H4 μ3 M3 := ⟨rs3.len, rs3.nd, fun h a ds e1 e2 => by
      exact (rs3.at2 h a ds e1 e2).to (rs3.ext_at ext (List.mem_of_getElem? e1)) fun _ _ z => z.keep k4, fun a ha => by
      obtain ⟨q1, vs, q2⟩ := rs3.ft a ha
      exact ⟨q1, vs, ext _ _ q2 (ne_ vs)⟩, tabs4⟩
  have kAll := k123.trans k4
  have main : codeAny (model X.prog X.w) X.A (.call (.ref g) ⟨[u1, u2, u3, .ref f], []⟩) (CR (L2N.CX X.prog X.w) X.stack X.prog X.w H4 s4 Q (fun cls d H => W cls d σ H)) s4 := by
    obtain ⟨oc, od, dV, kV, doc, pmg, an, cdv, ct, osl, rfl, lk, hcd, _, _⟩ := F.ex
    have reps : Reps X.K H4 μ3 [v1, v2, v3, .ref f] [a1, a2, a3, .ref f] := .cons (((r1.keep k2).keep k3).keep k4) (.cons ((r2.keep k3).keep k4) (.cons (r3.keep k4) (.cons (.ref f) .nil)))
    refine LamX.run_ofS (N := Ng) (ps := ps) (us := [u1, u2, u3, .ref f]) (vs := [v1, v2, v3, .ref f]) lk hcd Sg room I4.env0 (by have := hb s4 [u1, u2, u3, .ref f] I4.kIn (by rw [List.append_nil]; exact hn.symm); rw [List.append_nil] at this; exact this) (.cons rv1 (.cons rv2 (.cons rv3 (.cons rfl .nil)))) hn.symm fun room' => ?_
    refine ⟨_, (body_ ⟨f, lamW (capGo cs 0 env) j wb⟩ cdv X.A X.stack s4 H4 (fun cls d H => W cls d σ H) room' fun p1 p2 p3 => de_act (k := k) I4 L nd hj at_ hfn hfr (fun u => bind _ _ _ _ u) (room'.mono hk) (fun A outer s H rm => run A outer s H f c rm) ha va hb_ vb da ca db cb (re.keep kAll) flat cod memT).pss, ?_⟩
    refine ⟨env0 Ng.length [a1, a2, a3, .ref f], μ3, M3, _, rel_start reps, rs4, spec _ _ M3 QD ED rfl (hw f), ?_⟩
    have hq4 : ∀ (v : V) (H' : Hp) (μ' : Mu) (d : D) (M' : Me), Keep H4 μ3 H' μ' → RelS X.K H' μ' M' → Rep X.K H' μ' v d → QD d M' → Q v H' := fun v H' μ' d M' k' => hq v H' μ' d M' (kAll.trans k')
    exact {
      nx := fun σ H' μ' env M' k _ rs' q => ret_ok rs4 hq4 k rs' .non q
      rt := fun v H' μ' d M' k rs' r' q => ret_ok rs4 hq4 k rs' r' q
      bk := fun _ _ _ _ _ _ _ _ q => q.elim
      ct := fun _ _ _ _ _ _ _ _ q => q.elim
      ex := fun cls a σ' H' μ' y env M' k _ rs' rx ⟨g, ho, q⟩ => by
        obtain ⟨kc, rc, _, _⟩ := rs4.cut k rs' g
        refine (hx.keep kAll) cls a H' _ y _ kc rc ⟨rx.1, rx.2.1, fun m d e => ?_⟩ q
        obtain ⟨dd, v, h1, h2, h3⟩ := rx.2.2 m d e
        exact ⟨dd, v, h1, h2, h3.cut (ho m d e)⟩ }
  refine wpAny_call (codeAny_mono main ?_)
  intro r s5 h
  match r, h with
  | .error er, h => exact L2N.passAt tk σ pins _ _ er s5 I4 h
  | .ok (.ret u), h => exact I4.after h
  | .ok .next, h => exact h.elim
  | .ok .brk, h => exact h.elim
  | .ok .cont, h => exact h.elim
end
end DL

namespace DL
open PySem PySem.Spec PyProof.Rows L2
/-! ## max(xs, default=d) of a list of ints -/
theorem maxOf_mem : ∀ (x : Int) (xs : List Int), PySem.W.maxOf x xs ∈ x :: xs ∧ ∀ y, y ∈ x :: xs → y ≤ PySem.W.maxOf x xs
  | x, [] => ⟨List.mem_cons_self, fun y h => by rw [List.mem_singleton.mp h]; exact Int.le_refl _⟩
  | x, z :: xs => by
    have e : PySem.W.maxOf x (z :: xs) = PySem.W.maxOf (if x < z then z else x) xs := by
      unfold PySem.W.maxOf
      rw [List.foldl_cons]
      congr 1
      show (if decide (x < z) = true then z else x) = _
      by_cases c : x < z
      · rw [if_pos (decide_eq_true c), if_pos c]
      · rw [if_neg (by simpa using c), if_neg c]
    obtain ⟨h1, h2⟩ := maxOf_mem (if x < z then z else x) xs
    rw [e]
    refine ⟨?_, fun y hy => ?_⟩
    · rcases List.mem_cons.mp h1 with h | h
      · rw [h]; split
        · exact List.mem_cons_of_mem _ List.mem_cons_self
        · exact List.mem_cons_self
      · exact List.mem_cons_of_mem _ (List.mem_cons_of_mem _ h)
    · have h3 := h2 _ List.mem_cons_self
      rcases List.mem_cons.mp hy with rfl | hy
      · exact Int.le_trans (by split <;> omega) h3
      rcases List.mem_cons.mp hy with rfl | hy
      · exact Int.le_trans (by split <;> omega) h3
      · exact h2 y (List.mem_cons_of_mem _ hy)
def rMaxD (K : PySem.W.Frag) : List V → List V → Hp → VK → Prop := fun vs zs H Q => ∃ (a : Addr) (ns : List Int) (d : Int), vs = [V.ref a] ∧ zs = [V.int d] ∧ SqL K H a (ns.map V.int) ∧ (ns = [] → Q (.int d) H) ∧ ∀ m, m ∈ ns → (∀ y, y ∈ ns → y ≤ m) → Q (.int m) H
section
variable {X : Cx}
theorem cr_maxD (hc : X.calm = true) (hu : X.A.units + 64 < cLine) : CallRK X (.builtin "max") [Str.ofString "default"] (rMaxD X.K) := by
  intro pins s σ H vs zs us ws Q I r rz h
  obtain ⟨a, ns, d, rfl, rfl, hs, h0, q⟩ := h
  obtain ⟨its, rv, hl, hz⟩ := I.list hs
  rw [Vals.ref1 r]
  obtain ⟨w1, rfl, e1⟩ := vals1 rz
  refine PySem.W.max_list_datum_default (α := Int) (xs := ns) (I.ok.hd hc) hl.isList (PySem.W.HoldAll.of_ints rv.ints) (by show X.A.units + 1 + 0 < cLine; omega) (fun e h' tk hk => ?_) fun y ys i v h' tk e hi hv hk => ?_
  · exact ⟨.int d, H, I.kept hk, e1, h0 e⟩
  · obtain ⟨m1, m2⟩ := maxOf_mem y ys
    rw [← e] at m1 m2
    have hi := (PySem.W.HoldAll.toInts (PySem.W.HoldAll.cons hv (PySem.W.HoldAll.of_ints .nil)))
    cases hi with
    | cons n t _ => exact ⟨.int _, H, I.kept hk, ⟨t, rfl⟩, q _ m1 m2⟩
variable {W : WX} {K : PySem.W.Frag} {a : Expr} {wr : WA} {pos p p2 p3 : Pos} {j : Nat}
def fMaxD (d0 : Int) : FC
  | [d], M, Q => ∃ l ns, lsD d M = some l ∧ insD l = some ns ∧ (ns = [] → Q (.int d0) M) ∧ ∀ m, m ∈ ns → (∀ y, y ∈ ns → y ≤ m) → Q (.int m) M
  | _, _, _ => False
theorem bi_maxD {d0 : Int} {kn : Option Str} (hn : kn = some (Str.ofString "default")) (hg : Gl X "max") (hm : X.mg "max" = none) (hc : X.calm = true) (hu : X.A.units + 64 < cLine) (ha : DA X W [a] wr) (he : backTo pos (starEach [a] X.env) = (false, eval a X.env) :: backTo pos (starEach [] X.env) := by rfl) (hpl : (backTo pos (starEach [a] X.env)).any (·.1) = false := by rfl) : DE X W (.Call (.Name "max" p) [a] [⟨kn, .Constant (.int d0) j p2, p3⟩] pos) (wCB (fMaxD d0) wr) := by
  subst hn
  refine ⟨pe_mono (pe_callBK (cr_maxD hc hu) hg hm (by decide +kernel) ha.pa (pk_cons pe_int pk_nil) (by decide) (by decide) he hpl (by rfl) (by rfl) (by rfl)) fun σ H Q h => ?_⟩
  obtain ⟨env, μ, M, QD, ED, re, rs, hw, hq, hx⟩ := h
  refine ⟨env, μ, M, _, ED, re, rs, hw, fun vs H1 μ1 ds M1 k1 rs1 r1 q1 => ?_, hx⟩
  show rMaxD X.K vs [V.int d0] H1 Q
  unfold fMaxD at q1
  split at q1
  · obtain ⟨v, rfl, rv⟩ := reps1 r1
    obtain ⟨l, ns, h1, h2, h3, h4⟩ := q1
    obtain ⟨q, vs, rfl, hs, rr⟩ := rv.ls rs1 h1
    have ew := ins_V rr h2
    subst ew
    exact ⟨q, ns, d0, rfl, rfl, .of hs, fun e => hq _ H1 μ1 _ M1 k1 rs1 (.int _) (h3 e), fun m a b => hq _ H1 μ1 _ M1 k1 rs1 (.int _) (h4 m a b)⟩
  · exact q1.elim
end
end DL

namespace DL
open PySem PySem.Spec PyProof.Rows L2
/-! ## range with a step -/
def rgC (lo c : Int) (n : Nat) : List D := (List.range n).map fun (i : Nat) => D.int (lo + (i : Int) * c)
section
variable {X : Cx} {W : WX} {K : PySem.W.Frag} {a b c : Expr} {wr : WA} {pos p : Pos} {tg : Expr}
theorem rgC_get {lo c : Int} {n i : Nat} : (rgC lo c n)[i]? = if i < n then some (.int (lo + (i : Int) * c)) else none := by
  unfold rgC
  rw [List.getElem?_map]
  by_cases h : i < n
  · rw [List.getElem?_range h, if_pos h]; rfl
  · rw [List.getElem?_eq_none (by simp; omega), if_neg h]; rfl
theorem rgC_len {lo c : Int} {n : Nat} : (rgC lo c n).length = n := by simp [rgC]
theorem rgC_at {lo c : Int} {n i : Nat} {d : D} (h : (rgC lo c n)[i]? = some d) : i < n ∧ d = .int (lo + (i : Int) * c) := by
  rw [rgC_get] at h
  by_cases e : i < n
  · rw [if_pos e] at h
    cases h
    exact ⟨e, rfl⟩
  · rw [if_neg e] at h; cases h
theorem jok_rC {H : Hp} {μ : Mu} {lo c : Int} {n : Nat} : JOk K (Itc lo c n) H μ (rgC lo c n) GT := fun H1 μ1 M1 i cc rs g => by
  refine ⟨fun hi => by rw [rgC_len] at hi; exact hi, fun d hd => ?_⟩
  obtain ⟨h, rfl⟩ := rgC_at hd
  refine ⟨h, fun x H2 y => ?_⟩
  obtain ⟨rfl, rfl⟩ := y
  exact ⟨rs.refl, rs, .int _⟩
def wIR3 (wr : WA) : WI := fun env M Q E => wr env M (fun ds M1 => match ds with | [.int i, .int j, .int c] => ∃ n, RgC i j c n ∧ Q (rgC i c n) GT M1 | _ => False) E
theorem di_range3 (hg : Gl X "range") (hm : X.mg "range" = none) (ha : DA X W [a, b, c] wr) (hs : starEach [a, b, c] X.env = (false, eval a X.env) :: starEach [b, c] X.env := by rfl) (hpl : (backTo pos (starEach [b, c] X.env)).any (·.1) = false := by rfl) :
    DI X W tg (.Call (.Name "range" p) [a, b, c] [] pos) (wIR3 wr) := by
  refine ⟨pi_mono (pi_range3 hg hm ha.pa hs hpl) fun σ H R ⟨env, μ, M, QD, ED, re, rs, hw, hq, hx⟩ => ⟨env, μ, M, _, ED, re, rs, hw, fun vs H1 μ1 ds M1 k1 rs1 r1 q1 => ?_, hx⟩⟩
  match ds, q1 with
  | [.int i, .int j, .int c], q1 =>
    obtain ⟨n, hn, q1⟩ := q1
    cases r1 with
    | cons r1 t => cases t with
      | cons r2 t => cases t with
        | cons r3 t =>
          cases t
          cases r1; cases r2; cases r3
          exact ⟨i, j, c, n, rfl, hn, hq _ H1 μ1 _ _ M1 k1 rs1 jok_rC q1⟩
end
end DL

namespace DL
open PySem PySem.Spec PyProof.Rows L2
/-! ## x in a list of plain data of any depth -/
def fInDp : F2 := fun d e M Q => ∃ (p : PyData) (ps : List PyData), pyM M d = some p ∧ pyM M e = some (.list ps) ∧ SeqAt.shaped p = true ∧ SeqAt.shaped (.list ps) = true ∧ Q (.bl (ps.any fun z => PyData.eqv z p)) M
section
variable {X : Cx} {W : WX} {K : PySem.W.Frag} {a b : Expr} {wa wb : WE} {pos : Pos}
theorem ok_inDp : OkR K (rInD K) fInDp := fun x y d e H μ M QD Q rs rx ry h hq => by
  obtain ⟨p, ps, h1, h2, h3, h4, q⟩ := h
  exact ⟨p, ps, dpM_of rs rx h1, dpM_of rs ry h2, h3, h4, hq _ H μ _ M rs.refl rs (.bl _) q⟩
theorem de_inDp (hu : X.A.units + 65 < cLine) (ha : DE X W a wa) (hb : DE X W b wb) (hm : behindInMarks .In b = false := by rfl) : DE X W (.Compare a [.In] [b] pos) (wBin fInDp wa wb) := de_cmp (op_inD hu) ok_inDp ha hb hm
theorem dt_inDp (hu : X.A.units + 65 < cLine) (ha : DE X W a wa) (hb : DE X W b wb) (hm : behindInMarks .In b = false := by rfl) : DT X W (.Compare a [.In] [b] pos) (wB (wBin fInDp wa wb)) := dt_cmp (op_inD hu) ok_inDp ha hb hm
/-! ## list(range(a, b)) -/
def wListRg2 (wa wb : WE) : WFr := fun env M Q E => wa env M (fun d M1 => wb env M1 (fun e M2 => ∃ i j : Int, d = .int i ∧ e = .int j ∧ RgOk i j ∧ Q (rgD i (j - i).toNat) M2) E) E
theorem reps_rg2 {H : Hp} {μ : Mu} (i j : Int) : Reps K H μ (rgV i j) (rgD i (j - i).toNat) := by
  unfold rgV rgD
  exact Reps.map _ fun i _ => .int _
theorem df_listRg2 {p p2 pos2 : Pos} (hc : X.calm = true) (hg : Gl X "list") (hm : X.mg "list" = none) (hg2 : Gl X "range") (hm2 : X.mg "range" = none) (ha : DE X W a wa) (hb : DE X W b wb)
    (na : starEach [a, b] X.env = (false, eval a X.env) :: starEach [b] X.env := by rfl) (nb : starEach [b] X.env = (false, eval b X.env) :: starEach [] X.env := by rfl) (hp : (backTo pos2 (starEach [b] X.env)).any (·.1) = false := by rfl)
    (ne : starEach [Expr.Call (.Name "range" p2) [a, b] [] pos2] X.env = (false, eval (.Call (.Name "range" p2) [a, b] [] pos2) X.env) :: starEach [] X.env := by rfl) :
    DF X W (.Call (.Name "list" p) [.Call (.Name "range" p2) [a, b] [] pos2] [] pos) (wListRg2 wa wb) := by
  refine ⟨pe_mono (pe_listRg hc hg hm (prg_2 hg2 hm2 ha.pe hb.pe na nb hp) ne) fun σ H Q ⟨env, μ, M, QD, ED, re, rs, hw, hq, hx⟩ => ⟨env, μ, M, _, ED, re, rs, hw, fun v H1 μ1 d M1 k1 rs1 r1 q1 => ?_, hx⟩⟩
  refine ⟨env, μ1, M1, _, ED, re.keep k1, rs1, q1, fun u H2 μ2 e M2 k2 rs2 r2 ⟨i, j, ed, ee, hr, q2⟩ => ?_, hx.keep k1⟩
  subst ed; subst ee
  cases r1; cases r2
  have k := k1.trans k2
  exact ⟨i, j, rfl, rfl, hr, fun q hq0 => fin_lst (σ := σ) hq k rs2 (reps_rg2 i j) q2 (p := q) (hp := hq0) (hp0 := none_of_keep k rs2 hq0)⟩
end
end DL

namespace DL
open PySem PySem.Spec PyProof PyProof.Rows L2
/-! ## an empty dict looked for among ints -/
theorem int_eq_declines_dct (b : Int) (u : Tok) (l : Addr) (c : Value) (es : Array DictEntry) (ep : Nat) (dd : Option Addr) (sl : Array (Option Value)) :
    Meets (Builtin.«int.__eq__» ⟨[.int b u, .ref l], []⟩) (fun _ R s => s.heap.get? l = some { cls := .type "dict", dict := dd, data := .dict es ep, slots := sl } ∧ R (.ok (.ret .notImplemented)) s) :=
  .of_wp fun prog w A R s h => by obtain ⟨hp, g, d, tk, os⟩ := s; obtain ⟨hl, h⟩ := h; wp_walk using wpAny_loadPart' hl, wpAny_load hl; exact ⟨_, rfl, h⟩
theorem dct_eq_declines_int (l : Addr) (es : Array DictEntry) (ep : Nat) (dd : Option Addr) (sl : Array (Option Value)) (b : Int) (u : Tok) :
    Meets (Builtin.«dict.__eq__» ⟨[.ref l, .int b u], []⟩) (fun _ R s => s.heap.get? l = some { cls := .type "dict", dict := dd, data := .dict es ep, slots := sl } ∧ R (.ok (.ret .notImplemented)) s) :=
  .of_wp fun prog w A R s h => by obtain ⟨hp, g, d, tk, os⟩ := s; obtain ⟨hl, h⟩ := h; have f1 := F.sub_int_dict; wp_walk using wpAny_loadPart' hl; exact ⟨_, rfl, h⟩
theorem RcAt_int_dct {A : Around} {s : Shared} {l : Addr} {es : Array DictEntry} {ep : Nat} {dd : Option Addr} {sl : Array (Option Value)} (b : Int) (u : Tok) (ho : s.heap.get? l = some { cls := .type "dict", dict := dd, data := .dict es ep, slots := sl }) (hu : A.units < cLine) : SeqAt.RcAt A s (.int b u) (.ref l) false := fun prog w E Q h =>
  SeqAt.rc_eq_decline_or (k := false) (typeIs_int s b u) ⟨_, ho, rfl⟩ (by decide) F.sub_dict_int F.slot_int_eq F.slot_dict_eq_refl
    (fun _ hq => call_meets F.slot_int_eq (typeIs_int s b u) F.entry_int_eq (F.args_int_eq_2 _ _) (int_eq_declines_dct b u l (.type "dict") es ep dd sl) ⟨ho, hq⟩)
    (fun _ hq => call_meets F.slot_dict_eq_refl ⟨_, ho, rfl⟩ F.entry_dict_eq (F.args_dict_eq_2 _ _) (dct_eq_declines_int l es ep dd sl b u) ⟨ho, hq⟩)
    (fun _ hq => wpAny_of_eq (rfl : isSame (.int b u) (.ref l) = pure false) hq) (.inr hu) h
theorem EqAt_int_dct {A : Around} {s : Shared} {l : Addr} {es : Array DictEntry} {ep : Nat} {dd : Option Addr} {sl : Array (Option Value)} (b : Int) (u : Tok) (ho : s.heap.get? l = some { cls := .type "dict", dict := dd, data := .dict es ep, slots := sl }) (hu : A.units < cLine) : SeqAt.EqAt A s (.int b u) (.ref l) false := fun prog w E Q h => by
  unfold eqBool
  refine wpAny_holding ?_
  refine wpAny_ite_split (fun hab => absurd (eq_of_beq hab) nofun) (fun _ => ?_)
  exact wpAny_bind (RcAt_int_dct b u ho hu prog w E _ (wpAny_truthy_bool h))
theorem vals_int_mem : ∀ {ns : List Int} {us : List Value}, Vals (ns.map V.int) us → ∀ w ∈ us, ∃ (n : Int) (t : Tok), w = .int n t
  | [], _, .nil, _, h => nomatch h
  | n :: ns, u :: us, .cons r t, w, h => by
    rcases List.mem_cons.mp h with rfl | h
    · obtain ⟨t, rfl⟩ := r
      exact ⟨_, _, rfl⟩
    · exact vals_int_mem t w h
/-- x in a list of ints, x a dict -/
def rInDct (K : PySem.W.Frag) : R2 := fun x y H Q => ∃ (d p : Addr) (kvs : List (Key × V)) (ns : List Int), x = .ref d ∧ H d = some (.dK kvs) ∧ y = .ref p ∧ SqL K H p (ns.map V.int) ∧ Q (.bl false) H
section
variable {X : Cx}
theorem op_inDct (hu : X.A.units + 65 < cLine) : OpR X (compareOp .In) (rInDct X.K) := by
  intro pins s σ H x y v u Q I rx ry h
  obtain ⟨d, p, kvs, ns, rfl, hd, rfl, hs, q⟩ := h
  cases rx; cases ry
  obtain ⟨its, r, pl, hz⟩ := I.list hs
  obtain ⟨_, hd', vs, _, ⟨o, es, ep, ho, hx, hdt, _⟩⟩ := dk_rd I.hok (.of hd)
  obtain ⟨c, dct, dt, sl⟩ := o
  obtain ⟨h1, h2, h3⟩ := hx
  simp only at h1 h2 h3 hdt
  subst h1; subst h2; subst h3; subst hdt
  refine SeqAt.in_listAt (fun _ => false) pl.isList (fun w hw => ?_) ⟨.bl _, H, I, rfl, ?_⟩
  · obtain ⟨n, t, rfl⟩ := vals_int_mem r w (by simpa using hw)
    exact EqAt_int_dct n t ho (by show X.A.units + 1 < cLine; omega)
  · have e : its.toArray.any (fun _ => false) = false := by simp
    rw [e]; exact q
/-- in, of plain data of any depth or of a dict among ints -/
def fInAny : F2 := fun d e M Q => fInDp d e M Q ∨ ∃ (ks : List Key) (vs l : List D) (ns : List Int), d = .dct ks vs ∧ lsD e M = some l ∧ insD l = some ns ∧ Q (.bl false) M
variable {W : WX} {K : PySem.W.Frag} {a b : Expr} {wa wb : WE} {pos : Pos}
theorem ok_inAny : OkR K (fun x y H Q => rInD K x y H Q ∨ rInDct K x y H Q) fInAny := fun x y d e H μ M QD Q rs rx ry h hq => by
  rcases h with h | ⟨ks, vs, l, ns, rfl, hl, hn, q⟩
  · exact .inl (ok_inDp x y d e H μ M QD Q rs rx ry h hq)
  · cases rx with
    | dct hd hn0 rr =>
      obtain ⟨p, us, rfl, hs, r2⟩ := ry.ls rs hl
      have ew := ins_V r2 hn
      subst ew
      exact .inr ⟨_, p, _, ns, rfl, hd, rfl, .of hs, hq _ H μ _ M rs.refl rs (.bl _) q⟩
theorem de_inAny (hu : X.A.units + 65 < cLine) (ha : DE X W a wa) (hb : DE X W b wb) (hm : behindInMarks .In b = false := by rfl) : DE X W (.Compare a [.In] [b] pos) (wBin fInAny wa wb) := de_cmp ((op_inD hu).or (op_inDct hu)) ok_inAny ha hb hm
theorem dt_inAny (hu : X.A.units + 65 < cLine) (ha : DE X W a wa) (hb : DE X W b wb) (hm : behindInMarks .In b = false := by rfl) : DT X W (.Compare a [.In] [b] pos) (wB (wBin fInAny wa wb)) := dt_cmp ((op_inD hu).or (op_inDct hu)) ok_inAny ha hb hm
end
end DL

/-! DLkl: sorted(xs), xs a list of pairs of ints, of the heap or of the module. Own work, after the shape of the library's rule for pairs of the heap. -/
namespace DL
open PySem PySem.Spec PyProof.Rows L2
/-- a pair of ints, told as data -/
def prD (p : Int × Int) : D := .tup [.int p.1, .int p.2]
/-- a thing that stands for a pair -/
def PrV (K : PySem.W.Frag) (H : Hp) (x : V) (p : Int × Int) : Prop := ∃ t, x = .ref t ∧ SqT K H t [.int p.1, .int p.2]
def PrVs (K : PySem.W.Frag) (H : Hp) : List V → List (Int × Int) → Prop
  | [], [] => True
  | x :: xs, p :: ps => PrV K H x p ∧ PrVs K H xs ps
  | _, _ => False
theorem prVs_map {K : PySem.W.Frag} {H : Hp} {k : V → Int × Int} : ∀ {xs : List V}, (∀ x ∈ xs, PrV K H x (k x)) → PrVs K H xs (xs.map k)
  | [], _ => trivial
  | x :: xs, h => ⟨h x List.mem_cons_self, prVs_map fun y hy => h y (List.mem_cons_of_mem _ hy)⟩
theorem prVs_k {K : PySem.W.Frag} {H : Hp} {k : V → Int × Int} (hk : ∀ x p, PrV K H x p → k x = p) : ∀ {xs : List V} {ps : List (Int × Int)}, PrVs K H xs ps → ps = xs.map k ∧ ∀ x ∈ xs, PrV K H x (k x)
  | [], [], _ => ⟨rfl, fun _ h => nomatch h⟩
  | x :: xs, p :: ps, ⟨h1, h2⟩ => by
    obtain ⟨e, h⟩ := prVs_k hk h2
    refine ⟨by rw [List.map_cons, hk x p h1, ← e], fun y hy => ?_⟩
    rcases List.mem_cons.mp hy with rfl | hy
    · rw [hk y p h1]; exact h1
    · exact h y hy
def tSrtP (K : PySem.W.Frag) (ta : TE) : TE := fun σ H Q => ta σ H fun v H1 => ∃ (l : Addr) (xs : List V) (ps : List (Int × Int)), v = .ref l ∧ SqL K H1 l xs ∧ PrVs K H1 xs ps ∧
  ∀ (ys : List V) (qs : List (Int × Int)) (p : Addr), PrVs K H1 ys qs → SrtO.Srtd SrtO.lexB qs → qs.Perm ps → H1 p = none → Q (.ref p) (upd H1 p (.lst ys))
section
variable {X : Cx} {W : WX} {a : Expr} {ta : TE} {wa : WE} {p p2 pos pos2 : Pos}
open Classical in
theorem pe_srtP (hg : Gl X "sorted") (hm : X.mg "sorted" = none) (ha : PE X a ta) (na : starEach [a] X.env = (false, eval a X.env) :: starEach [] X.env := by rfl) :
    PE X (.Call (.Name "sorted" p) [a] [] pos) (tSrtP X.K ta) := by
  refine ⟨fun pins s σ H Q I h => Call_ (ld_blt I hg hm boot_sorted (callWith_builtin1 (args_cons (thn (ha.run pins s σ H _ I h) fun v s1 ⟨x, H1, I1, r1, q1⟩ => args_nil ?_) na) na rfl))⟩
  obtain ⟨l, xs, ps, rfl, hs, hp, q⟩ := q1
  cases r1
  obtain ⟨its, rv, hl, hz⟩ := I1.list hs
  let k : V → Int × Int := fun x => if h : ∃ p, PrV X.K H1 x p then h.choose else (0, 0)
  have hk : ∀ x p, PrV X.K H1 x p → k x = p := fun x p h => by
    have e : ∃ p, PrV X.K H1 x p := ⟨p, h⟩
    show (if h : ∃ p, PrV X.K H1 x p then h.choose else (0, 0)) = p
    rw [dif_pos e]
    obtain ⟨t, ex, ht⟩ := e.choose_spec
    obtain ⟨t', ex', ht'⟩ := h
    rw [ex] at ex'; cases ex'
    have z := I1.tuple_inj ht ht'
    injection z with z1 z2
    injection z2 with z2 _
    injection z1 with z1
    injection z2 with z2
    exact Prod.ext z1 z2
  obtain ⟨eps, hx⟩ := prVs_k hk hp
  obtain ⟨e1, e2⟩ := refs_back rv fun x m => by
    obtain ⟨t, e, _⟩ := hx x m
    exact ⟨t, e⟩
  refine SrtO.sorted_pairsO (k := fun u => k (backV u)) hl.isList (by rw [← rv.length]; exact hz) (fun v hv => ?_) fun h' d out h1 h2 kp hd hn => ?_
  · obtain ⟨t, rfl⟩ := e2 v hv
    have hm : V.ref t ∈ xs := by rw [e1]; exact List.mem_map.mpr ⟨_, hv, rfl⟩
    obtain ⟨t', e, ht⟩ := hx _ hm
    cases e
    obtain ⟨its2, r2, ⟨o, ho, hc, n, hd⟩, _⟩ := I1.tuple ht
    obtain ⟨u1, u2, rfl, ri, rj⟩ := vals2 r2
    obtain ⟨t1, rfl⟩ := ri
    obtain ⟨t2, rfl⟩ := rj
    exact ⟨t, o, t1, t2, n, rfl, ho, hc, hd⟩
  · have h3 : ∀ u ∈ out, ∃ a, u = Value.ref a := fun u hu => e2 u (h2.perm.mem_iff.mp hu)
    obtain ⟨n, hn⟩ := hn
    have hb : SrtO.Stb (ltP k) (out.map backV) xs := by
      rw [e1]
      exact SrtO.Stb.map (ltP_swo k) backV h2
    refine ⟨.ref d, upd H1 d (.lst (out.map backV)), I1.laid (t' := s1.toks) kp hd ⟨?_, out, n, vals_back h3, hn⟩, rfl, q _ ((out.map backV).map k) d (prVs_map fun x m => hx x (hb.perm.mem_iff.mp m)) (SrtO.srtd_map (SrtO.srtd_map h1)) (by rw [eps]; exact hb.perm.map k) (I1.hok.fresh hd)⟩
    rw [hb.len]
    exact hz
/-- sorted(xs) of pairs of ints -/
def wSrtP (wa : WE) : WFr := fun env M Q E => wa env M (fun d M1 => ∃ l ps, lsD d M1 = some l ∧ l = ps.map prD ∧ ∀ out : List (Int × Int), SrtO.Srtd SrtO.lexB out → out.Perm ps → Q (out.map prD) M1) E
theorem reps_pr {K : PySem.W.Frag} {H : Hp} {μ : Mu} : ∀ {xs : List V} {ps : List (Int × Int)}, PrVs K H xs ps → Reps K H μ xs (ps.map prD)
  | [], [], _ => .nil
  | x :: xs, p :: ps, ⟨⟨t, e, ht⟩, h2⟩ => by
    subst e
    exact .cons (.tup ht (.cons (.int _) (.cons (.int _) .nil))) (reps_pr h2)
theorem pr_reps {K : PySem.W.Frag} {H : Hp} {μ : Mu} : ∀ {xs : List V} {ps : List (Int × Int)}, Reps K H μ xs (ps.map prD) → PrVs K H xs ps
  | xs, [], h => by cases h; trivial
  | xs, p :: ps, h => by
    cases h with
    | cons r rr =>
      refine ⟨?_, pr_reps rr⟩
      cases r with
      | tup ht r2 =>
        cases r2 with
        | cons ri r3 =>
          cases ri
          cases r3 with
          | cons rj r4 =>
            cases rj
            cases r4
            exact ⟨_, rfl, ht⟩
theorem df_srtP (hg : Gl X "sorted") (hm : X.mg "sorted" = none) (ha : DE X W a wa) (na : starEach [a] X.env = (false, eval a X.env) :: starEach [] X.env := by rfl) :
    DF X W (.Call (.Name "sorted" p) [a] [] pos) (wSrtP wa) := by
  refine ⟨pe_mono (pe_srtP hg hm ha.pe na) fun σ H Q ⟨env, μ, M, QD, ED, re, rs, hw, hq, hx⟩ => ⟨env, μ, M, _, ED, re, rs, hw, fun v H1 μ1 d M1 k1 rs1 r1 ⟨l, ps, hl, el, q1⟩ => ?_, hx⟩⟩
  obtain ⟨b, vs, rfl, h1, rr⟩ := r1.ls rs1 hl
  subst el
  exact ⟨b, vs, ps, rfl, .of h1, pr_reps rr, fun ys qs p hy up mem hp => fin_lst (σ := σ) hq k1 rs1 (reps_pr hy) (q1 qs up mem) (p := p) (hp := hp) (hp0 := none_of_keep k1 rs1 hp)⟩
end
end DL

/-! DLkm: xs.reverse(). Own work. -/
namespace DL
open PySem PySem.Spec PyProof.Rows L2
def fReverse : FM
  | .han h, [], M, Q => ∃ l, M[h]? = some l ∧ Q .non (M.set h l.reverse)
  | _, _, _, _ => False
theorem ok_reverse {K : PySem.W.Frag} : OkM K rReverse fReverse := fun x vs o ds H μ M QD Q rs rx r h hq => by
  unfold fReverse at h
  split at h
  · cases r
    obtain ⟨l, e2, q2⟩ := h
    cases rx with
    | han hm hk =>
      obtain ⟨ws, h1, h2⟩ := rs.at_ _ _ _ hm e2
      refine ⟨_, ws, rfl, rfl, h1, ?_⟩
      obtain ⟨k4, rs4⟩ := rs.write hm h2.reverse
      exact hq _ _ μ _ _ k4 rs4 .non q2
  · exact h.elim
section
variable {X : Cx} {W : WX} {o : Expr} {wo : WE} {pos apos : Pos}
theorem de_reverse (ho : DE X W o wo) (hbase : attributeBase o "reverse" X.env (eval o X.env) = eval o X.env := by rfl) (hline : (apos.endLine == pos.line) = true := by rfl) :
    DE X W (.Call (.Attribute o "reverse" apos) [] [] pos) (wBM fReverse wo wNil) := de_bm0 PySem.F.slot_list_reverse PySem.F.type_list_reverse mt_reverse ok_reverse ho hbase hline
end
end DL

/-! DLkn: isinstance of a kept refusal, or of None, with a class of the text. Own work. -/
namespace DL
open PySem PySem.Spec PyProof.Rows L2
/-- None is of none of the text's classes -/
def exNn (L : ExL) (K : PySem.W.Frag) : Bool := L.A.all fun y => decide (PySem.W.kitOne K (.type "NoneType") (.ref (He.ga K y)) = some false)
theorem exNn_at {L : ExL} {K : PySem.W.Frag} (h : exNn L K = true) {y : Str} (hy : y ∈ L.A) : PySem.W.kitOne K (.type "NoneType") (.ref (He.ga K y)) = some false := of_decide_eq_true (List.all_eq_true.mp h y hy)
def wIsXN (L : ExL) (y : Str) (wa : WE) : WE := fun env M Q E => wa env M (fun d M1 => (∃ c, d = .exc c ∧ c ∈ L.R ∧ Q (.bl (isOf L c y)) M1) ∨ (d = .non ∧ Q (.bl false) M1)) E
section
variable {X : Cx} {W : WX} {a : Expr} {wa : WE} {L : ExL} {y : Str} {q r pos : Pos}
theorem call_isXN : CallR X (.builtin "isinstance") (fun xs H Q => rIsX X xs H Q ∨ rIsi X.K xs H Q) := by
  rintro pins s σ H xs us Q I rv (h | h)
  · exact call_isX pins s σ H xs us Q I rv h
  · exact call_isi pins s σ H xs us Q I rv h
theorem de_isXN (hx : exOk L X.K = true) (hn : exNn L X.K = true) (hg : Gl X "isinstance") (hm : X.mg "isinstance" = none) (hg2 : Gl X y) (hm2 : X.mg y = some (.ref (He.ga X.K y))) (hy : y ∈ L.A) (hd : (y == ("__debug__" : Str)) = false) (ha : DE X W a wa)
    (he : starEach [a, .Name y r] X.env = (false, eval a X.env) :: starEach [.Name y r] X.env := by rfl) :
    DE X W (.Call (.Name "isinstance" q) [a, .Name y r] [] pos) (wIsXN L y wa) := by
  have h2 := pa_cons ha.pe (pa_cons (pe_glob hg2 hm2 (show RelV (.ref (He.ga X.K y)) (.ref (He.ga X.K y)) from rfl) hd (pos := r)) pa_nil) he
  refine ⟨pe_mono (pe_callB call_isXN hg hm (by decide +kernel) h2 (by decide) (by decide) he (by rfl)) fun σ H Q ⟨env, μ, M, QD, ED, re, rs, hw, hq, hxx⟩ => ?_⟩
  refine ⟨env, μ, M, _, ED, re, rs, hw, fun v H1 μ1 d M1 k1 rs1 r1 h => ?_, hxx⟩
  rcases h with ⟨c, ed, hc, q2⟩ | ⟨ed, q2⟩
  · subst ed
    obtain ⟨ad, rfl, hH⟩ := exc_rep r1
    obtain ⟨e1, e2, e3⟩ := exOk_at hx hc
    exact .inl ⟨ad, c, .ref (He.ga X.K y), .ref (He.ga X.K y), _, rfl, hH, e1, .own _, (e3 y hy).1, hq _ H1 μ1 _ M1 k1 rs1 (.bl _) q2⟩
  · subst ed
    exact .inr ⟨v, .ref (He.ga X.K y), .type (tyN .non), .ref (He.ga X.K y), _, rfl, .own _, tyx_of rs1 r1 rfl, exNn_at hn hy, hq _ H1 μ1 _ M1 k1 rs1 (.bl _) q2⟩
end
end DL

/-! DLko: dicts that are changed in place (keys ints and texts): made, put to, asked. Own work. -/
namespace DL
open PySem PySem.Spec PyProof.Rows L2
/-- what a dict holds at a key -/
def getK : List Key → List D → Key → Option D
  | k :: ks, e :: es, x => if k = x then some e else getK ks es x
  | _, _, _ => none
def hasK (ks : List Key) (k : Key) : Bool := ks.any fun x => decide (x = k)
theorem hasK_iff {ks : List Key} {k : Key} : hasK ks k = true ↔ k ∈ ks := by
  unfold hasK
  rw [List.any_eq_true]
  constructor
  · rintro ⟨x, hx, e⟩; rw [← of_decide_eq_true e]; exact hx
  · intro h; exact ⟨k, h, decide_eq_true rfl⟩
def putKs (ks : List Key) (k : Key) : List Key := if hasK ks k = true then ks else ks ++ [k]
def repE : List Key → List D → Key → D → List D
  | k :: ks, e :: es, x, d => (if k = x then d else e) :: repE ks es x d
  | _, _, _, _ => []
def putEs (ks : List Key) (es : List D) (k : Key) (d : D) : List D := if hasK ks k = true then repE ks es k d else es ++ [d]
section
variable {K : PySem.W.Frag} {H : Hp} {μ : Mu}
theorem get_val {k : Key} : ∀ {kvs : List (Key × V)} {es : List D} {d : D}, Reps K H μ (kvs.map (·.2)) es → getK (kvs.map (·.1)) es k = some d → ∃ v, valV kvs k = some v ∧ Rep K H μ v d
  | [], es, d, r, h => by cases r; cases h
  | (k0, v0) :: kvs, es, d, r, h => by
    cases r with
    | cons r1 t =>
      rename_i e es
      have h : (if k0 = k then some e else getK (kvs.map (·.1)) es k) = some d := h
      by_cases c : k0 = k
      · rw [if_pos c] at h
        cases h
        exact ⟨v0, valV_pos c, r1⟩
      · rw [if_neg c] at h
        obtain ⟨v, e1, r2⟩ := get_val t h
        exact ⟨v, by rw [valV_neg (p := (k0, v0)) c]; exact e1, r2⟩
theorem get_non {k : Key} : ∀ {kvs : List (Key × V)} {es : List D}, Reps K H μ (kvs.map (·.2)) es → getK (kvs.map (·.1)) es k = none → valV kvs k = none
  | [], es, r, h => rfl
  | (k0, v0) :: kvs, es, r, h => by
    cases r with
    | cons r1 t =>
      rename_i e es
      have h : (if k0 = k then some e else getK (kvs.map (·.1)) es k) = none := h
      by_cases c : k0 = k
      · rw [if_pos c] at h; cases h
      · rw [if_neg c] at h
        rw [valV_neg (p := (k0, v0)) c]
        exact get_non t h
theorem any_mem {k : Key} (kvs : List (Key × V)) : ((kvs.any fun kv => decide (kv.1 = k)) = true) ↔ hasK (kvs.map (·.1)) k = true := by
  rw [hasK_iff, List.any_eq_true, List.mem_map]
  constructor
  · rintro ⟨x, hx, e⟩; exact ⟨x, hx, of_decide_eq_true e⟩
  · rintro ⟨x, hx, e⟩; exact ⟨x, hx, decide_eq_true e⟩
theorem put_keys (kvs : List (Key × V)) (k : Key) (v : V) : (putK kvs k v).map (·.1) = putKs (kvs.map (·.1)) k := by
  unfold putK putKs
  by_cases c : hasK (kvs.map (·.1)) k = true
  · rw [if_pos ((any_mem kvs).mpr c), if_pos c, List.map_map]
    refine List.map_congr_left fun x _ => ?_
    show (if x.1 = k then (x.1, v) else x).1 = x.1
    split <;> rfl
  · rw [if_neg (fun z => c ((any_mem kvs).mp z)), if_neg c, List.map_append]; rfl
theorem rep_reps {k : Key} {v : V} {d : D} (rv : Rep K H μ v d) : ∀ {kvs : List (Key × V)} {es : List D}, Reps K H μ (kvs.map (·.2)) es → Reps K H μ ((kvs.map fun kv => if kv.1 = k then (kv.1, v) else kv).map (·.2)) (repE (kvs.map (·.1)) es k d)
  | [], es, r => by cases r; exact .nil
  | (k0, v0) :: kvs, es, r => by
    cases r with
    | cons r1 t =>
      rename_i e es
      show Reps K H μ ((if k0 = k then (k0, v) else (k0, v0)).2 :: _) ((if k0 = k then d else e) :: _)
      by_cases c : k0 = k
      · rw [if_pos c, if_pos c]; exact .cons rv (rep_reps rv t)
      · rw [if_neg c, if_neg c]; exact .cons r1 (rep_reps rv t)
theorem put_vals {k : Key} {v : V} {d : D} {kvs : List (Key × V)} {es : List D} (r : Reps K H μ (kvs.map (·.2)) es) (rv : Rep K H μ v d) : Reps K H μ ((putK kvs k v).map (·.2)) (putEs (kvs.map (·.1)) es k d) := by
  unfold putK putEs
  by_cases c : hasK (kvs.map (·.1)) k = true
  · rw [if_pos ((any_mem kvs).mpr c), if_pos c]
    exact rep_reps rv r
  · rw [if_neg (fun z => c ((any_mem kvs).mp z)), if_neg c, List.map_append]
    exact r.append (.cons rv .nil)
/-- the dict at a handle -/
theorem RelS.dict {M : Me} {h : Nat} {a : Addr} {ks : List Key} {es : List D} (r : RelS K H μ M) (hm : μ.h[h]? = some a) (hk : kd (H a) = some false) (e : M[h]? = some [.dct ks es]) :
    ∃ kvs : List (Key × V), H a = some (.dK kvs) ∧ ks = kvs.map (·.1) ∧ Reps K H μ (kvs.map (·.2)) es := by
  rcases r.at2 h a _ hm e with ⟨vs, h1, h2⟩ | ⟨kvs, es', h1, h3, h2⟩ | ⟨kvs, es', h1, h3, h2⟩
  · rw [h1] at hk; cases hk
  · simp only [List.cons.injEq, D.dct.injEq, and_true] at h3
    obtain ⟨rfl, rfl⟩ := h3
    exact ⟨kvs, h1, rfl, h2⟩
  · simp at h3
end
section
variable {X : Cx} {W : WX} {pos : Pos} {K : PySem.W.Frag} {a b : Expr} {wa wb : WE}
/-- {} -/
def wDctL : WE := fun _ M Q _ => Q (.dh M.length) (M ++ [[.dct [] []]])
theorem RelS.newD {H : Hp} {μ : Mu} {M : Me} {p : Addr} (rs : RelS K H μ M) (hp : H p = none) :
    Keep H μ (upd H p (.dK [])) (μ.more p) ∧ RelS K (upd H p (.dK [])) (μ.more p) (M ++ [[.dct [] []]]) ∧ (μ.more p).h[M.length]? = some p :=
  have h := rs.moreD (o := .dK []) (ds := [.dct [] []]) hp (fun z => nomatch z) fun _ => .inr (.inl ⟨[], [], upd_same, rfl, .nil⟩)
  ⟨h.1, h.2, by
    show (μ.h ++ [p])[M.length]? = some p
    rw [show M.length = μ.h.length from rs.len]
    simp⟩
theorem de_dictL : DE X W (.Dict [] [] pos) wDctL := by
  refine ⟨pe_mono pe_dnewK fun σ H Q ⟨env, μ, M, QD, ED, re, rs, hw, hq, hx⟩ => fun p hp => ?_⟩
  obtain ⟨k, rs', e⟩ := RelS.newD rs hp
  exact hq _ _ _ _ _ k rs' (.dh e (by rw [upd_same]; rfl)) hw
/-- the pairs of a display with constant keys -/
def tDP (K : PySem.W.Frag) (W : WX) (ks : List Key) (wr : WA) : L2.St → Hp → (List (V × V) → Hp → Prop) → Prop := fun σ H Q => ∃ (env : En) (μ : Mu) (M : Me) (QD : List D → Me → Prop) (ED : EX → Me → Prop), RelE K H μ σ env ∧ RelS K H μ M ∧ wr env M QD ED ∧
  (∀ (vs : List V) (H' : Hp) (μ' : Mu) (ds : List D) (M' : Me), Keep H μ H' μ' → RelS K H' μ' M' → Reps K H' μ' vs ds → QD ds M' → vs.length = ks.length → Q ((ks.zip vs).map fun kv => (kV kv.1, kv.2)) H') ∧ XE_ K W σ H μ ED
structure DPr (X : Cx) (W : WX) (pos : Pos) (keys : List (Option Expr)) (values : List Expr) (ks : List Key) (wr : WA) : Prop where
  pp : ∃ trs, PPs X pos keys values trs ∧ ∀ σ H Q, tDP X.K W ks wr σ H Q → tPairs trs σ H Q
theorem dpr_nil : DPr X W pos [] [] [] wNil := ⟨⟨[], pps_nil, fun σ H Q ⟨env, μ, M, QD, ED, re, rs, hw, hq, hx⟩ => hq [] H μ [] M rs.refl rs .nil hw rfl⟩⟩
theorem dpr_cons {c v : Expr} {keys : List (Option Expr)} {values : List Expr} {k : Key} {ks : List Key} {wv : WE} {wr : WA} (hc : PE X c (tC (kV k))) (hv : DE X W v wv) (hr : DPr X W pos keys values ks wr) :
    DPr X W pos (some c :: keys) (v :: values) (k :: ks) (wCons wv wr) := by
  obtain ⟨⟨trs, pp, hm⟩⟩ := hr
  refine ⟨⟨_, pps_cons hc hv.pe pp, fun σ H Q ⟨env, μ, M, QD, ED, re, rs, hw, hq, hx⟩ => ?_⟩⟩
  refine ⟨env, μ, M, _, ED, re, rs, hw, fun u H1 μ1 d M1 k1 rs1 r1 q1 => ?_, hx⟩
  refine hm _ _ _ ⟨env, μ1, M1, _, ED, re.keep k1, rs1, q1, fun vs H2 μ2 ds M2 k2 rs2 r2 q2 hl => ?_, hx.keep k1⟩
  exact hq (u :: vs) H2 μ2 (d :: ds) M2 (k1.trans k2) rs2 (.cons (r1.keep k2) r2) q2 (congrArg Nat.succ hl)
theorem dpr_S {x : Str} {j : Nat} {p : Pos} {v : Expr} {keys : List (Option Expr)} {values : List Expr} {ks : List Key} {wv : WE} {wr : WA} (hv : DE X W v wv) (hr : DPr X W pos keys values ks wr) :
    DPr X W pos (some (.Constant (.str x) j p) :: keys) (v :: values) (.inr x :: ks) (wCons wv wr) := dpr_cons (k := .inr x) pe_str hv hr
theorem dpr_I {i : Int} {j : Nat} {p : Pos} {v : Expr} {keys : List (Option Expr)} {values : List Expr} {ks : List Key} {wv : WE} {wr : WA} (hv : DE X W v wv) (hr : DPr X W pos keys values ks wr) :
    DPr X W pos (some (.Constant (.int i) j p) :: keys) (v :: values) (.inl i :: ks) (wCons wv wr) := dpr_cons (k := .inl i) pe_int hv hr
def wDispL (ks : List Key) (wr : WA) : WE := fun env M Q E => wr env (M ++ [[.dct [] []]]) (fun ds M1 => ds.length = ks.length ∧ M1[M.length]? = some [.dct [] []] ∧ Q (.dh M.length) (M1.set M.length [.dct ks ds])) E
theorem merge_nodup : ∀ (l acc : List (Key × V)), ((acc ++ l).map (·.1)).Nodup → mergeK acc l = acc ++ l
  | [], acc, _ => by simp [mergeK]
  | kv :: l, acc, h => by
    have h1 : ¬ ((acc.any fun x => decide (x.1 = kv.1)) = true) := fun z => by
      have := hasK_iff.mp ((any_mem acc).mp z)
      rw [List.map_append, List.nodup_append] at h
      exact h.2.2 _ this _ (List.mem_map_of_mem List.mem_cons_self) rfl
    have e : putK acc kv.1 kv.2 = acc ++ [kv] := by unfold putK; rw [if_neg h1]
    have := merge_nodup l (acc ++ [kv]) (by rw [List.append_assoc]; exact h)
    show mergeK (putK acc kv.1 kv.2) l = _
    rw [e, this, List.append_assoc]; rfl
theorem zip_fst {α β : Type} : ∀ (a : List α) (b : List β), b.length = a.length → (a.zip b).map (·.1) = a
  | [], _, _ => rfl
  | _ :: _, [], h => by cases h
  | x :: a, y :: b, h => congrArg (x :: ·) (zip_fst a b (by simpa using h))
theorem zip_snd {α β : Type} : ∀ (a : List α) (b : List β), b.length = a.length → (a.zip b).map (·.2) = b
  | [], [], _ => rfl
  | [], _ :: _, h => by cases h
  | _ :: _, [], h => by cases h
  | x :: a, y :: b, h => congrArg (y :: ·) (zip_snd a b (by simpa using h))
theorem de_dispL {keys : List (Option Expr)} {values : List Expr} {ks : List Key} {wr : WA} (h : DPr X W pos keys values ks wr) (hall : keys.all (·.isSome) = true) (hl : keys.length = values.length) (h0 : keys ≠ []) (h15 : keys.length ≤ 15) (nd : ks.Nodup) (k15 : ks.length ≤ 15) :
    DE X W (.Dict keys values pos) (wDispL ks wr) := by
  obtain ⟨⟨trs, pp, hm⟩⟩ := h
  refine ⟨pe_mono (pe_disp pp hall hl h0 h15) fun σ H Q ⟨env, μ, M, QD, ED, re, rs, hw, hq, hx⟩ => fun p hp => ?_⟩
  obtain ⟨k0, rs0, e0⟩ := RelS.newD rs hp
  refine hm _ _ _ ⟨env, μ.more p, _, _, ED, re.keep k0, rs0, hw, fun vs H1 μ1 ds M1 k1 rs1 r1 q1 hv => ?_, hx.keep k0⟩
  obtain ⟨_, eM, q1⟩ := q1
  have e1 := k1.get e0
  have kd1 : kd (H1 p) = some false := (k1.knd p (List.mem_of_getElem? e0)).trans (by rw [upd_same]; rfl)
  obtain ⟨kvs, h1, h2, _⟩ := RelS.dict rs1 e1 kd1 eM
  have ez : kvs = [] := List.map_eq_nil_iff.mp h2.symm
  subst ez
  refine ⟨h1, ks.zip vs, rfl, ?_, ?_⟩
  · rw [List.length_zip]; omega
  have ek := zip_fst ks vs hv
  have em : mergeK [] (ks.zip vs) = ks.zip vs := merge_nodup _ [] (by rw [List.nil_append, ek]; exact nd)
  rw [em]
  obtain ⟨k4, rs4⟩ := rs1.put (o := .dK (ks.zip vs)) (ds := [.dct ks ds]) e1 (by rw [kd1]; rfl) fun k => .inr (.inl ⟨ks.zip vs, ds, upd_same, by rw [ek], by rw [zip_snd ks vs hv]; exact r1.keep k⟩)
  exact hq _ _ _ _ _ ((k0.trans k1).trans k4) rs4 (.dh (k4.get e1) (by rw [upd_same]; rfl)) q1
/-- d[k] of a dict -/
def fGetD : F2 := fun d e M Q => match d with
  | .dh h => ∃ ks es k x, M[h]? = some [.dct ks es] ∧ keyD e = some k ∧ getK ks es k = some x ∧ Q x M
  | .dct ks es => ∃ k x, keyD e = some k ∧ getK ks es k = some x ∧ Q x M
  | _ => False
theorem de_getD {o i : Expr} {wo wi : WE} (hu : X.A.units + 64 < cLine) (ho : DE X W o wo) (hi : DE X W i wi) (hs : NoSl i := by intro _ _; rfl) : DE X W (.Subscript o i pos) (wBin fGetD wo wi) := by
  refine ⟨pe_mono (pe_dget (by omega) ho.pe hi.pe hs) fun σ H Q ⟨env, μ, M, QD, ED, re, rs, hw, hq, hx⟩ => ?_⟩
  refine ⟨env, μ, M, _, ED, re, rs, hw, fun v H1 μ1 d M1 k1 rs1 r1 q1 => ?_, hx⟩
  refine ⟨env, μ1, M1, _, ED, re.keep k1, rs1, q1, fun u H2 μ2 e M2 k2 rs2 r2 q2 => ?_, hx.keep k1⟩
  have r1' := r1.keep k2
  cases d with
  | dh h =>
    obtain ⟨ks, es, k, x, eM, ek, eg, q⟩ := q2
    cases r1' with
    | dh hm hk =>
      obtain ⟨kvs, h1, rfl, rr⟩ := RelS.dict rs2 hm hk eM
      obtain ⟨w, ew, rw'⟩ := get_val rr eg
      have := key_rep r2 ek
      subst this
      exact ⟨_, w, rfl, by rw [← ew]; exact DGet.k h1, hq w H2 μ2 x M2 (k1.trans k2) rs2 rw' q⟩
  | dct ks es =>
    obtain ⟨k, x, ek, eg, q⟩ := q2
    cases r1' with
    | dct h1 hn rr =>
      obtain ⟨w, ew, rw'⟩ := get_val rr eg
      have := key_rep r2 ek
      subst this
      exact ⟨_, w, rfl, by rw [← ew]; exact DGet.k h1, hq w H2 μ2 x M2 (k1.trans k2) rs2 rw' q⟩
  | _ => exact q2.elim
/-- d[k] = e, d a dict at a handle -/
def wSetD (we wo wi : WE) : WS := fun env M DD => we env M (fun d M1 => wo env M1 (fun o M2 => wi env M2 (fun i M3 => match o with
  | .dh h => ∃ ks es k, M3[h]? = some [.dct ks es] ∧ keyD i = some k ∧ ks.length < sizeLine ∧ DD.nx env (M3.set h [.dct (putKs ks k) (putEs ks es k d)])
  | _ => False) (fun x M => DD.ex x env M)) (fun x M => DD.ex x env M)) (fun x M => DD.ex x env M)
theorem ds_setD {o i e : Expr} {we wo wi : WE} {pt : Pos} (hu : X.A.units + 64 < cLine) (he : DE X W e we) (ho : DE X W o wo) (hi : DE X W i wi)
    (hh : ∀ v, assign (.Subscript o i pt) X.env v = (do
      let ov ← holding [v] (eval o X.env)
      let iv ← holding [v, ov] (eval i X.env)
      standAt pt
      holding [v, ov, iv] (setItem ov iv v)
      release [v, ov, iv] []) := by intro _; rfl)
    (hs : swapsWithSole [.Subscript o i pt] e pos.line X.env = pure false := by rfl) (hw : swappedStores [.Subscript o i pt] e X.env = pure none := by rfl)
    (h1 : (assignEach [.Subscript o i pt] X.env).map (·.2) = [assign (.Subscript o i pt) X.env] := by rfl) : DS X W (.Assign [.Subscript o i pt] e pos) (wSetD we wo wi) := by
  refine ⟨ps_mono (ps_asg he.pe (pg_sub ho.pe hi.pe (set_dict (by omega)) hh) hs hw h1) fun D' σ H ⟨env, μ, M, DD, re, rs, hw, O⟩ => ⟨env, μ, M, _, _, re, rs, hw, fun v H1 μ1 d M1 k1 rs1 r1 q1 => ?_, O.xe re⟩⟩
  refine ⟨env, μ1, M1, _, _, re.keep k1, rs1, q1, fun ov H2 μ2 od M2 k2 rs2 r2 q2 => ?_, (O.keep k1).xe (re.keep k1)⟩
  have k12 := k1.trans k2
  refine ⟨env, μ2, M2, _, _, re.keep k12, rs2, q2, fun iv H3 μ3 id M3 k3 rs3 r3 q3 => ?_, (O.keep k12).xe (re.keep k12)⟩
  have k13 := k12.trans k3
  match od, q3 with
  | .dh h, q3 =>
    obtain ⟨ks, es, k, eM, ek, hl, q⟩ := q3
    have r2' := r2.keep k3
    cases r2' with
    | dh hm hk =>
      obtain ⟨kvs, h1, rfl, rr⟩ := RelS.dict rs3 hm hk eM
      have := key_rep r3 ek
      subst this
      obtain ⟨k4, rs4⟩ := rs3.put (o := .dK (putK kvs k v)) (ds := [.dct (putKs (kvs.map (·.1)) k) (putEs (kvs.map (·.1)) es k d)]) hm (by rw [hk]; rfl) fun k5 => .inr (.inl ⟨putK kvs k v, _, upd_same, by rw [put_keys], (put_vals rr ((r1.keep k2).keep k3)).keep k5⟩)
      exact ⟨_, _, rfl, DPut.k h1 (by rw [List.length_map] at hl; exact hl), O.nx σ _ μ3 env _ (k13.trans k4) (re.keep (k13.trans k4)) rs4 q⟩
end
end DL

namespace DL
open PySem PySem.Spec PyProof.Rows L2
/-! DLkp: min(xs, default=None) of a list of ints. Own work. -/
theorem minOf_mem : ∀ (x : Int) (xs : List Int), PySem.W.minOf x xs ∈ x :: xs ∧ ∀ y, y ∈ x :: xs → PySem.W.minOf x xs ≤ y
  | x, [] => ⟨List.mem_cons_self, fun y h => by rw [List.mem_singleton.mp h]; exact Int.le_refl _⟩
  | x, z :: xs => by
    have e : PySem.W.minOf x (z :: xs) = PySem.W.minOf (if z < x then z else x) xs := by
      unfold PySem.W.minOf
      rw [List.foldl_cons]
      congr 1
      show (if decide (z < x) = true then z else x) = _
      by_cases c : z < x
      · rw [if_pos (decide_eq_true c), if_pos c]
      · rw [if_neg (by simpa using c), if_neg c]
    obtain ⟨h1, h2⟩ := minOf_mem (if z < x then z else x) xs
    rw [e]
    refine ⟨?_, fun y hy => ?_⟩
    · rcases List.mem_cons.mp h1 with h | h
      · rw [h]; split
        · exact List.mem_cons_of_mem _ List.mem_cons_self
        · exact List.mem_cons_self
      · exact List.mem_cons_of_mem _ (List.mem_cons_of_mem _ h)
    · have h3 := h2 _ List.mem_cons_self
      rcases List.mem_cons.mp hy with rfl | hy
      · exact Int.le_trans h3 (by split <;> omega)
      rcases List.mem_cons.mp hy with rfl | hy
      · exact Int.le_trans h3 (by split <;> omega)
      · exact h2 y (List.mem_cons_of_mem _ hy)
def rMinN (K : PySem.W.Frag) : List V → List V → Hp → VK → Prop := fun vs zs H Q => ∃ (a : Addr) (ns : List Int), vs = [V.ref a] ∧ zs = [V.non] ∧ SqL K H a (ns.map V.int) ∧ (ns = [] → Q .non H) ∧ ∀ m, m ∈ ns → (∀ y, y ∈ ns → m ≤ y) → Q (.int m) H
section
variable {X : Cx}
theorem cr_minN (hc : X.calm = true) (hu : X.A.units + 64 < cLine) : CallRK X (.builtin "min") [Str.ofString "default"] (rMinN X.K) := by
  intro pins s σ H vs zs us ws Q I r rz h
  obtain ⟨a, ns, rfl, rfl, hs, h0, q⟩ := h
  obtain ⟨its, rv, hl, hz⟩ := I.list hs
  rw [Vals.ref1 r]
  obtain ⟨w1, rfl, e1⟩ := vals1 rz
  refine PySem.W.min_list_datum_default (α := Int) (xs := ns) (I.ok.hd hc) hl.isList (PySem.W.HoldAll.of_ints rv.ints) (by show X.A.units + 1 + 0 < cLine; omega) (fun e h' tk hk => ?_) fun y ys i v h' tk e hi hv hk => ?_
  · exact ⟨.non, H, I.kept hk, e1, h0 e⟩
  · obtain ⟨m1, m2⟩ := minOf_mem y ys
    rw [← e] at m1 m2
    have hi := (PySem.W.HoldAll.toInts (PySem.W.HoldAll.cons hv (PySem.W.HoldAll.of_ints .nil)))
    cases hi with
    | cons n t _ => exact ⟨.int _, H, I.kept hk, ⟨t, rfl⟩, q _ m1 m2⟩
variable {W : WX} {K : PySem.W.Frag} {a : Expr} {wr : WA} {pos p p2 p3 : Pos} {j : Nat}
def fMinN : FC
  | [d], M, Q => ∃ l ns, lsD d M = some l ∧ insD l = some ns ∧ (ns = [] → Q .non M) ∧ ∀ m, m ∈ ns → (∀ y, y ∈ ns → m ≤ y) → Q (.int m) M
  | _, _, _ => False
theorem bi_minN {kn : Option Str} (hn : kn = some (Str.ofString "default")) (hg : Gl X "min") (hm : X.mg "min" = none) (hc : X.calm = true) (hu : X.A.units + 64 < cLine) (ha : DA X W [a] wr) (he : backTo pos (starEach [a] X.env) = (false, eval a X.env) :: backTo pos (starEach [] X.env) := by rfl) (hpl : (backTo pos (starEach [a] X.env)).any (·.1) = false := by rfl) : DE X W (.Call (.Name "min" p) [a] [⟨kn, .Constant .none j p2, p3⟩] pos) (wCB fMinN wr) := by
  subst hn
  refine ⟨pe_mono (pe_callBK (cr_minN hc hu) hg hm (by decide +kernel) ha.pa (pk_cons pe_non pk_nil) (by decide) (by decide) he hpl (by rfl) (by rfl) (by rfl)) fun σ H Q h => ?_⟩
  obtain ⟨env, μ, M, QD, ED, re, rs, hw, hq, hx⟩ := h
  refine ⟨env, μ, M, _, ED, re, rs, hw, fun vs H1 μ1 ds M1 k1 rs1 r1 q1 => ?_, hx⟩
  show rMinN X.K vs [V.non] H1 Q
  unfold fMinN at q1
  split at q1
  · obtain ⟨v, rfl, rv⟩ := reps1 r1
    obtain ⟨l, ns, h1, h2, h3, h4⟩ := q1
    obtain ⟨q, vs, rfl, hs, rr⟩ := rv.ls rs1 h1
    have ew := ins_V rr h2
    subst ew
    exact ⟨q, ns, rfl, rfl, .of hs, fun e => hq _ H1 μ1 _ M1 k1 rs1 .non (h3 e), fun m a b => hq _ H1 μ1 _ M1 k1 rs1 (.int _) (h4 m a b)⟩
  · exact q1.elim
end
end DL

namespace DL
open PySem PySem.Spec PyProof.Rows L2
/-! ### texts of a list joined -/
section
variable {X : Cx} {W : WX} {o a : Expr} {wo wa : WE} {pos apos : Pos}
def wJn (wo wa : WE) : WE := fun env M Q E => wo env M (fun d M1 => (∃ x, d = .str x) ∧ wa env M1 (fun e M2 => ∃ (x : Str) (ys : List Str), d = .str x ∧ lsD e M2 = some (ys.map .str) ∧ (ys.map (·.length)).sum + ys.length * x.length ≤ 16777216 ∧ Q (.str (Txt.join x ys)) M2) E) E
theorem reps_strs {K : PySem.W.Frag} {H : Hp} {μ : Mu} : ∀ {vs : List V} {ys : List Str}, Reps K H μ vs (ys.map D.str) → vs = ys.map V.str
  | [], [], _ => rfl
  | v :: vs, y :: ys, h => by
    cases h with
    | cons r t =>
      cases r
      rw [reps_strs t]; rfl
  | [], _ :: _, h => by cases h
  | _ :: _, [], h => by cases h
theorem de_join (ho : DE X W o wo) (ha : DE X W a wa) (hs : starEach [a] X.env = [(false, eval a X.env)] := by rfl) (hbase : attributeBase o "join" X.env (eval o X.env) = eval o X.env := by rfl) (hline : (apos.endLine == pos.line) = true := by rfl) :
    DE X W (.Call (.Attribute o "join" apos) [a] [] pos) (wJn wo wa) := by
  refine ⟨pe_mono (pe_join ho.pe ha.pe hs hbase hline) fun σ H Q ⟨env, μ, M, QD, ED, re, rs, hw, hq, hx⟩ => ?_⟩
  refine ⟨env, μ, M, _, ED, re, rs, hw, fun v H1 μ1 d M1 k1 rs1 r1 q1 => ?_, hx⟩
  obtain ⟨⟨x0, ex⟩, q1⟩ := q1
  subst ex
  refine ⟨⟨x0, by cases r1; rfl⟩, env, μ1, M1, _, ED, re.keep k1, rs1, q1, fun u H2 μ2 e M2 k2 rs2 r2 q2 => ?_, hx.keep k1⟩
  obtain ⟨x, ys, e1, e2, h1, q⟩ := q2
  cases e1
  obtain ⟨p, vs, rfl, e4, rr⟩ := r2.ls rs2 e2
  obtain rfl := reps_strs rr
  exact ⟨x0, p, ys, by cases r1; rfl, rfl, .inl (.of e4), h1, hq _ H2 μ2 _ M2 (k1.trans k2) rs2 (.str _) q⟩
end
end DL

namespace K13
open PySem PySem.Spec PyProof.Rows L2 DL
def LX : ExL := ⟨[], [], "LaneError"⟩
def top (i : Nat) : Stmt := PySem.Challenge.pw_beatlanes_k13_what_is_a_piece.main.body.getD i (.Pass ⟨0, 0, 0, 0⟩)
abbrev st_is_whole : Stmt := top 2
abbrev st_is_from : Stmt := top 3
abbrev st_divisor : Stmt := top 4
abbrev st_is_fraction : Stmt := top 5
abbrev st_is_not_below : Stmt := top 6
abbrev st_is_above : Stmt := top 7
abbrev st_is_less : Stmt := top 8
abbrev st_as_fraction : Stmt := top 9
abbrev st_is_name : Stmt := top 20
abbrev st_are_tones : Stmt := top 21
abbrev st_is_take : Stmt := top 22
abbrev st_is_corner : Stmt := top 23
abbrev st_far_between : Stmt := top 24
abbrev st_lies_straight : Stmt := top 25
abbrev st_is_shape : Stmt := top 26
abbrev st_is_laid : Stmt := top 27
abbrev st_is_piece : Stmt := top 28
abbrev st_law_feed : Stmt := top 30
abbrev st_law_draw : Stmt := top 31
abbrev st_law_low : Stmt := top 32
abbrev st_law_less_by : Stmt := top 33
abbrev st_law_fraction : Stmt := top 34
abbrev st_law_name : Stmt := top 35
abbrev st_law_take : Stmt := top 36
abbrev st_law_is_straight : Stmt := top 37
abbrev st_law_shape : Stmt := top 38
abbrev st_law_piece : Stmt := top 39
abbrev st_law_other : Stmt := top 40
abbrev st_law_spoilt : Stmt := top 41
abbrev st_law_is_from : Stmt := top 42
abbrev st_law_is_name : Stmt := top 43
abbrev st_law_is_take : Stmt := top 44
abbrev st_law_is_fraction : Stmt := top 45
abbrev st_law_is_shape : Stmt := top 46
abbrev st_law_is_piece : Stmt := top 47
abbrev st_law_right : Stmt := top 48
abbrev st_law : Stmt := top 49
abbrev dd_is_whole : He.DefD := ⟨("is_whole", none), "is_whole", "is_whole", defArgs st_is_whole, defBody st_is_whole, defScope st_is_whole, [], []⟩
abbrev dd_is_from : He.DefD := ⟨("is_from", none), "is_from", "is_from", defArgs st_is_from, defBody st_is_from, defScope st_is_from, [], []⟩
abbrev dd_divisor : He.DefD := ⟨("divisor", none), "divisor", "divisor", defArgs st_divisor, defBody st_divisor, defScope st_divisor, [], []⟩
abbrev dd_is_fraction : He.DefD := ⟨("is_fraction", none), "is_fraction", "is_fraction", defArgs st_is_fraction, defBody st_is_fraction, defScope st_is_fraction, [], []⟩
abbrev dd_is_not_below : He.DefD := ⟨("is_not_below", none), "is_not_below", "is_not_below", defArgs st_is_not_below, defBody st_is_not_below, defScope st_is_not_below, [], []⟩
abbrev dd_is_above : He.DefD := ⟨("is_above", none), "is_above", "is_above", defArgs st_is_above, defBody st_is_above, defScope st_is_above, [], []⟩
abbrev dd_is_less : He.DefD := ⟨("is_less", none), "is_less", "is_less", defArgs st_is_less, defBody st_is_less, defScope st_is_less, [], []⟩
abbrev dd_as_fraction : He.DefD := ⟨("as_fraction", none), "as_fraction", "as_fraction", defArgs st_as_fraction, defBody st_as_fraction, defScope st_as_fraction, [], []⟩
abbrev dd_is_name : He.DefD := ⟨("is_name", none), "is_name", "is_name", defArgs st_is_name, defBody st_is_name, defScope st_is_name, [], []⟩
abbrev dd_are_tones : He.DefD := ⟨("are_tones", none), "are_tones", "are_tones", defArgs st_are_tones, defBody st_are_tones, defScope st_are_tones, [], []⟩
abbrev dd_is_take : He.DefD := ⟨("is_take", none), "is_take", "is_take", defArgs st_is_take, defBody st_is_take, defScope st_is_take, [], []⟩
abbrev dd_is_corner : He.DefD := ⟨("is_corner", none), "is_corner", "is_corner", defArgs st_is_corner, defBody st_is_corner, defScope st_is_corner, [], []⟩
abbrev dd_far_between : He.DefD := ⟨("far_between", none), "far_between", "far_between", defArgs st_far_between, defBody st_far_between, defScope st_far_between, [], []⟩
abbrev dd_lies_straight : He.DefD := ⟨("lies_straight", none), "lies_straight", "lies_straight", defArgs st_lies_straight, defBody st_lies_straight, defScope st_lies_straight, [], []⟩
abbrev dd_is_shape : He.DefD := ⟨("is_shape", none), "is_shape", "is_shape", defArgs st_is_shape, defBody st_is_shape, defScope st_is_shape, [], []⟩
abbrev dd_is_laid : He.DefD := ⟨("is_laid", none), "is_laid", "is_laid", defArgs st_is_laid, defBody st_is_laid, defScope st_is_laid, [], []⟩
abbrev dd_is_piece : He.DefD := ⟨("is_piece", none), "is_piece", "is_piece", defArgs st_is_piece, defBody st_is_piece, defScope st_is_piece, [], []⟩
abbrev dd_law_feed : He.DefD := ⟨("_law_feed", none), "_law_feed", "_law_feed", defArgs st_law_feed, defBody st_law_feed, defScope st_law_feed, [], []⟩
abbrev dd_law_draw : He.DefD := ⟨("_law_draw", none), "_law_draw", "_law_draw", defArgs st_law_draw, defBody st_law_draw, defScope st_law_draw, [], []⟩
abbrev dd_law_low : He.DefD := ⟨("_law_low", none), "_law_low", "_law_low", defArgs st_law_low, defBody st_law_low, defScope st_law_low, [], []⟩
abbrev dd_law_less_by : He.DefD := ⟨("_law_less_by", none), "_law_less_by", "_law_less_by", defArgs st_law_less_by, defBody st_law_less_by, defScope st_law_less_by, [], []⟩
abbrev dd_law_fraction : He.DefD := ⟨("_law_fraction", none), "_law_fraction", "_law_fraction", defArgs st_law_fraction, defBody st_law_fraction, defScope st_law_fraction, [], []⟩
abbrev dd_law_name : He.DefD := ⟨("_law_name", none), "_law_name", "_law_name", defArgs st_law_name, defBody st_law_name, defScope st_law_name, [], []⟩
abbrev dd_law_take : He.DefD := ⟨("_law_take", none), "_law_take", "_law_take", defArgs st_law_take, defBody st_law_take, defScope st_law_take, [], []⟩
abbrev dd_law_is_straight : He.DefD := ⟨("_law_is_straight", none), "_law_is_straight", "_law_is_straight", defArgs st_law_is_straight, defBody st_law_is_straight, defScope st_law_is_straight, [], []⟩
abbrev dd_law_shape : He.DefD := ⟨("_law_shape", none), "_law_shape", "_law_shape", defArgs st_law_shape, defBody st_law_shape, defScope st_law_shape, [], []⟩
abbrev dd_law_piece : He.DefD := ⟨("_law_piece", none), "_law_piece", "_law_piece", defArgs st_law_piece, defBody st_law_piece, defScope st_law_piece, [], []⟩
abbrev dd_law_other : He.DefD := ⟨("_law_other", none), "_law_other", "_law_other", defArgs st_law_other, defBody st_law_other, defScope st_law_other, [], []⟩
abbrev dd_law_spoilt : He.DefD := ⟨("_law_spoilt", none), "_law_spoilt", "_law_spoilt", defArgs st_law_spoilt, defBody st_law_spoilt, defScope st_law_spoilt, [], []⟩
abbrev dd_law_is_from : He.DefD := ⟨("_law_is_from", none), "_law_is_from", "_law_is_from", defArgs st_law_is_from, defBody st_law_is_from, defScope st_law_is_from, [], []⟩
abbrev dd_law_is_name : He.DefD := ⟨("_law_is_name", none), "_law_is_name", "_law_is_name", defArgs st_law_is_name, defBody st_law_is_name, defScope st_law_is_name, [], []⟩
abbrev dd_law_is_take : He.DefD := ⟨("_law_is_take", none), "_law_is_take", "_law_is_take", defArgs st_law_is_take, defBody st_law_is_take, defScope st_law_is_take, [], []⟩
abbrev dd_law_is_fraction : He.DefD := ⟨("_law_is_fraction", none), "_law_is_fraction", "_law_is_fraction", defArgs st_law_is_fraction, defBody st_law_is_fraction, defScope st_law_is_fraction, [], []⟩
abbrev dd_law_is_shape : He.DefD := ⟨("_law_is_shape", none), "_law_is_shape", "_law_is_shape", defArgs st_law_is_shape, defBody st_law_is_shape, defScope st_law_is_shape, [], []⟩
abbrev dd_law_is_piece : He.DefD := ⟨("_law_is_piece", none), "_law_is_piece", "_law_is_piece", defArgs st_law_is_piece, defBody st_law_is_piece, defScope st_law_is_piece, [], []⟩
abbrev dd_law_right : He.DefD := ⟨("_law_right", none), "_law_right", "_law_right", defArgs st_law_right, defBody st_law_right, defScope st_law_right, [], []⟩
abbrev dd_law : He.DefD := ⟨("law", none), "law", "law", defArgs st_law, defBody st_law, defScope st_law, [], []⟩
def fn : List He.DefD := ([dd_is_whole, dd_is_from, dd_divisor, dd_is_fraction, dd_is_not_below, dd_is_above, dd_is_less, dd_as_fraction, dd_is_name, dd_are_tones, dd_is_take, dd_is_corner, dd_far_between, dd_lies_straight, dd_is_shape, dd_is_laid, dd_is_piece, dd_law_feed, dd_law_draw, dd_law_low] : List He.DefD) ++ ([dd_law_less_by, dd_law_fraction, dd_law_name, dd_law_take, dd_law_is_straight, dd_law_shape, dd_law_piece, dd_law_other, dd_law_spoilt, dd_law_is_from, dd_law_is_name, dd_law_is_take, dd_law_is_fraction, dd_law_is_shape, dd_law_is_piece, dd_law_right, dd_law] : List He.DefD)
def fa : List He.Fa := ([.free "abs", .free "all", .free "any", .free "bool", .free "int", .free "isinstance", .free "len", .free "list", .free "min", .free "range", .free "repr", .free "str", .free "sum", .free "tuple", .free "zip", .str "LETTERS" "abcdefghijklmnopqrstuvwxyz", .int "LONGEST_NAME" 8, .int "MOST_TONES" 200, .int "LOUDEST_TONE" 100000, .int "MOST_CORNERS" 12] : List He.Fa) ++ ([.int "MOST_NUMBER" 99999, .int "LAST_STEP" 100000, .int "PIECE_PARTS" 8, .glo "is_whole", .glo "is_from", .glo "divisor", .glo "is_fraction", .glo "is_not_below", .glo "is_above", .glo "is_less", .glo "as_fraction", .glo "is_name", .glo "are_tones", .glo "is_take", .glo "is_corner", .glo "far_between", .glo "lies_straight", .glo "is_shape", .glo "is_laid", .glo "is_piece"] : List He.Fa) ++ ([.glo "_law_feed", .glo "_law_draw", .glo "_law_low", .glo "_law_less_by", .glo "_law_fraction", .glo "_law_name", .glo "_law_take", .glo "_law_is_straight", .glo "_law_shape", .glo "_law_piece", .glo "_law_other", .glo "_law_spoilt", .glo "_law_is_from", .glo "_law_is_name", .glo "_law_is_take", .glo "_law_is_fraction", .glo "_law_is_shape", .glo "_law_is_piece", .glo "_law_right", .glo "law"] : List He.Fa)
abbrev R : PySem.W.OpenRow := PySem.W.OpenLaw.row PySem.Challenge.rw_beatlanes_k13_what_is_a_piece
abbrev okX (K : PySem.W.Frag) : Bool := exOk LX K && (smOk K && (lamOk [] K && (tupsOk [("NOUGHT", [(.int 0), (.int 1)]), ("WAYS", [(.str "free"), (.str "bound")])] K && dctsOk [] K)))
def tabs : List He.Tab := []
abbrev hk : PySem.W.Hook := hookT 2 okX fa fn tabs
def ob (s : PySem.W.SharedT) : AlT := obsT 2 okX fa fn tabs (HandSHeadRun.getT s)
theorem ob_eq (s : PySem.W.SharedT) : ob s = hk.obs s.abs := obsT_eq (HandSHeadRun.getT_eq s)
def loose : List Str := (["NOUGHT", "is_whole", "is_from", "divisor", "is_fraction", "is_not_below", "is_above", "is_less", "as_fraction", "LETTERS", "LONGEST_NAME", "MOST_TONES", "LOUDEST_TONE", "MOST_CORNERS", "MOST_NUMBER", "LAST_STEP", "WAYS", "PIECE_PARTS", "is_name", "are_tones"] : List Str) ++ (["is_take", "is_corner", "far_between", "lies_straight", "is_shape", "is_laid", "is_piece", "_law_feed", "_law_draw", "_law_low", "_law_less_by", "_law_fraction", "_law_name", "_law_take", "_law_is_straight", "_law_shape", "_law_piece", "_law_other", "_law_spoilt", "_law_is_from"] : List Str) ++ (["_law_is_name", "_law_is_take", "_law_is_fraction", "_law_is_shape", "_law_is_piece", "_law_right"] : List Str)
theorem glue_run {σ α β : Type} {E : Option σ} {f : σ → Bool} {g : σ → α} {h : σ → β} {b : α} {c : β} (h1 : E.map (fun s => (f s, g s)) = some (true, b)) (h2 : E.map h = some c) : E.map (fun s => (f s, g s, h s)) = some (true, b, c) := by
  cases E with
  | none => cases h2
  | some s =>
    have e1 : (f s, g s) = (true, b) := Option.some.inj h1
    have e2 : h s = c := Option.some.inj h2
    have e3 : f s = true := congrArg Prod.fst e1
    have e4 : g s = b := congrArg Prod.snd e1
    show some (f s, g s, h s) = _
    rw [e2, e3, e4]
open PySem.W in
set_option maxHeartbeats 0 in
theorem run1 (w : World) (os : OsState) : (HandSHeadRun.endF (HandSHeadRun.stepQ (HandSHeadRun.denQ HandSHeadRun.tabQ) R.prog w) 20000 R.prog w os).map (fun s => (HandSHeadRun.looksF R.prog (boot_heap (World.params w)) s.abs, HandSHeadRun.seenQ (PySem.W.view R.prog [49]) loose (importedModules R.prog.main.body) (fun s => PySem.W.xlAt (PySem.W.view R.prog [49]) [] s && PySem.W.recOk R.toRowW.records s) s.abs)) = some (true, PySem.W.openGood (PySem.W.view R.prog [49]) loose) := by
  kernel_rfl
open PySem.W in
set_option maxHeartbeats 0 in
theorem run2 (w : World) (os : OsState) : (HandSHeadRun.endF (HandSHeadRun.stepQ (HandSHeadRun.denQ HandSHeadRun.tabQ) R.prog w) 20000 R.prog w os).map ob = some (hk.val w) := by
  kernel_rfl

theorem run (w : World) : HandSHeadRun.RunEq R (PySem.W.view R.prog [49]) hk ob 20000 loose w := fun os => glue_run (run1 w os) (run2 w os)
end K13

namespace K13
open PySem PySem.Spec PyProof.Rows L2 DL
theorem num_nn {q : Rat} (h : 0 ≤ q) : 0 ≤ q.num := Rat.num_nonneg.mpr h
theorem num_ps {q : Rat} (h : 0 < q) : 0 < q.num := by
  have h1 := num_nn (show 0 ≤ q by grind)
  have h2 := num_ne (show q ≠ 0 by grind)
  omega
theorem bls_map {α : Type} (f : α → Bool) : ∀ l : List α, blsD (l.map fun d => .bl (f d)) = some (l.map f)
  | [] => rfl
  | d :: l => by show (blsD (l.map fun d => D.bl (f d))).map _ = _; rw [bls_map f l]; rfl
abbrev k_NOUGHT : WE := wC (.tup [(.int 0), (.int 1)])
abbrev k_LETTERS : WE := wC (.str "abcdefghijklmnopqrstuvwxyz")
abbrev k_LONGEST_NAME : WE := wC (.int 8)
abbrev k_MOST_TONES : WE := wC (.int 200)
abbrev k_LOUDEST_TONE : WE := wC (.int 100000)
abbrev k_MOST_CORNERS : WE := wC (.int 12)
abbrev k_MOST_NUMBER : WE := wC (.int 99999)
abbrev k_LAST_STEP : WE := wC (.int 100000)
abbrev k_WAYS : WE := wC (.tup [(.str "free"), (.str "bound")])
abbrev k_PIECE_PARTS : WE := wC (.int 8)
/-! ### is_whole -/
def isI : D → Bool
  | .int _ => true
  | _ => false
def s_is_whole : WF
  | [d], M, Q, _ => hasT d = true ∧ Q (.bl (isI d)) M
  | _, _, _, _ => False
def w_is_whole : WS := (wRet (wAndV (wIsi .int (wVar 0)) (wNotV (wIsi .bool (wVar 0)))))
theorem vc_is_whole (ds : List D) (M : Me) (QD : D → Me → Prop) (ED : EX → Me → Prop) (hl : ds.length = 1) (h : s_is_whole ds M QD ED) : w_is_whole (env0 1 ds) M (retE M QD ED) := by
  match ds, h with
  | [d], ⟨h1, h2⟩ =>
    refine ⟨h1, ?_⟩
    cases d <;> first | (cases h1; done) | exact retQ_pure rfl h2 | exact ⟨rfl, retQ_pure rfl h2⟩
/-! ### is_from -/
/-- plain data of small numbers -/
inductive Pl : D → Prop where
  | non : Pl .non
  | bl (b : Bool) : Pl (.bl b)
  | int {i : Int} : Sm 110 i → Pl (.int i)
  | str (x : Str) : Pl (.str x)
  | tup {l : List D} : (∀ d ∈ l, Pl d) → l.length ≤ 260 → Pl (.tup l)
  | lst {l : List D} : (∀ d ∈ l, Pl d) → Pl (.lst l)
  | dct : Pl (.dct [] [])
theorem Pl.hasT {d : D} (h : Pl d) : hasT d = true := by cases h <;> rfl
theorem Pl.all {l : List D} (h : Pl (.tup l)) : ∀ d ∈ l, Pl d := by cases h; assumption
theorem Pl.len {l : List D} (h : Pl (.tup l)) : l.length ≤ 260 := by cases h; assumption
theorem Pl.sm {i : Int} (h : Pl (.int i)) : Sm 110 i := by cases h; assumption
theorem olds_of {n : Nat} {l : List D} (h : ∀ d ∈ l, old n d = true) : olds n l = true := by
  induction l with
  | nil => rfl
  | cons d l ih =>
    show (old n d && olds n l) = true
    rw [h d (by simp), ih fun x hx => h x (by simp [hx])]
    rfl
theorem Pl.old {d : D} (h : Pl d) (n : Nat) : old n d = true := by
  induction h with
  | tup h1 h2 ih => exact olds_of ih
  | lst h1 ih => exact olds_of ih
  | _ => rfl
def isFrm : D → Int → Int → Bool
  | .int i, a, b => decide (a ≤ i) && decide (i ≤ b)
  | _, _, _ => false
def s_is_from : WF
  | [d, .int a, .int b], M, Q, _ => hasT d = true ∧ Q (.bl (isFrm d a b)) M
  | _, _, _, _ => False
def w_is_from : WS := (wRet (wAndV (wCall 1 s_is_whole (wCons (wVar 0) wNil)) (wChain fLe fLe (wVar 1) (wVar 0) (wVar 2))))
theorem chain_at {i a b : Int} {env : En} {M : Me} {Q : D → Me → Prop} {E : EX → Me → Prop} (h1 : env[1]? = some (some (.int a))) (h0 : env[0]? = some (some (.int i))) (h2 : env[2]? = some (some (.int b)))
    (q : Q (.bl (decide (a ≤ i) && decide (i ≤ b))) M) : wChain fLe fLe (wVar 1) (wVar 0) (wVar 2) env M Q E := by
  simp only [wChain, wVar, h1, h0, h2, fLe, fI]
  refine ⟨trivial, ?_⟩
  by_cases h : a ≤ i
  · rw [decide_eq_true h] at q ⊢
    exact ⟨trivial, q⟩
  · rw [decide_eq_false h] at q ⊢
    exact q
theorem vc_is_from (ds : List D) (M : Me) (QD : D → Me → Prop) (ED : EX → Me → Prop) (hl : ds.length = 3) (h : s_is_from ds M QD ED) : w_is_from (env0 3 ds) M (retE M QD ED) := by
  match ds, h with
  | [d, .int a, .int b], ⟨h1, h⟩ =>
    refine ⟨rfl, h1, ?_⟩
    cases d with
    | int i =>
      have h : QD (.bl (decide (a ≤ i) && decide (i ≤ b))) M := h
      show wChain fLe fLe (wVar 1) (wVar 0) (wVar 2) (env0 3 [D.int i, D.int a, D.int b]) M (retQ M QD) _
      exact chain_at rfl rfl rfl (retQ_pure rfl h)
    | _ => exact retQ_pure rfl h
/-! ### divisor -/
def s_divisor : WF
  | [.int a, .int b], M, Q, _ => Q (.int (Int.gcd a b : Int)) M
  | _, _, _, _ => False
def w_divisor : WS := (wSeq (wPar 0 1 (wCons (wCB fAbs (wCons (wVar 0) wNil)) (wCons (wCB fAbs (wCons (wVar 1) wNil)) wNil)))
  (wSeq (wWhile (wB (wBin fGt (wVar 1) (wC (.int 0))))
  (wPar 0 1 (wCons (wVar 1) (wCons (wBin fMod (wVar 0) (wVar 1)) wNil))))
  (wRet (wVar 0))))
theorem vc_divisor (ds : List D) (M : Me) (QD : D → Me → Prop) (ED : EX → Me → Prop) (hl : ds.length = 2) (h : s_divisor ds M QD ED) : w_divisor (env0 2 ds) M (retE M QD ED) := by
  match ds, h with
  | [.int a, .int b], h =>
    refine ⟨fun n env M' => M' = M ∧ ∃ x y : Int, env = [some (.int x), some (.int y)] ∧ 0 ≤ x ∧ 0 ≤ y ∧ n = y.toNat ∧ Int.gcd x y = Int.gcd a b, ⟨_, rfl, _, _, rfl, ?_, ?_, rfl, ?_⟩, ?_⟩
    · split <;> omega
    · split <;> omega
    · have e1 : (if a < 0 then -a else a) = (a.natAbs : Int) := by omega
      have e2 : (if b < 0 then -b else b) = (b.natAbs : Int) := by omega
      rw [e1, e2]
      simp [Int.gcd]
    · rintro n env M' ⟨rfl, x, y, rfl, hx, hy, rfl, hg⟩
      refine ⟨trivial, ?_⟩
      by_cases h0 : 0 < y
      · refine itt (decide_eq_true h0) ?_
        refine ⟨by omega, (x.fmod y).toNat, ?_, rfl, y, x.fmod y, rfl, hy, ?_, rfl, ?_⟩
        · have := Int.fmod_lt_of_pos x h0
          have := Int.fmod_nonneg_of_pos x h0
          omega
        · exact Int.fmod_nonneg_of_pos x h0
        · rw [gcd_step x y hx h0, hg]
      · refine itf (decide_eq_false h0) ?_
        refine retQ_pure rfl ?_
        have : y = 0 := by omega
        subst this
        have h : QD (.int (Int.gcd a b : Int)) M' := h
        rw [← hg, Int.gcd_zero, Int.natAbs_of_nonneg hx] at h
        exact h
/-! ### is_fraction -/
def isFr : D → Bool
  | .tup [.int a, .int b] => decide (0 < b) && decide ((Int.gcd a b : Int) = 1)
  | _ => false
theorem isFr_fr (q : Rat) : isFr (fr q) = true := by
  show (decide (0 < (q.den : Int)) && decide ((Int.gcd q.num (q.den : Int) : Int) = 1)) = true
  have h1 := q.den_pos
  have h2 : Int.gcd q.num (q.den : Int) = 1 := q.reduced
  rw [h2, decide_eq_true (by omega)]
  rfl
/-- a thing, its items things -/
def okT : D → Bool
  | .tup [x, y] => hasT x && hasT y
  | d => hasT d
def s_is_fraction : WF
  | [d], M, Q, _ => okT d = true ∧ Q (.bl (isFr d)) M
  | _, _, _, _ => False
def w_is_fraction : WS := (wSeq (wIf (wOrT (wNotT (wTr (wIsi .tuple (wVar 0)))) (wOrT (wB (wBin fNe (wCB fLen (wCons (wVar 0) wNil)) (wC (.int 2)))) (wOrT (wNotT (wTr (wCall 1 s_is_whole (wCons (wBin fIx (wVar 0) (wC (.int 0))) wNil)))) (wNotT (wTr (wCall 1 s_is_whole (wCons (wBin fIx (wVar 0) (wC (.int 1))) wNil)))))))
  (wRet (wC (.bl false)))
  wNext)
  (wRet (wAndV (wBin fGt (wBin fIx (wVar 0) (wC (.int 1))) (wC (.int 0))) (wBin fEq (wCall 2 s_divisor (wCons (wBin fIx (wVar 0) (wC (.int 0))) (wCons (wBin fIx (wVar 0) (wC (.int 1))) wNil))) (wC (.int 1))))))
theorem vc_is_fraction (ds : List D) (M : Me) (QD : D → Me → Prop) (ED : EX → Me → Prop) (hl : ds.length = 1) (h : s_is_fraction ds M QD ED) : w_is_fraction (env0 1 ds) M (retE M QD ED) := by
  match ds, h with
  | [d], ⟨h1, h2⟩ =>
    have no : ∀ d : D, (∀ l, d ≠ .tup l) → hasT d = true → isFr d = false → QD (.bl (isFr d)) M → w_is_fraction (env0 1 [d]) M (retE M QD ED) := fun d n1 n2 n3 n4 => by
      rw [n3] at n4
      cases d <;> first | exact ⟨rfl, retQ_pure rfl n4⟩ | (cases n2; done) | exact absurd rfl (n1 _)
    cases d with
    | tup l =>
      match l, h1, h2 with
      | [], h1, h2 => exact ⟨rfl, _, rfl, retQ_pure rfl h2⟩
      | [x], h1, h2 =>
        have e : isFr (.tup [x]) = false := by cases x <;> rfl
        rw [e] at h2
        exact ⟨rfl, _, rfl, retQ_pure rfl h2⟩
      | x :: y :: z :: l, h1, h2 =>
        refine ⟨rfl, _, rfl, ?_⟩
        have e : decide (((x :: y :: z :: l).length : Int) = 2) = false := decide_eq_false (by simp only [List.length_cons]; omega)
        have e2 : (!decide (((x :: y :: z :: l).length : Int) = 2)) = true := by rw [e]; rfl
        have e3 : isFr (.tup (x :: y :: z :: l)) = false := by cases x <;> first | rfl | (cases y <;> rfl)
        rw [e3] at h2
        exact retQ_pure rfl h2
      | [x, y], h1, h2 =>
        have h1 : (hasT x && hasT y) = true := h1
        rw [Bool.and_eq_true] at h1
        refine ⟨rfl, _, rfl, _, x, rfl, rfl, rfl, h1.1, ?_⟩
        cases x with
        | int a =>
          refine ⟨_, y, rfl, rfl, rfl, h1.2, ?_⟩
          cases y with
          | int b =>
            refine ⟨_, .int b, rfl, rfl, trivial, ?_⟩
            have h2 : QD (.bl (decide (0 < b) && decide ((Int.gcd a b : Int) = 1))) M := h2
            by_cases hb : 0 < b
            · rw [decide_eq_true hb] at h2
              exact itt (decide_eq_true hb) ⟨_, .int a, rfl, rfl, _, .int b, rfl, rfl, rfl, retQ_pure rfl h2⟩
            · rw [decide_eq_false hb] at h2
              refine itf (decide_eq_false hb) (retQ_pure rfl ?_)
              show QD (.bl (decide (0 < b))) M
              rw [decide_eq_false hb]
              exact h2
          | _ => exact retQ_pure rfl h2
        | _ => exact retQ_pure rfl h2
    | _ => exact no _ (fun l z => by cases z) h1 rfl h2
/-! ### is_not_below -/
def isNb : D → Bool
  | .tup [.int a, .int b] => isFr (.tup [.int a, .int b]) && decide (0 ≤ a)
  | _ => false
theorem isNb_of {d : D} (h : isNb d = true) : ∃ q : Rat, d = fr q ∧ 0 ≤ q := by
  unfold isNb at h
  split at h
  · rename_i a b
    rw [Bool.and_eq_true, decide_eq_true_eq] at h
    obtain ⟨h1, h2⟩ := h
    have h1 : (decide (0 < b) && decide ((Int.gcd a b : Int) = 1)) = true := h1
    rw [Bool.and_eq_true, decide_eq_true_eq, decide_eq_true_eq] at h1
    have e : fr (Rat.divInt a b) = .tup [.int a, .int b] := by rw [fr_low h1.1, h1.2, Int.ediv_one, Int.ediv_one]
    refine ⟨Rat.divInt a b, e.symm, ?_⟩
    have e2 : (Rat.divInt a b).num = a := by
      have : D.tup [.int (Rat.divInt a b).num, .int ((Rat.divInt a b).den : Int)] = .tup [.int a, .int b] := e
      simp only [D.tup.injEq, List.cons.injEq, D.int.injEq, and_true] at this
      exact this.1
    exact Rat.num_nonneg.mp (by rw [e2]; exact h2)
  · cases h
def s_is_not_below : WF
  | [d], M, Q, _ => okT d = true ∧ Q (.bl (isNb d)) M
  | _, _, _, _ => False
def w_is_not_below : WS := (wRet (wAndV (wCall 1 s_is_fraction (wCons (wVar 0) wNil)) (wBin fGe (wBin fIx (wVar 0) (wC (.int 0))) (wC (.int 0)))))
theorem isNb_fr {q : Rat} (h : 0 ≤ q) : isNb (fr q) = true := by
  show (isFr (fr q) && decide (0 ≤ q.num)) = true
  rw [isFr_fr, decide_eq_true (Rat.num_nonneg.mpr h)]; rfl
theorem isFr_shape {d : D} (h : isFr d = true) : ∃ a b, d = .tup [.int a, .int b] := by
  unfold isFr at h
  split at h
  · exact ⟨_, _, rfl⟩
  · cases h
theorem isNb_no {d : D} (h : isFr d = false) : isNb d = false := by
  unfold isNb
  split
  · rw [h]; rfl
  · rfl
theorem vc_is_not_below (ds : List D) (M : Me) (QD : D → Me → Prop) (ED : EX → Me → Prop) (hl : ds.length = 1) (h : s_is_not_below ds M QD ED) : w_is_not_below (env0 1 ds) M (retE M QD ED) := by
  match ds, h with
  | [d], ⟨h1, h⟩ =>
    refine ⟨rfl, h1, ?_⟩
    cases e : isFr d with
    | false => rw [isNb_no e] at h; exact retQ_pure rfl h
    | true =>
      obtain ⟨a, b, rfl⟩ := isFr_shape e
      have h : QD (.bl (isFr (.tup [.int a, .int b]) && decide (0 ≤ a))) M := h
      rw [e, Bool.true_and] at h
      exact ⟨_, _, rfl, rfl, trivial, retQ_pure rfl h⟩
/-! ### is_above -/
def frA : D → Option Rat
  | .tup [.int a, .int b] => if (isFr (.tup [.int a, .int b]) && decide (0 < a)) = true then some (Rat.divInt a b) else none
  | _ => none
def isAb (d : D) : Bool := (frA d).isSome
theorem frA_some {d : D} {q : Rat} (h : frA d = some q) : d = fr q ∧ 0 < q := by
  unfold frA at h
  split at h
  · rename_i a b
    split at h
    · rename_i h0
      cases h
      rw [Bool.and_eq_true, decide_eq_true_eq] at h0
      obtain ⟨h1, h2⟩ := h0
      have h1 : (decide (0 < b) && decide ((Int.gcd a b : Int) = 1)) = true := h1
      rw [Bool.and_eq_true, decide_eq_true_eq, decide_eq_true_eq] at h1
      have e : fr (Rat.divInt a b) = .tup [.int a, .int b] := by rw [fr_low h1.1, h1.2, Int.ediv_one, Int.ediv_one]
      refine ⟨e.symm, ?_⟩
      have e2 : (Rat.divInt a b).num = a := by
        have : D.tup [.int (Rat.divInt a b).num, .int ((Rat.divInt a b).den : Int)] = .tup [.int a, .int b] := e
        simp only [D.tup.injEq, List.cons.injEq, D.int.injEq, and_true] at this
        exact this.1
      have n0 := Rat.num_nonneg.mp (show 0 ≤ (Rat.divInt a b).num by rw [e2]; omega)
      have n1 : Rat.divInt a b ≠ 0 := fun z => by rw [z] at e2; simp at e2; omega
      grind
    · cases h
  · cases h
theorem num_pos_of {q : Rat} (h : 0 < q) : 0 < q.num := by
  have h1 : 0 ≤ q.num := Rat.num_nonneg.mpr (by grind)
  have h2 := num_ne (show q ≠ 0 by grind)
  omega
theorem frA_fr {q : Rat} (h : 0 < q) : frA (fr q) = some q := by
  show (if (isFr (fr q) && decide (0 < q.num)) = true then some (Rat.divInt q.num (q.den : Int)) else none) = some q
  rw [isFr_fr, decide_eq_true (num_pos_of h), Rat.num_divInt_den]
  rfl
theorem isAb_no {d : D} (h : isFr d = false) : isAb d = false := by
  unfold isAb frA
  split
  · rw [h]; rfl
  · rfl
theorem isAb_fr {d : D} (h : isAb d = true) : ∃ q : Rat, d = fr q ∧ 0 < q ∧ frA d = some q := by
  unfold isAb at h
  obtain ⟨q, e⟩ := Option.isSome_iff_exists.mp h
  exact ⟨q, (frA_some e).1, (frA_some e).2, e⟩
def s_is_above : WF
  | [d], M, Q, _ => okT d = true ∧ Q (.bl (isAb d)) M
  | _, _, _, _ => False
def w_is_above : WS := (wRet (wAndV (wCall 1 s_is_fraction (wCons (wVar 0) wNil)) (wBin fGt (wBin fIx (wVar 0) (wC (.int 0))) (wC (.int 0)))))
theorem isFr_shape2 {d : D} (h : isFr d = true) : ∃ a b, d = .tup [.int a, .int b] := by
  unfold isFr at h
  split at h
  · exact ⟨_, _, rfl⟩
  · cases h
theorem vc_is_above (ds : List D) (M : Me) (QD : D → Me → Prop) (ED : EX → Me → Prop) (hl : ds.length = 1) (h : s_is_above ds M QD ED) : w_is_above (env0 1 ds) M (retE M QD ED) := by
  match ds, h with
  | [d], ⟨h1, h⟩ =>
    refine ⟨rfl, h1, ?_⟩
    cases e : isFr d with
    | false => rw [isAb_no e] at h; exact retQ_pure rfl h
    | true =>
      obtain ⟨a, b, rfl⟩ := isFr_shape2 e
      have e2 : isAb (.tup [.int a, .int b]) = decide (0 < a) := by
        show Option.isSome (if (isFr (.tup [.int a, .int b]) && decide (0 < a)) = true then some (Rat.divInt a b) else none) = decide (0 < a)
        rw [e, Bool.true_and]
        by_cases h0 : 0 < a
        · rw [decide_eq_true h0]; rfl
        · rw [decide_eq_false h0]; rfl
      rw [e2] at h
      exact ⟨_, _, rfl, rfl, trivial, retQ_pure rfl h⟩
/-! ### is_less -/
def s_is_less : WF
  | [x, y], M, Q, _ => ∃ (p q : Rat) (m n : Nat), x = fr p ∧ y = fr q ∧ Fs m p ∧ Fs n q ∧ m + n < 100000 ∧ Q (.bl (decide (p < q))) M
  | _, _, _, _ => False
theorem less_at {p q : Rat} {m n : Nat} {M : Me} {Q : D → Me → Prop} {E : EX → Me → Prop} (hp : Fs m p) (hq : Fs n q) (h : m + n < 100000) (k : Q (.bl (decide (p < q))) M) : s_is_less [fr p, fr q] M Q E := ⟨p, q, m, n, rfl, rfl, hp, hq, h, k⟩
def w_is_less : WS := (wRet (wBin fLt (wBin fMul (wBin fIx (wVar 0) (wC (.int 0))) (wBin fIx (wVar 1) (wC (.int 1)))) (wBin fMul (wBin fIx (wVar 1) (wC (.int 0))) (wBin fIx (wVar 0) (wC (.int 1))))))
theorem vc_is_less (ds : List D) (M : Me) (QD : D → Me → Prop) (ED : EX → Me → Prop) (hl : ds.length = 2) (h : s_is_less ds M QD ED) : w_is_less (env0 2 ds) M (retE M QD ED) := by
  match ds, h with
  | [x, y], ⟨p, q, m, n, e1, e2, hp, hq, hmn, h3⟩ =>
    subst e1; subst e2
    rw [← lt_fr] at h3
    exact ⟨_, _, rfl, rfl, _, _, rfl, rfl, hp.1.mok hq.2 (by omega), _, _, rfl, rfl, _, _, rfl, rfl, hq.1.mok hp.2 (by omega), trivial, retQ_pure rfl h3⟩
/-! ### as_fraction -/
def s_as_fraction : WF
  | [.int i], M, Q, _ => Q (fr (i : Rat)) M
  | _, _, _, _ => False
def w_as_fraction : WS := (wRet (wTup (wCons (wVar 0) (wCons (wC (.int 1)) wNil))))
theorem vc_as_fraction (ds : List D) (M : Me) (QD : D → Me → Prop) (ED : EX → Me → Prop) (hl : ds.length = 1) (h : s_as_fraction ds M QD ED) : w_as_fraction (env0 1 ds) M (retE M QD ED) := by
  match ds, h with
  | [.int i], h => exact ⟨by show 2 ≤ sizeLine; decide, retQ_pure rfl h⟩
/-! ### is_name -/
/-! ### names, takes, pieces, lanes, sheets -/
def nmB (x : Str) : Bool := decide (1 ≤ x.length) && (decide (x.length ≤ 8) && x.cps.toList.all fun c => inStr ⟨#[c]⟩ "abcdefghijklmnopqrstuvwxyz")
def isNm : D → Bool
  | .str x => nmB x
  | _ => false
structure Tk where
  name : Str
  tones : List Int
structure Pc where
  n : Int
  take : Str
  at_ : Int
  many : Int
  bound : Bool
  start : Rat
  speed : Rat
  shape : List (Rat × Rat)
structure Ln where
  name : Str
  gain : Rat
  hush : Int
  pcs : List Pc
structure Sh where
  ss : List Stt
  rest : Rat
  takes : List Tk
  lanes : List Ln
def cnD (c : Rat × Rat) : D := .tup [fr c.1, fr c.2]
def tkD (t : Tk) : D := .tup [.str t.name, .tup (t.tones.map .int)]
def wayS (b : Bool) : Str := if b then "bound" else "free"
def pcD (p : Pc) : D := .tup [.int p.n, .str p.take, .int p.at_, .int p.many, .str (wayS p.bound), fr p.start, fr p.speed, .tup (p.shape.map cnD)]
def lnD (l : Ln) : D := .tup [.str l.name, fr l.gain, .int l.hush, .tup (l.pcs.map pcD)]
def shD (s : Sh) : D := .tup [tmD s.ss s.rest, .tup (s.takes.map tkD), .tup (s.lanes.map lnD)]
/-- whether a corner lies straight between two others -/
def strB (a b c : Rat × Rat) : Bool := decide ((b.2 - a.2) * (c.1 - b.1) = (c.2 - b.2) * (b.1 - a.1))
structure CnOk (m : Nat) (c : Rat × Rat) : Prop where
  x0 : 0 ≤ c.1
  y0 : 0 ≤ c.2
  fx : Fs m c.1
  fy : Fs m c.2
structure ShapeOk (m : Nat) (l : List (Rat × Rat)) : Prop where
  two : 2 ≤ l.length
  few : l.length ≤ 12
  cn : ∀ c ∈ l, CnOk m c
  inc : ∀ (i : Nat) (a b : Rat × Rat), l[i]? = some a → l[i + 1]? = some b → a.1 < b.1
  bent : ∀ (i : Nat) (a b c : Rat × Rat), l[i]? = some a → l[i + 1]? = some b → l[i + 2]? = some c → strB a b c = false
structure TkOk (t : Tk) : Prop where
  nm : nmB t.name = true
  one : 1 ≤ t.tones.length
  few : t.tones.length ≤ 200
  tn : ∀ i ∈ t.tones, -100000 ≤ i ∧ i ≤ 100000
structure PcOk (m : Nat) (p : Pc) : Prop where
  n1 : 1 ≤ p.n
  n2 : p.n ≤ 99999
  tk : nmB p.take = true
  at0 : 0 ≤ p.at_
  m1 : 1 ≤ p.many
  fin : p.at_ + p.many ≤ 100000
  st0 : 0 ≤ p.start
  fs : Fs m p.start
  sp0 : 0 < p.speed
  fp : Fs m p.speed
  sh : ShapeOk m p.shape
  fst : ∀ c, p.shape[0]? = some c → c.1 = 0
  lst : ∀ c, p.shape[p.shape.length - 1]? = some c → c.1 = (p.many : Rat)
structure LnOk (m : Nat) (l : Ln) : Prop where
  nm : nmB l.name = true
  g0 : 0 ≤ l.gain
  fg : Fs m l.gain
  h0 : 0 ≤ l.hush
  h1 : l.hush ≤ 1
  pc : ∀ p ∈ l.pcs, PcOk m p
def allP (lanes : List Ln) : List Pc := lanes.flatMap (·.pcs)
def s_is_name : WF
  | [d], M, Q, _ => hasT d = true ∧ (∀ x, d = .str x → x.length ≤ sizeLine) ∧ Q (.bl (isNm d)) M
  | _, _, _, _ => False
def w_is_name : WS := (wSeq (wIf (wOrT (wNotT (wTr (wIsi .str (wVar 0)))) (wNotT (wB (wChain fLe fLe (wC (.int 1)) (wCB fLen (wCons (wVar 0) wNil)) k_LONGEST_NAME))))
  (wRet (wC (.bl false)))
  wNext)
  (wRet (wCB fAll (wCons (wFz (wLc (wIStr (wVar 0)) (gSet 1) wYes (wBin (fIn false) (wVar 1) k_LETTERS) [1])) wNil))))
theorem vc_is_name (ds : List D) (M : Me) (QD : D → Me → Prop) (ED : EX → Me → Prop) (hl : ds.length = 1) (h : s_is_name ds M QD ED) : w_is_name (env0 2 ds) M (retE M QD ED) := by
  match ds, h with
  | [d], ⟨h1, hs, h⟩ =>
    refine ⟨h1, ?_⟩
    cases d with
    | str x =>
      have hx := hs x rfl
      have h : QD (.bl (decide (1 ≤ x.length) && (decide (x.length ≤ 8) && x.cps.toList.all fun c => inStr ⟨#[c]⟩ "abcdefghijklmnopqrstuvwxyz"))) M := h
      refine ⟨hx, trivial, chainQ (fun e1 => ?_) (fun e1 => ?_)⟩
      · have e1 := of_decide_eq_true e1
        rw [decide_eq_true (show 1 ≤ x.length by omega), Bool.true_and] at h
        refine ⟨trivial, ?_⟩
        by_cases e2 : x.length ≤ 8
        · rw [decide_eq_true e2, Bool.true_and] at h
          refine itf (by rw [decide_eq_true (show (x.length : Int) ≤ 8 by omega)]; rfl) ?_
          refine ⟨x, rfl, ?_⟩
          refine lcGo_ix (fun i acc M1 => M1 = M ∧ acc = (x.cps.toList.take i).map fun c => .bl (inStr ⟨#[c]⟩ "abcdefghijklmnopqrstuvwxyz")) ?_ ?_ ⟨rfl, rfl⟩
          · rintro i d acc M1 K hd ⟨rfl, rfl⟩ hK
            unfold sgD at hd
            rw [List.getElem?_map] at hd
            obtain ⟨c, hc, rfl⟩ := Option.map_eq_some_iff.mp hd
            refine ⟨trivial, ?_, hK _ _ ⟨rfl, by rw [List.take_succ, hc, List.map_append]; rfl⟩⟩
            rw [List.length_map, List.length_take]
            have : x.cps.toList.length ≤ 8 := e2
            exact Nat.lt_of_le_of_lt (show min i x.cps.toList.length ≤ 8 by omega) (by decide)
          · rintro acc M1 ⟨rfl, rfl⟩
            have el : (sgD x).length = x.cps.toList.length := by simp [sgD]
            rw [el, List.take_length]
            refine ⟨trivial, _, _, rfl, bls_map (fun c => inStr ⟨#[c]⟩ "abcdefghijklmnopqrstuvwxyz") _, retQ_pure rfl ?_⟩
            rw [List.all_map]
            exact h
        · rw [decide_eq_false e2, Bool.false_and] at h
          refine itt (by rw [decide_eq_false (show ¬ (x.length : Int) ≤ 8 by omega)]; rfl) ?_
          exact retQ_pure rfl h
      · have e1 := of_decide_eq_false e1
        rw [decide_eq_false (show ¬ 1 ≤ x.length by omega), Bool.false_and] at h
        exact retQ_pure rfl h
    | _ => exact retQ_pure rfl h
/-! ### are_tones -/
/-- what may be asked as a take: nothing in it that has no type, no text too long -/
def tnIn (d : D) : Prop := hasT d = true ∧ ∀ l, d = .tup l → l.length ≤ 300 ∧ ∀ x ∈ l, hasT x = true
def tnB (d : D) : Bool := isFrm d (-100000) 100000
def isTn : D → Bool
  | .tup l => decide (1 ≤ l.length) && (decide (l.length ≤ 200) && l.all tnB)
  | _ => false
theorem hasT_int (i : Int) : hasT (.int i) = true := rfl
theorem isFrm_at {i a b : Int} (h1 : a ≤ i) (h2 : i ≤ b) : isFrm (.int i) a b = true := by
  show (decide (a ≤ i) && decide (i ≤ b)) = true
  rw [decide_eq_true h1, decide_eq_true h2]; rfl
theorem all_rp (n : Nat) : (List.replicate n true).all id = true := by
  induction n with
  | zero => rfl
  | succ n ih => rw [List.replicate_succ, List.all_cons, ih]; rfl
theorem bls_rp (n : Nat) (b : Bool) : blsD (List.replicate n (.bl b)) = some (List.replicate n b) := by
  induction n with
  | zero => rfl
  | succ n ih => rw [List.replicate_succ, List.replicate_succ]; show (blsD (List.replicate n (.bl b))).map _ = _; rw [ih]; rfl
def s_are_tones : WF
  | [d], M, Q, _ => tnIn d ∧ Q (.bl (isTn d)) M
  | _, _, _, _ => False
def w_are_tones : WS := (wSeq (wIf (wOrT (wNotT (wTr (wIsi .tuple (wVar 0)))) (wNotT (wB (wChain fLe fLe (wC (.int 1)) (wCB fLen (wCons (wVar 0) wNil)) k_MOST_TONES))))
  (wRet (wC (.bl false)))
  wNext)
  (wRet (wCB fAll (wCons (wFz (wLc (wISq (wVar 0)) (gSet 1) wYes (wCall 3 s_is_from (wCons (wVar 1) (wCons (wBin fSub (wC (.int 0)) k_LOUDEST_TONE) (wCons k_LOUDEST_TONE wNil)))) [1])) wNil))))
theorem vc_are_tones (ds : List D) (M : Me) (QD : D → Me → Prop) (ED : EX → Me → Prop) (hl : ds.length = 1) (h : s_are_tones ds M QD ED) : w_are_tones (env0 2 ds) M (retE M QD ED) := by
  match ds, h with
  | [d], ⟨⟨ht, hs⟩, h⟩ =>
    refine ⟨ht, ?_⟩
    cases d with
    | tup l =>
      obtain ⟨few, hx⟩ := hs l rfl
      have h : QD (.bl (decide (1 ≤ l.length) && (decide (l.length ≤ 200) && l.all tnB))) M := h
      refine ⟨_, rfl, trivial, chainQ (fun e1 => ?_) (fun e1 => ?_)⟩
      · have e1 := of_decide_eq_true e1
        rw [decide_eq_true (show 1 ≤ l.length by omega), Bool.true_and] at h
        refine ⟨trivial, ?_⟩
        by_cases e2 : l.length ≤ 200
        · rw [decide_eq_true e2, Bool.true_and] at h
          refine itf (by rw [decide_eq_true (show (l.length : Int) ≤ 200 by omega)]; rfl) ?_
          refine ⟨_, _, rfl, ?_⟩
          refine lcGo_ix (fun i acc M1 => M1 = M ∧ acc = (l.take i).map fun d => .bl (tnB d)) ?_ ?_ ⟨rfl, rfl⟩
          · rintro i d acc M1 K hd ⟨rfl, rfl⟩ hK
            refine ⟨trivial, trivial, rfl, hx d (List.mem_of_getElem? hd), ?_, hK _ _ ⟨rfl, ?_⟩⟩
            · rw [List.length_map, List.length_take]
              exact Nat.lt_of_le_of_lt (show min i l.length ≤ 200 by omega) (by decide)
            · rw [List.take_succ, hd, List.map_append]; rfl
          · rintro acc M1 ⟨rfl, rfl⟩
            rw [List.take_length]
            refine ⟨trivial, _, _, rfl, bls_map tnB l, retQ_pure rfl ?_⟩
            rw [List.all_map]
            exact h
        · rw [decide_eq_false e2, Bool.false_and] at h
          refine itt (by rw [decide_eq_false (show ¬ (l.length : Int) ≤ 200 by omega)]; rfl) ?_
          exact retQ_pure rfl h
      · have e1 := of_decide_eq_false e1
        rw [decide_eq_false (show ¬ 1 ≤ l.length by omega), Bool.false_and] at h
        exact retQ_pure rfl h
    | _ => exact retQ_pure rfl h
/-! ### is_take -/
def isTk : D → Bool
  | .tup [a, b] => isNm a && isTn b
  | _ => false
/-- what may be asked as a take -/
structure TkIn (d : D) : Prop where
  t : hasT d = true
  p : ∀ a b, d = .tup [a, b] → hasT a = true ∧ (∀ x, a = .str x → x.length ≤ sizeLine) ∧ tnIn b
def s_is_take : WF
  | [d], M, Q, _ => TkIn d ∧ Q (.bl (isTk d)) M
  | _, _, _, _ => False
def w_is_take : WS := (wRet (wAndV (wIsi .tuple (wVar 0)) (wAndV (wBin fEq (wCB fLen (wCons (wVar 0) wNil)) (wC (.int 2))) (wAndV (wCall 1 s_is_name (wCons (wBin fIx (wVar 0) (wC (.int 0))) wNil)) (wCall 1 s_are_tones (wCons (wBin fIx (wVar 0) (wC (.int 1))) wNil))))))
theorem nm_len {x : Str} (h : nmB x = true) : 1 ≤ x.length ∧ x.length ≤ 8 := by
  obtain ⟨a, b⟩ := He.ba (show (decide (1 ≤ x.length) && (decide (x.length ≤ 8) && _)) = true from h)
  obtain ⟨b, _⟩ := He.ba b
  exact ⟨of_decide_eq_true a, of_decide_eq_true b⟩
theorem nm_line {x : Str} (h : nmB x = true) : ∀ y, D.str x = .str y → y.length ≤ sizeLine := fun y e => by
  cases e
  exact Nat.le_trans (nm_len h).2 (by decide)
theorem nm_at {x : Str} {M : Me} {Q : D → Me → Prop} {E : EX → Me → Prop} (h : nmB x = true) (q : Q (.bl true) M) : s_is_name [.str x] M Q E := ⟨rfl, nm_line h, by rw [show isNm (.str x) = true from h]; exact q⟩
theorem isTn_tk {t : Tk} (ok : TkOk t) : isTn (.tup (t.tones.map .int)) = true := by
  show (decide (1 ≤ (t.tones.map D.int).length) && (decide ((t.tones.map D.int).length ≤ 200) && (t.tones.map D.int).all tnB)) = true
  rw [List.length_map, decide_eq_true ok.one, decide_eq_true ok.few, List.all_map, Bool.true_and, Bool.true_and]
  exact List.all_eq_true.mpr fun i hi => isFrm_at (ok.tn i hi).1 (ok.tn i hi).2
theorem isTk_tk {t : Tk} (ok : TkOk t) : isTk (tkD t) = true := by
  show (nmB t.name && isTn (.tup (t.tones.map .int))) = true
  rw [ok.nm, isTn_tk ok]; rfl
theorem tkIn_tk {t : Tk} (ok : TkOk t) : TkIn (tkD t) := ⟨rfl, fun a b e => by
  cases e
  refine ⟨rfl, nm_line ok.nm, rfl, fun l el => ?_⟩
  cases el
  refine ⟨by rw [List.length_map]; have := ok.few; omega, fun x hx => ?_⟩
  obtain ⟨i, _, rfl⟩ := List.mem_map.mp hx
  rfl⟩
theorem vc_is_take (ds : List D) (M : Me) (QD : D → Me → Prop) (ED : EX → Me → Prop) (hl : ds.length = 1) (h : s_is_take ds M QD ED) : w_is_take (env0 1 ds) M (retE M QD ED) := by
  match ds, h with
  | [d], ⟨hi, h⟩ =>
    refine ⟨hi.t, ?_⟩
    cases d with
    | tup l =>
      match l, hi, h with
      | [], _, h => exact ⟨_, rfl, retQ_pure rfl h⟩
      | [x], _, h => exact ⟨_, rfl, retQ_pure rfl h⟩
      | x :: y :: z :: u, _, h =>
        refine ⟨_, rfl, ?_⟩
        have e : decide (((x :: y :: z :: u).length : Int) = 2) = false := decide_eq_false (by simp only [List.length_cons]; omega)
        exact retQ_pure rfl h
      | [a, b], hi, h =>
        obtain ⟨h1, h2, h3⟩ := hi.p a b rfl
        have h : QD (.bl (isNm a && isTn b)) M := h
        refine ⟨_, rfl, _, _, rfl, rfl, rfl, h1, h2, ?_⟩
        cases e : isNm a with
        | false => rw [e, Bool.false_and] at h; exact retQ_pure rfl h
        | true =>
          rw [e, Bool.true_and] at h
          exact ⟨_, _, rfl, rfl, rfl, h3, retQ_pure rfl h⟩
    | _ => exact retQ_pure rfl h
/-! ### is_corner -/
theorem Pl.okT {d : D} (h : Pl d) : okT d = true := by
  cases h with
  | tup h1 h2 =>
    rename_i l
    match l, h1 with
    | [x, y], h1 =>
      show (DL.hasT x && DL.hasT y) = true
      rw [(h1 x (by simp)).hasT, (h1 y (by simp)).hasT]; rfl
    | [], _ => rfl
    | [x], _ => rfl
    | x :: y :: z :: l, _ => rfl
  | _ => rfl
/-- plain data of small numbers and short texts -/
inductive Ps : D → Prop where
  | non : Ps .non
  | bl (b : Bool) : Ps (.bl b)
  | int {i : Int} : Sm 110 i → Ps (.int i)
  | str {x : Str} : x.length ≤ 10000000 → Ps (.str x)
  | tup {l : List D} : (∀ d ∈ l, Ps d) → l.length ≤ 260 → Ps (.tup l)
  | lst {l : List D} : (∀ d ∈ l, Ps d) → Ps (.lst l)
  | dct : Ps (.dct [] [])
theorem Ps.pl {d : D} (h : Ps d) : Pl d := by
  induction h with
  | non => exact .non
  | bl b => exact .bl b
  | int h => exact .int h
  | str h => exact .str _
  | tup h1 h2 ih => exact .tup ih h2
  | lst h1 ih => exact .lst ih
  | dct => exact .dct
theorem Ps.ht {d : D} (h : Ps d) : hasT d = true := h.pl.hasT
theorem Ps.all {l : List D} (h : Ps (.tup l)) : ∀ d ∈ l, Ps d := by cases h; assumption
theorem Ps.len {l : List D} (h : Ps (.tup l)) : l.length ≤ 260 := by cases h; assumption
theorem Ps.sm {i : Int} (h : Ps (.int i)) : Sm 110 i := by cases h; assumption
theorem Ps.line {d : D} (h : Ps d) : ∀ x, d = .str x → x.length ≤ sizeLine := fun x e => by
  subst e
  cases h with
  | str h => exact Nat.le_trans h (by decide)
theorem Ps.frq {q : Rat} (h : Ps (fr q)) : Fs 110 q := ⟨(h.all _ List.mem_cons_self).sm, (h.all _ (List.mem_cons_of_mem _ List.mem_cons_self)).sm⟩
/-- whether a thing is a corner -/
def isCn : D → Bool
  | .tup [a, b] => isNb a && isNb b
  | _ => false
def toR : D → Rat
  | .tup [.int a, .int b] => Rat.divInt a b
  | _ => 0
def toC : D → Rat × Rat
  | .tup [a, b] => (toR a, toR b)
  | _ => (0, 0)
theorem toR_fr (q : Rat) : toR (fr q) = q := Rat.num_divInt_den q
theorem isCn_of {d : D} (h : isCn d = true) : d = cnD (toC d) ∧ 0 ≤ (toC d).1 ∧ 0 ≤ (toC d).2 := by
  unfold isCn at h
  split at h
  · rename_i a b
    rw [Bool.and_eq_true] at h
    obtain ⟨p, rfl, p0⟩ := isNb_of h.1
    obtain ⟨q, rfl, q0⟩ := isNb_of h.2
    show D.tup [fr p, fr q] = .tup [fr (toR (fr p)), fr (toR (fr q))] ∧ 0 ≤ toR (fr p) ∧ 0 ≤ toR (fr q)
    rw [toR_fr, toR_fr]
    exact ⟨rfl, p0, q0⟩
  · cases h
theorem isCn_cn {c : Rat × Rat} (h1 : 0 ≤ c.1) (h2 : 0 ≤ c.2) : isCn (cnD c) = true := by
  show (isNb (fr c.1) && isNb (fr c.2)) = true
  rw [isNb_fr h1, isNb_fr h2]; rfl
theorem toC_cn (c : Rat × Rat) : toC (cnD c) = c := by
  show (toR (fr c.1), toR (fr c.2)) = c
  rw [toR_fr, toR_fr]
def s_is_corner : WF
  | [d], M, Q, _ => (∃ c : Rat × Rat, d = cnD c ∧ 0 ≤ c.1 ∧ 0 ≤ c.2 ∧ Q (.bl true) M) ∨ (Ps d ∧ Q (.bl (isCn d)) M)
  | _, _, _, _ => False
def w_is_corner : WS := (wRet (wAndV (wIsi .tuple (wVar 0)) (wAndV (wBin fEq (wCB fLen (wCons (wVar 0) wNil)) (wC (.int 2))) (wAndV (wCall 1 s_is_not_below (wCons (wBin fIx (wVar 0) (wC (.int 0))) wNil)) (wCall 1 s_is_not_below (wCons (wBin fIx (wVar 0) (wC (.int 1))) wNil))))))
theorem nb_at {q : Rat} {M : Me} {Q : D → Me → Prop} {E : EX → Me → Prop} (h : 0 ≤ q) (k : Q (.bl true) M) : s_is_not_below [fr q] M Q E := ⟨rfl, by rw [isNb_fr h]; exact k⟩
theorem ab_at {q : Rat} {M : Me} {Q : D → Me → Prop} {E : EX → Me → Prop} (h : 0 < q) (k : Q (.bl true) M) : s_is_above [fr q] M Q E := ⟨rfl, by rw [show isAb (fr q) = true by unfold isAb; rw [frA_fr h]; rfl]; exact k⟩
theorem len3 {x y z : D} {u : List D} : decide (((x :: y :: z :: u).length : Int) = 2) = false := decide_eq_false (by simp only [List.length_cons]; omega)
theorem vc_is_corner (ds : List D) (M : Me) (QD : D → Me → Prop) (ED : EX → Me → Prop) (hl : ds.length = 1) (h : s_is_corner ds M QD ED) : w_is_corner (env0 1 ds) M (retE M QD ED) := by
  match ds, h with
  | [_], .inl ⟨c, rfl, x0, y0, h⟩ =>
    exact ⟨rfl, _, rfl, _, _, rfl, rfl, rfl, nb_at x0 ⟨_, _, rfl, rfl, rfl, nb_at y0 (retQ_pure rfl h)⟩⟩
  | [d], .inr ⟨hd, h⟩ =>
    refine ⟨hd.ht, ?_⟩
    cases d with
    | tup l =>
      match l, hd, h with
      | [], _, h => exact ⟨_, rfl, retQ_pure rfl h⟩
      | [x], _, h => exact ⟨_, rfl, retQ_pure rfl h⟩
      | x :: y :: z :: u, _, h => exact ⟨_, rfl, retQ_pure rfl h⟩
      | [a, b], hd, h =>
        have h : QD (.bl (isNb a && isNb b)) M := h
        have ha := hd.all a List.mem_cons_self
        have hb := hd.all b (List.mem_cons_of_mem _ List.mem_cons_self)
        refine ⟨_, rfl, _, _, rfl, rfl, rfl, ha.pl.okT, ?_⟩
        cases e : isNb a with
        | false => rw [e, Bool.false_and] at h; exact retQ_pure rfl h
        | true =>
          rw [e, Bool.true_and] at h
          exact ⟨_, _, rfl, rfl, rfl, hb.pl.okT, retQ_pure rfl h⟩
    | _ => exact retQ_pure rfl h
/-! ### far_between -/
def s_far_between : WF
  | [x, y], M, Q, _ => ∃ (p q : Rat) (m : Nat), x = fr p ∧ y = fr q ∧ Fs m p ∧ Fs m q ∧ m ≤ 10000 ∧ Q (.tup [.int (q.num * p.den - p.num * q.den), .int ((p.den : Int) * q.den)]) M
  | _, _, _, _ => False
def w_far_between : WS := (wRet (wTup (wCons (wBin fSub (wBin fMul (wBin fIx (wVar 1) (wC (.int 0))) (wBin fIx (wVar 0) (wC (.int 1)))) (wBin fMul (wBin fIx (wVar 0) (wC (.int 0))) (wBin fIx (wVar 1) (wC (.int 1))))) (wCons (wBin fMul (wBin fIx (wVar 0) (wC (.int 1))) (wBin fIx (wVar 1) (wC (.int 1)))) wNil))))
theorem vc_far_between (ds : List D) (M : Me) (QD : D → Me → Prop) (ED : EX → Me → Prop) (hl : ds.length = 2) (h : s_far_between ds M QD ED) : w_far_between (env0 2 ds) M (retE M QD ED) := by
  match ds, h with
  | [_, _], ⟨p, q, m, rfl, rfl, hp, hq, hm, h⟩ =>
    exact ⟨_, _, rfl, rfl, _, _, rfl, rfl, hq.1.mok hp.2 (by omega), _, _, rfl, rfl, _, _, rfl, rfl, hp.1.mok hq.2 (by omega), trivial, _, _, rfl, rfl, _, _, rfl, rfl, hp.2.mok hq.2 (by omega), by show 2 ≤ sizeLine; decide, retQ_pure rfl h⟩
/-! ### lies_straight -/
theorem cast_den_ne (q : Rat) : ((q.den : Int) : Rat) ≠ 0 := fun z => den_ne q (Rat.intCast_inj.mp z)
theorem far_eq (p q : Rat) : ((q.num * p.den - p.num * q.den : Int) : Rat) = (q - p) * (p.den : Int) * (q.den : Int) := by
  have e1 : q * ((q.den : Int) : Rat) = (q.num : Rat) := by
    have h := Rat.num_divInt_den q
    rw [Rat.divInt_eq_div] at h
    have g := Rat.div_mul_cancel (a := (q.num : Rat)) (cast_den_ne q)
    rw [h] at g
    exact g
  have e2 : p * ((p.den : Int) : Rat) = (p.num : Rat) := by
    have h := Rat.num_divInt_den p
    rw [Rat.divInt_eq_div] at h
    have g := Rat.div_mul_cancel (a := (p.num : Rat)) (cast_den_ne p)
    rw [h] at g
    exact g
  rw [Rat.intCast_sub, Rat.intCast_mul, Rat.intCast_mul, ← e1, ← e2]
  grind
def s_lies_straight : WF
  | [x, y, z], M, Q, _ => ∃ (a b c : Rat × Rat) (m : Nat), x = cnD a ∧ y = cnD b ∧ z = cnD c ∧ Fs m a.1 ∧ Fs m a.2 ∧ Fs m b.1 ∧ Fs m b.2 ∧ Fs m c.1 ∧ Fs m c.2 ∧ m ≤ 10000 ∧ Q (.bl (strB a b c)) M
  | _, _, _, _ => False
def w_lies_straight : WS := (wSeq (wPar 3 4 (wCons (wCall 2 s_far_between (wCons (wBin fIx (wVar 0) (wC (.int 1))) (wCons (wBin fIx (wVar 1) (wC (.int 1))) wNil))) (wCons (wCall 2 s_far_between (wCons (wBin fIx (wVar 0) (wC (.int 0))) (wCons (wBin fIx (wVar 1) (wC (.int 0))) wNil))) wNil)))
  (wSeq (wPar 5 6 (wCons (wCall 2 s_far_between (wCons (wBin fIx (wVar 1) (wC (.int 1))) (wCons (wBin fIx (wVar 2) (wC (.int 1))) wNil))) (wCons (wCall 2 s_far_between (wCons (wBin fIx (wVar 1) (wC (.int 0))) (wCons (wBin fIx (wVar 2) (wC (.int 0))) wNil))) wNil)))
  (wRet (wBin fEq (wBin fMul (wBin fMul (wBin fMul (wBin fIx (wVar 3) (wC (.int 0))) (wBin fIx (wVar 6) (wC (.int 0)))) (wBin fIx (wVar 4) (wC (.int 1)))) (wBin fIx (wVar 5) (wC (.int 1)))) (wBin fMul (wBin fMul (wBin fMul (wBin fIx (wVar 5) (wC (.int 0))) (wBin fIx (wVar 4) (wC (.int 0)))) (wBin fIx (wVar 6) (wC (.int 1)))) (wBin fIx (wVar 3) (wC (.int 1))))))))
theorem str_eq (a b c : Rat × Rat) : decide ((b.2.num * a.2.den - a.2.num * b.2.den) * (c.1.num * b.1.den - b.1.num * c.1.den) * ((a.1.den : Int) * b.1.den) * ((b.2.den : Int) * c.2.den) =
    (c.2.num * b.2.den - b.2.num * c.2.den) * (b.1.num * a.1.den - a.1.num * b.1.den) * ((b.1.den : Int) * c.1.den) * ((a.2.den : Int) * b.2.den)) = strB a b c := by
  unfold strB
  refine decide_eq_decide.mpr ?_
  rw [← Rat.intCast_inj]
  simp only [Rat.intCast_mul, far_eq]
  have d1 := cast_den_ne a.1
  have d2 := cast_den_ne a.2
  have d3 := cast_den_ne b.1
  have d4 := cast_den_ne b.2
  have d5 := cast_den_ne c.1
  have d6 := cast_den_ne c.2
  generalize ((a.1.den : Int) : Rat) = x1 at *
  generalize ((a.2.den : Int) : Rat) = x2 at *
  generalize ((b.1.den : Int) : Rat) = x3 at *
  generalize ((b.2.den : Int) : Rat) = x4 at *
  generalize ((c.1.den : Int) : Rat) = x5 at *
  generalize ((c.2.den : Int) : Rat) = x6 at *
  have key : x1 * x2 * x3 * x3 * x4 * x4 * x5 * x6 ≠ 0 := by
    intro z
    simp only [Rat.mul_eq_zero, d1, d2, d3, d4, d5, d6, or_self] at z
  constructor
  · intro e
    have z : x1 * x2 * x3 * x3 * x4 * x4 * x5 * x6 * ((b.2 - a.2) * (c.1 - b.1) - (c.2 - b.2) * (b.1 - a.1)) = 0 := by grind
    rcases Rat.mul_eq_zero.mp z with z | z
    · exact absurd z key
    · grind
  · intro e
    have : (b.2 - a.2) * x2 * x4 * ((c.1 - b.1) * x3 * x5) * (x1 * x3) * (x4 * x6) = (b.2 - a.2) * (c.1 - b.1) * (x2 * x4 * x3 * x5 * (x1 * x3) * (x4 * x6)) := by grind
    rw [this, e]
    grind
theorem vc_lies_straight (ds : List D) (M : Me) (QD : D → Me → Prop) (ED : EX → Me → Prop) (hl : ds.length = 3) (h : s_lies_straight ds M QD ED) : w_lies_straight (env0 7 ds) M (retE M QD ED) := by
  match ds, h with
  | [_, _, _], ⟨a, b, c, m, rfl, rfl, rfl, a1, a2, b1, b2, c1, c2, hm, h⟩ =>
    refine ⟨_, _, rfl, rfl, _, _, rfl, rfl, rfl, a.2, b.2, m, rfl, rfl, a2, b2, hm, ?_⟩
    refine ⟨_, _, rfl, rfl, _, _, rfl, rfl, rfl, a.1, b.1, m, rfl, rfl, a1, b1, hm, ?_⟩
    refine ⟨_, _, rfl, rfl, _, _, rfl, rfl, rfl, b.2, c.2, m, rfl, rfl, b2, c2, hm, ?_⟩
    refine ⟨_, _, rfl, rfl, _, _, rfl, rfl, rfl, b.1, c.1, m, rfl, rfl, b1, c1, hm, ?_⟩
    have df : ∀ {p q : Rat}, Fs m p → Fs m q → Sm (m + m + 1) (q.num * p.den - p.num * q.den) := fun hp hq => (hq.1.mul hp.2).sub (hp.1.mul hq.2)
    have dd : ∀ {p q : Rat}, Fs m p → Fs m q → Sm (m + m) ((p.den : Int) * q.den) := fun hp hq => hp.2.mul hq.2
    have r0 := df a2 b2
    have f0 := df b1 c1
    have u1 := dd a1 b1
    have o1 := dd b2 c2
    have o0 := df b2 c2
    have u0 := df a1 b1
    have f1 := dd b1 c1
    have r1 := dd a2 b2
    refine ⟨_, _, rfl, rfl, _, _, rfl, rfl, r0.mok f0 (by omega), _, _, rfl, rfl, (r0.mul f0).mok u1 (by omega), _, _, rfl, rfl, ((r0.mul f0).mul u1).mok o1 (by omega), ?_⟩
    refine ⟨_, _, rfl, rfl, _, _, rfl, rfl, o0.mok u0 (by omega), _, _, rfl, rfl, (o0.mul u0).mok f1 (by omega), _, _, rfl, rfl, ((o0.mul u0).mul f1).mok r1 (by omega), ?_⟩
    refine retQ_pure rfl ?_
    rw [str_eq]
    exact h
/-! ### is_shape -/
def incB (l : List (Rat × Rat)) : Bool := (List.range (l.length - 1)).all fun k => decide ((l.getD k (0, 0)).1 < (l.getD (k + 1) (0, 0)).1)
def strA (l : List (Rat × Rat)) : Bool := (List.range (l.length - 2)).any fun k => strB (l.getD k (0, 0)) (l.getD (k + 1) (0, 0)) (l.getD (k + 2) (0, 0))
/-- whether a thing is a shape -/
def isSh : D → Bool
  | .tup l => decide (2 ≤ l.length) && (decide (l.length ≤ 12) && (l.all isCn && (incB (l.map toC) && !strA (l.map toC))))
  | _ => false
def s_is_shape : WF
  | [d], M, Q, _ => (∃ (l : List (Rat × Rat)) (m : Nat), d = .tup (l.map cnD) ∧ ShapeOk m l ∧ m ≤ 10000 ∧ Q (.bl true) M) ∨ (Ps d ∧ Q (.bl (isSh d)) M)
  | _, _, _, _ => False
def w_is_shape_t3 : WS := (wRet (wNotV (wCB fAny (wCons (wFz (wLc (wIR2 (wCons (wC (.int 1)) (wCons (wBin fSub (wCB fLen (wCons (wVar 0) wNil)) (wC (.int 1))) wNil))) (gSet 2) wYes (wCall 3 s_lies_straight (wCons (wBin fIx (wVar 0) (wBin fSub (wVar 2) (wC (.int 1)))) (wCons (wBin fIx (wVar 0) (wVar 2)) (wCons (wBin fIx (wVar 0) (wBin fAdd (wVar 2) (wC (.int 1)))) wNil)))) [2])) wNil))))
def w_is_shape_t2 : WS := (wSeq (wIf (wNotT (wTr (wCB fAll (wCons (wFz (wLc (wIR2 (wCons (wC (.int 1)) (wCons (wCB fLen (wCons (wVar 0) wNil)) wNil))) (gSet 2) wYes (wCall 2 s_is_less (wCons (wBin fIx (wBin fIx (wVar 0) (wBin fSub (wVar 2) (wC (.int 1)))) (wC (.int 0))) (wCons (wBin fIx (wBin fIx (wVar 0) (wVar 2)) (wC (.int 0))) wNil))) [2])) wNil))))
  (wRet (wC (.bl false)))
  wNext)
  (w_is_shape_t3))
def w_is_shape_t1 : WS := (wSeq (wIf (wNotT (wTr (wCB fAll (wCons (wFz (wLc (wISq (wVar 0)) (gSet 1) wYes (wCall 1 s_is_corner (wCons (wVar 1) wNil)) [1])) wNil))))
  (wRet (wC (.bl false)))
  wNext)
  (w_is_shape_t2))
def w_is_shape : WS := (wSeq (wIf (wOrT (wNotT (wTr (wIsi .tuple (wVar 0)))) (wNotT (wB (wChain fLe fLe (wC (.int 2)) (wCB fLen (wCons (wVar 0) wNil)) k_MOST_CORNERS))))
  (wRet (wC (.bl false)))
  wNext)
  (w_is_shape_t1))
theorem any_rep (n : Nat) : (List.replicate n false).any id = false := by
  induction n with
  | zero => rfl
  | succ n ih => rw [List.replicate_succ, List.any_cons, ih]; rfl
theorem at_map {α : Type} {f : α → D} {l : List α} {i : Nat} {x : α} {k : Int} (h : l[i]? = some x) (e : k = (i : Int)) : atI (l.map f) k = some (f x) := by
  subst e
  exact atI_nat (by rw [List.getElem?_map, h]; rfl)
theorem gd_at {l : List (Rat × Rat)} {k : Nat} {c : Rat × Rat} (h : l[k]? = some c) : l.getD k (0, 0) = c := by rw [List.getD_eq_getElem?_getD, h]; rfl
theorem cns_map {l : List D} (h : l.all isCn = true) : l = (l.map toC).map cnD := by
  rw [List.map_map]
  conv => lhs; rw [← List.map_id l]
  exact List.map_congr_left fun d hd => (isCn_of (List.all_eq_true.mp h d hd)).1
theorem vc_is_shape (ds : List D) (M : Me) (QD : D → Me → Prop) (ED : EX → Me → Prop) (hl : ds.length = 1) (h : s_is_shape ds M QD ED) : w_is_shape (env0 3 ds) M (retE M QD ED) := by
  match ds, h with
  | [_], .inl ⟨l, m, rfl, ok, hm, h⟩ =>
    have two := ok.two
    have few := ok.few
    have bigR : ∀ i : Nat, i < 300 → (List.replicate i (D.bl true)).length < sizeLine := fun i hi => by rw [List.length_replicate]; exact Nat.lt_trans hi (by decide)
    refine ⟨rfl, _, rfl, trivial, chainQ (fun e1 => ?_) (fun e1 => ?_)⟩
    · refine ⟨trivial, ?_⟩
      refine itf (by rw [List.length_map, decide_eq_true (show (l.length : Int) ≤ 12 by omega)]; rfl) ?_
      refine ⟨_, _, rfl, ?_⟩
      refine lcGo_ix (fun i acc M1 => M1 = M ∧ acc = List.replicate i (.bl true)) ?_ ?_ ⟨rfl, rfl⟩
      · rintro i d acc M1 K hd ⟨rfl, rfl⟩ hK
        have hi := (List.getElem?_eq_some_iff.mp hd).1
        rw [List.length_map] at hi
        rw [List.getElem?_map] at hd
        obtain ⟨c, hc, rfl⟩ := Option.map_eq_some_iff.mp hd
        have hc2 := ok.cn c (List.mem_of_getElem? hc)
        exact ⟨trivial, rfl, .inl ⟨c, rfl, hc2.x0, hc2.y0, bigR i (by omega), hK _ _ ⟨rfl, by rw [List.replicate_succ']⟩⟩⟩
      rintro acc M1 ⟨rfl, rfl⟩
      refine ⟨trivial, _, _, rfl, bls_rp _ _, itf (by rw [all_rp]; rfl) ?_⟩
      refine ⟨_, rfl, ⟨by decide, by decide⟩, ⟨by rw [List.length_map]; omega, by rw [List.length_map]; omega⟩, ?_⟩
      refine lcGo_ix (fun i acc M2 => M2 = M1 ∧ acc = List.replicate i (.bl true)) ?_ ?_ ⟨rfl, rfl⟩
      · rintro i d acc M2 K hd ⟨rfl, rfl⟩ hK
        obtain ⟨hi, rfl⟩ := rgD_at hd
        rw [List.length_map] at hi
        have hi2 : i + 1 < l.length := by omega
        have g0 : l[i]? = some l[i] := List.getElem?_eq_getElem (by omega)
        have g1 : l[i + 1]? = some l[i + 1] := List.getElem?_eq_getElem hi2
        have c0 := ok.cn _ (List.getElem_mem (show i < l.length by omega))
        have c1 := ok.cn _ (List.getElem_mem hi2)
        refine ⟨trivial, trivial, _, _, rfl, at_map g0 (by omega), _, _, rfl, rfl, _, _, rfl, at_map g1 (by omega), _, _, rfl, rfl, rfl, less_at c0.fx c1.fx (by omega) ⟨bigR i (by omega), hK _ _ ⟨rfl, ?_⟩⟩⟩
        rw [decide_eq_true (ok.inc i _ _ g0 g1), List.replicate_succ']
      rintro acc M2 ⟨rfl, rfl⟩
      refine ⟨trivial, _, _, rfl, bls_rp _ _, itf (by rw [all_rp]; rfl) ?_⟩
      refine ⟨_, rfl, trivial, ⟨by decide, by decide⟩, ⟨by rw [List.length_map]; omega, by rw [List.length_map]; omega⟩, ?_⟩
      refine lcGo_ix (fun i acc M3 => M3 = M2 ∧ acc = List.replicate i (.bl false)) ?_ ?_ ⟨rfl, rfl⟩
      · rintro i d acc M3 K hd ⟨rfl, rfl⟩ hK
        obtain ⟨hi, rfl⟩ := rgD_at hd
        rw [List.length_map] at hi
        have hi2 : i + 2 < l.length := by omega
        have g0 : l[i]? = some l[i] := List.getElem?_eq_getElem (by omega)
        have g1 : l[i + 1]? = some l[i + 1] := List.getElem?_eq_getElem (by omega)
        have g2 : l[i + 2]? = some l[i + 2] := List.getElem?_eq_getElem hi2
        have c0 := ok.cn _ (List.getElem_mem (show i < l.length by omega))
        have c1 := ok.cn _ (List.getElem_mem (show i + 1 < l.length by omega))
        have c2 := ok.cn _ (List.getElem_mem hi2)
        refine ⟨trivial, trivial, _, _, rfl, at_map g0 (by omega), _, _, rfl, at_map g1 (by omega), _, _, rfl, at_map g2 (by omega), rfl, _, _, _, m, rfl, rfl, rfl, c0.fx, c0.fy, c1.fx, c1.fy, c2.fx, c2.fy, hm, ?_, hK _ _ ⟨rfl, ?_⟩⟩
        · rw [List.length_replicate]
          exact Nat.lt_trans (show i < 300 by omega) (by decide)
        · rw [ok.bent i _ _ _ g0 g1 g2, List.replicate_succ']
      rintro acc M3 ⟨rfl, rfl⟩
      refine ⟨trivial, _, _, rfl, bls_rp _ _, retQ_pure rfl ?_⟩
      rw [any_rep]
      exact h
    · have e1 := of_decide_eq_false e1
      rw [List.length_map] at e1
      omega
  | [d], .inr ⟨hd, h⟩ =>
    refine ⟨hd.ht, ?_⟩
    cases d with
    | tup l =>
      have few60 := hd.len
      have h : QD (.bl (decide (2 ≤ l.length) && (decide (l.length ≤ 12) && (l.all isCn && (incB (l.map toC) && !strA (l.map toC)))))) M := h
      refine ⟨_, rfl, trivial, chainQ (fun e1 => ?_) (fun e1 => ?_)⟩
      · have e1 := of_decide_eq_true e1
        rw [decide_eq_true (show 2 ≤ l.length by omega), Bool.true_and] at h
        refine ⟨trivial, ?_⟩
        by_cases e2 : l.length ≤ 12
        · rw [decide_eq_true e2, Bool.true_and] at h
          refine itf (by rw [decide_eq_true (show (l.length : Int) ≤ 12 by omega)]; rfl) ?_
          refine ⟨_, _, rfl, ?_⟩
          refine lcGo_ix (fun i acc M1 => M1 = M ∧ acc = (l.take i).map fun d => .bl (isCn d)) ?_ ?_ ⟨rfl, rfl⟩
          · rintro i d acc M1 K hdd ⟨rfl, rfl⟩ hK
            refine ⟨trivial, rfl, .inr ⟨hd.all d (List.mem_of_getElem? hdd), ?_, hK _ _ ⟨rfl, ?_⟩⟩⟩
            · rw [List.length_map, List.length_take]
              exact Nat.lt_of_le_of_lt (show min i l.length ≤ 12 by omega) (by decide)
            · rw [List.take_succ, hdd, List.map_append]; rfl
          rintro acc M1 ⟨rfl, rfl⟩
          rw [List.take_length]
          refine ⟨trivial, _, _, rfl, bls_map isCn l, ?_⟩
          rw [List.all_map]
          show if (!l.all isCn) = true then _ else _
          cases ec : l.all isCn with
          | false => rw [ec, Bool.false_and] at h; exact itt rfl (retQ_pure rfl h)
          | true =>
            rw [ec, Bool.true_and] at h
            refine itf rfl ?_
            have el := cns_map ec
            obtain ⟨C, hC⟩ : ∃ C, C = l.map toC := ⟨_, rfl⟩
            rw [← hC] at el h
            have lC : C.length = l.length := by rw [hC, List.length_map]
            have cn : ∀ c ∈ C, Fs 110 c.1 ∧ Fs 110 c.2 := fun c hc => by
              have hm : cnD c ∈ l := by rw [el]; exact List.mem_map_of_mem hc
              have hp := hd.all _ hm
              exact ⟨(hp.all _ List.mem_cons_self).frq, (hp.all _ (List.mem_cons_of_mem _ List.mem_cons_self)).frq⟩
            have t3 : w_is_shape_t2 [some (.tup (C.map cnD)), none, none] M1 (retE M1 QD ED) := by
              have lD : (C.map cnD).length = C.length := List.length_map ..
              have two : 2 ≤ C.length := by omega
              have few : C.length ≤ 12 := by omega
              have gd : ∀ i : Nat, i < C.length → ∃ c, C[i]? = some c ∧ C.getD i (0, 0) = c ∧ Fs 110 c.1 ∧ Fs 110 c.2 := fun i hi =>
                ⟨C[i], List.getElem?_eq_getElem hi, gd_at (List.getElem?_eq_getElem hi), cn _ (List.getElem_mem hi)⟩
              have bigM : ∀ (i : Nat) (f : Nat → Bool), i < 300 → ((List.range i).map fun k => D.bl (f k)).length < sizeLine := fun i f hi => by rw [List.length_map, List.length_range]; exact Nat.lt_trans hi (by decide)
              refine ⟨_, rfl, ⟨by decide, by decide⟩, ⟨by rw [lD]; omega, by rw [lD]; omega⟩, ?_⟩
              refine lcGo_ix (fun i acc M2 => M2 = M1 ∧ acc = (List.range i).map fun k => .bl (decide ((C.getD k (0, 0)).1 < (C.getD (k + 1) (0, 0)).1))) ?_ ?_ ⟨rfl, rfl⟩
              · rintro i d acc M2 K hdd ⟨rfl, rfl⟩ hK
                obtain ⟨hi, rfl⟩ := rgD_at hdd
                rw [lD] at hi
                obtain ⟨a, g0, e0, fa, _⟩ := gd i (by omega)
                obtain ⟨b, g1, e1, fb, _⟩ := gd (i + 1) (by omega)
                refine ⟨trivial, trivial, _, _, rfl, at_map g0 (by omega), _, _, rfl, rfl, _, _, rfl, at_map g1 (by omega), _, _, rfl, rfl, rfl, less_at fa fb (by omega) ⟨bigM i _ (by omega), hK _ _ ⟨rfl, ?_⟩⟩⟩
                rw [List.range_succ, List.map_append]
                show _ = _ ++ [D.bl (decide ((C.getD i (0, 0)).1 < (C.getD (i + 1) (0, 0)).1))]
                rw [e0, e1]
              rintro acc M2 ⟨rfl, rfl⟩
              rw [rgD_len, lD]
              have en : ((C.length : Int) - 1).toNat = C.length - 1 := by omega
              rw [en]
              refine ⟨trivial, _, _, rfl, bls_map (fun k : Nat => decide ((C.getD k (0, 0)).1 < (C.getD (k + 1) (0, 0)).1)) _, ?_⟩
              rw [List.all_map]
              show if (!incB C) = true then _ else _
              cases ei : incB C with
              | false => rw [ei, Bool.false_and] at h; exact itt rfl (retQ_pure rfl h)
              | true =>
                rw [ei, Bool.true_and] at h
                refine itf rfl ?_
                refine ⟨_, rfl, trivial, ⟨by decide, by decide⟩, ⟨by rw [lD]; omega, by rw [lD]; omega⟩, ?_⟩
                refine lcGo_ix (fun i acc M3 => M3 = M2 ∧ acc = (List.range i).map fun k => .bl (strB (C.getD k (0, 0)) (C.getD (k + 1) (0, 0)) (C.getD (k + 2) (0, 0)))) ?_ ?_ ⟨rfl, rfl⟩
                · rintro i d acc M3 K hdd ⟨rfl, rfl⟩ hK
                  obtain ⟨hi, rfl⟩ := rgD_at hdd
                  rw [lD] at hi
                  obtain ⟨a, g0, e0, fa, fa2⟩ := gd i (by omega)
                  obtain ⟨b, g1, e1, fb, fb2⟩ := gd (i + 1) (by omega)
                  obtain ⟨c, g2, e2, fc, fc2⟩ := gd (i + 2) (by omega)
                  refine ⟨trivial, trivial, _, _, rfl, at_map g0 (by omega), _, _, rfl, at_map g1 (by omega), _, _, rfl, at_map g2 (by omega), rfl, _, _, _, 110, rfl, rfl, rfl, fa, fa2, fb, fb2, fc, fc2, by decide, bigM i _ (by omega), hK _ _ ⟨rfl, ?_⟩⟩
                  rw [List.range_succ, List.map_append]
                  show _ = _ ++ [D.bl (strB (C.getD i (0, 0)) (C.getD (i + 1) (0, 0)) (C.getD (i + 2) (0, 0)))]
                  rw [e0, e1, e2]
                rintro acc M3 ⟨rfl, rfl⟩
                rw [rgD_len, lD]
                have en2 : ((C.length : Int) - 1 - 1).toNat = C.length - 2 := by omega
                rw [en2]
                refine ⟨trivial, _, _, rfl, bls_map (fun k : Nat => strB (C.getD k (0, 0)) (C.getD (k + 1) (0, 0)) (C.getD (k + 2) (0, 0))) _, retQ_pure rfl ?_⟩
                rw [List.any_map]
                exact h
            rw [← el] at t3
            exact t3
        · rw [decide_eq_false e2, Bool.false_and] at h
          refine itt (by rw [decide_eq_false (show ¬ (l.length : Int) ≤ 12 by omega)]; rfl) ?_
          exact retQ_pure rfl h
      · have e1 := of_decide_eq_false e1
        rw [decide_eq_false (show ¬ 2 ≤ l.length by omega), Bool.false_and] at h
        exact retQ_pure rfl h
    | _ => exact retQ_pure rfl h
/-! ### is_laid -/
theorem from_at {i a b : Int} {M : Me} {Q : D → Me → Prop} {E : EX → Me → Prop} (h1 : a ≤ i) (h2 : i ≤ b) (q : Q (.bl true) M) : s_is_from [.int i, .int a, .int b] M Q E := ⟨rfl, by rw [isFrm_at h1 h2]; exact q⟩
def valI : D → Int
  | .int i => i
  | _ => 0
/-- whether steps may be covered -/
def isLd (a m : D) : Bool := isFrm a 0 100000 && (isFrm m 1 100000 && decide (valI a + valI m ≤ 100000))
theorem frm_i {r : D} {a b : Int} (h : isFrm r a b = true) : ∃ i, r = .int i ∧ a ≤ i ∧ i ≤ b := by
  cases r with
  | int i =>
    have h : (decide (a ≤ i) && decide (i ≤ b)) = true := h
    rw [Bool.and_eq_true, decide_eq_true_eq, decide_eq_true_eq] at h
    exact ⟨i, rfl, h.1, h.2⟩
  | _ => cases h
def s_is_laid : WF
  | [d, e], M, Q, _ => (∃ a k : Int, d = .int a ∧ e = .int k ∧ 0 ≤ a ∧ 1 ≤ k ∧ a + k ≤ 100000 ∧ Q (.bl true) M) ∨ (Ps d ∧ Ps e ∧ Q (.bl (isLd d e)) M)
  | _, _, _, _ => False
def w_is_laid : WS := (wRet (wAndV (wCall 3 s_is_from (wCons (wVar 0) (wCons (wC (.int 0)) (wCons k_LAST_STEP wNil)))) (wAndV (wCall 3 s_is_from (wCons (wVar 1) (wCons (wC (.int 1)) (wCons k_LAST_STEP wNil)))) (wBin fLe (wBin fAdd (wVar 0) (wVar 1)) k_LAST_STEP))))
theorem vc_is_laid (ds : List D) (M : Me) (QD : D → Me → Prop) (ED : EX → Me → Prop) (hl : ds.length = 2) (h : s_is_laid ds M QD ED) : w_is_laid (env0 2 ds) M (retE M QD ED) := by
  match ds, h with
  | [_, _], .inl ⟨a, k, rfl, rfl, h1, h2, h3, h⟩ =>
    refine ⟨rfl, from_at h1 (by omega) ⟨rfl, from_at h2 (by omega) ⟨trivial, retQ_pure rfl ?_⟩⟩⟩
    show QD (.bl (decide (a + k ≤ 100000))) M
    rw [decide_eq_true h3]
    exact h
  | [d, e], .inr ⟨hd, he, h⟩ =>
    refine ⟨rfl, hd.ht, ?_⟩
    unfold isLd at h
    cases e1 : isFrm d 0 100000 with
    | false => rw [e1, Bool.false_and] at h; exact retQ_pure rfl h
    | true =>
      rw [e1, Bool.true_and] at h
      refine ⟨rfl, he.ht, ?_⟩
      cases e2 : isFrm e 1 100000 with
      | false => rw [e2, Bool.false_and] at h; exact retQ_pure rfl h
      | true =>
        rw [e2, Bool.true_and] at h
        obtain ⟨i, rfl, _, _⟩ := frm_i e1
        obtain ⟨j, rfl, _, _⟩ := frm_i e2
        exact ⟨trivial, retQ_pure rfl h⟩
/-! ### is_piece -/
def isWy : D → Bool
  | .str x => inD (.str x) [.str "free", .str "bound"]
  | _ => false
def endB (sh m : D) : Bool := match sh with
  | .tup l => decide (((l.map toC).getD 0 (0, 0)).1 = 0) && decide (((l.map toC).getD (l.length - 1) (0, 0)).1 = (valI m : Rat))
  | _ => false
/-- whether a thing is a piece -/
def isPcD : D → Bool
  | .tup [n, t, a, m, w, s, v, sh] => isFrm n 1 99999 && (isNm t && (isLd a m && (isWy w && (isNb s && (isAb v && (isSh sh && endB sh m))))))
  | _ => false
def s_is_piece : WF
  | [d], M, Q, _ => (∃ (p : Pc) (m : Nat), d = pcD p ∧ PcOk m p ∧ m ≤ 10000 ∧ Q (.bl true) M) ∨ (Ps d ∧ Q (.bl (isPcD d)) M)
  | _, _, _, _ => False
def w_is_piece_t4 : WS := (wRet (wAndV (wCall 1 s_is_shape (wCons (wVar 8) wNil)) (wAndV (wBin fEq (wBin fIx (wBin fIx (wVar 8) (wC (.int 0))) (wC (.int 0))) k_NOUGHT) (wBin fEq (wBin fIx (wBin fIx (wVar 8) (wNeg (wC (.int 1)))) (wC (.int 0))) (wCall 1 s_as_fraction (wCons (wVar 4) wNil))))))
def w_is_piece_t3 : WS := (wSeq (wIf (wOrT (wNotT (wTr (wIsi .str (wVar 5)))) (wOrT (wB (wBin (fIn true) (wVar 5) k_WAYS)) (wOrT (wNotT (wTr (wCall 1 s_is_not_below (wCons (wVar 6) wNil)))) (wNotT (wTr (wCall 1 s_is_above (wCons (wVar 7) wNil)))))))
  (wRet (wC (.bl false)))
  wNext)
  (w_is_piece_t4))
def w_is_piece_t2 : WS := (wSeq (wIf (wOrT (wNotT (wTr (wCall 3 s_is_from (wCons (wVar 1) (wCons (wC (.int 1)) (wCons k_MOST_NUMBER wNil)))))) (wOrT (wNotT (wTr (wCall 1 s_is_name (wCons (wVar 2) wNil)))) (wNotT (wTr (wCall 2 s_is_laid (wCons (wVar 3) (wCons (wVar 4) wNil)))))))
  (wRet (wC (.bl false)))
  wNext)
  (w_is_piece_t3))
def w_is_piece_t1 : WS := (wSeq (wAsg (wVar 0) (gTupD 8 (gC (gSet 1) (gC (gSet 2) (gC (gSet 3) (gC (gSet 4) (gC (gSet 5) (gC (gSet 6) (gC (gSet 7) (gC (gSet 8) gN))))))))))
  (w_is_piece_t2))
def w_is_piece : WS := (wSeq (wIf (wOrT (wNotT (wTr (wIsi .tuple (wVar 0)))) (wB (wBin fNe (wCB fLen (wCons (wVar 0) wNil)) k_PIECE_PARTS)))
  (wRet (wC (.bl false)))
  wNext)
  (w_is_piece_t1))
theorem eq_fr_ {p q : Rat} {M : Me} {Q : D → Me → Prop} (h : p = q) (k : Q (.bl true) M) : fEq (fr p) (fr q) M Q := by
  subst h
  exact eq_same (n := 1) (noB_dep (noB_fr 0 p)) k
theorem at_last {α : Type} {f : α → D} {l : List α} {x : α} (h : l[l.length - 1]? = some x) : atI (l.map f) (-1) = some (f x) := by
  have hne : l ≠ [] := fun z => by subst z; simp at h
  have e := (List.dropLast_concat_getLast hne).symm
  have hx : l.getLast hne = x := by
    rw [List.getLast_eq_getElem]
    have := List.getElem?_eq_some_iff.mp h
    exact this.2
  conv => lhs; rw [e, List.map_append]
  rw [hx]
  exact atI_last _ _
theorem ways (b : Bool) : inD (.str (wayS b)) [.str "free", .str "bound"] = true := by cases b <;> decide +kernel
theorem fr_int (i : Int) : fr (i : Rat) = .tup [.int i, .int 1] := by
  show D.tup [.int ((i : Rat)).num, .int (((i : Rat)).den : Int)] = _
  rw [Rat.num_intCast, Rat.den_intCast]
  rfl
theorem fr0 : fr 0 = .tup [.int 0, .int 1] := fr_int 0
theorem pc_len {l : List D} (h : l.length ≠ 8) : isPcD (.tup l) = false := by
  unfold isPcD
  split
  · rename_i e
    cases e
    exact absurd rfl h
  · rfl
theorem fr_inj0 {p q : Rat} (h : fr p = fr q) : p = q := by rw [← toR_fr p, ← toR_fr q, h]
theorem isSh_of {l : List D} (h : isSh (.tup l) = true) : 2 ≤ l.length ∧ l.length ≤ 12 ∧ l = (l.map toC).map cnD ∧ incB (l.map toC) = true ∧ strA (l.map toC) = false := by
  have h : (decide (2 ≤ l.length) && (decide (l.length ≤ 12) && (l.all isCn && (incB (l.map toC) && !strA (l.map toC))))) = true := h
  rw [Bool.and_eq_true, Bool.and_eq_true, Bool.and_eq_true, Bool.and_eq_true, decide_eq_true_eq, decide_eq_true_eq, Bool.not_eq_true'] at h
  exact ⟨h.1, h.2.1, cns_map h.2.2.1, h.2.2.2.1, h.2.2.2.2⟩
theorem vc_is_piece (ds : List D) (M : Me) (QD : D → Me → Prop) (ED : EX → Me → Prop) (hl : ds.length = 1) (h : s_is_piece ds M QD ED) : w_is_piece (env0 9 ds) M (retE M QD ED) := by
  match ds, h with
  | [_], .inl ⟨p, m, rfl, ok, hm, h⟩ =>
    have two := ok.sh.two
    obtain ⟨c0, g0⟩ : ∃ c, p.shape[0]? = some c := ⟨_, List.getElem?_eq_getElem (by omega)⟩
    obtain ⟨c1, g1⟩ : ∃ c, p.shape[p.shape.length - 1]? = some c := ⟨_, List.getElem?_eq_getElem (by omega)⟩
    have x0 := ok.fst _ g0
    have x1 := ok.lst _ g1
    refine ⟨rfl, _, rfl, rfl, rfl, from_at ok.n1 ok.n2 ⟨rfl, nm_at ok.tk ⟨rfl, .inl ⟨_, _, rfl, rfl, ok.at0, ok.m1, ok.fin, rfl, _, rfl, rfl, rfl, ?_⟩⟩⟩⟩
    refine itf (by rw [ways]; rfl) ⟨rfl, nb_at ok.st0 ⟨rfl, ab_at ok.sp0 ⟨rfl, .inl ⟨p.shape, m, rfl, ok.sh, hm, ?_⟩⟩⟩⟩
    refine ⟨_, _, rfl, at_map g0 rfl, _, _, rfl, rfl, ?_⟩
    refine wC_at ?_
    rw [← fr0]
    refine eq_fr_ x0 ?_
    refine ⟨_, _, rfl, at_last g1, _, _, rfl, rfl, rfl, ?_⟩
    exact eq_fr_ x1 (retQ_pure rfl h)
  | [d], .inr ⟨hd, h⟩ =>
    refine ⟨hd.ht, ?_⟩
    cases d with
    | tup l =>
      by_cases l8 : l.length = 8
      · match l, l8, hd, h with
        | [n, t, a, m, w, s, v, sh], _, hd, h =>
          have hn := hd.all n (by simp)
          have ht := hd.all t (by simp)
          have ha := hd.all a (by simp)
          have hm := hd.all m (by simp)
          have hw := hd.all w (by simp)
          have hs := hd.all s (by simp)
          have hv := hd.all v (by simp)
          have hsh := hd.all sh (by simp)
          have h : QD (.bl (isFrm n 1 99999 && (isNm t && (isLd a m && (isWy w && (isNb s && (isAb v && (isSh sh && endB sh m)))))))) M := h
          refine ⟨_, rfl, rfl, rfl, hn.ht, ?_⟩
          cases e1 : isFrm n 1 99999 with
          | false => rw [e1, Bool.false_and] at h; exact retQ_pure rfl h
          | true =>
            rw [e1, Bool.true_and] at h
            refine ⟨rfl, ht.ht, ht.line, ?_⟩
            cases e2 : isNm t with
            | false => rw [e2, Bool.false_and] at h; exact retQ_pure rfl h
            | true =>
              rw [e2, Bool.true_and] at h
              refine ⟨rfl, .inr ⟨ha, hm, ?_⟩⟩
              cases e3 : isLd a m with
              | false => rw [e3, Bool.false_and] at h; exact retQ_pure rfl h
              | true =>
                rw [e3, Bool.true_and] at h
                refine ⟨hw.ht, ?_⟩
                cases w with
                | str x =>
                  have h : QD (.bl (inD (.str x) [.str "free", .str "bound"] && (isNb s && (isAb v && (isSh sh && endB sh m))))) M := h
                  refine ⟨_, rfl, rfl, rfl, ?_⟩
                  show if (!inD (.str x) [.str "free", .str "bound"]) = true then _ else _
                  cases e4 : inD (.str x) [.str "free", .str "bound"] with
                  | false => rw [e4, Bool.false_and] at h; exact itt rfl (retQ_pure rfl h)
                  | true =>
                    rw [e4, Bool.true_and] at h
                    refine itf rfl ⟨rfl, hs.pl.okT, ?_⟩
                    cases e5 : isNb s with
                    | false => rw [e5, Bool.false_and] at h; exact retQ_pure rfl h
                    | true =>
                      rw [e5, Bool.true_and] at h
                      refine ⟨rfl, hv.pl.okT, ?_⟩
                      cases e6 : isAb v with
                      | false => rw [e6, Bool.false_and] at h; exact retQ_pure rfl h
                      | true =>
                        rw [e6, Bool.true_and] at h
                        refine ⟨rfl, .inr ⟨hsh, ?_⟩⟩
                        cases e7 : isSh sh with
                        | false => rw [e7, Bool.false_and] at h; exact retQ_pure rfl h
                        | true =>
                          rw [e7, Bool.true_and] at h
                          cases sh with
                          | tup l =>
                            obtain ⟨s1, s2, s3, s4, s5⟩ := isSh_of e7
                            obtain ⟨C, hC⟩ : ∃ C, C = l.map toC := ⟨_, rfl⟩
                            rw [← hC] at s3
                            have lC : C.length = l.length := by rw [hC, List.length_map]
                            obtain ⟨c0, g0⟩ : ∃ c, C[0]? = some c := ⟨_, List.getElem?_eq_getElem (by omega)⟩
                            obtain ⟨c1, g1⟩ : ∃ c, C[C.length - 1]? = some c := ⟨_, List.getElem?_eq_getElem (by omega)⟩
                            have hE : endB (.tup l) m = (decide (c0.1 = 0) && decide (c1.1 = (valI m : Rat))) := by
                              show (decide (((l.map toC).getD 0 (0, 0)).1 = 0) && decide (((l.map toC).getD (l.length - 1) (0, 0)).1 = (valI m : Rat))) = _
                              rw [← hC, ← lC, gd_at g0, gd_at g1]
                            rw [hE] at h
                            have em : ∃ k, m = .int k := by
                              unfold isLd at e3
                              rw [Bool.and_eq_true, Bool.and_eq_true] at e3
                              obtain ⟨k, rfl, _⟩ := frm_i e3.2.1
                              exact ⟨k, rfl⟩
                            obtain ⟨k, rfl⟩ := em
                            have a0 : atI l 0 = some (cnD c0) := by rw [s3]; exact at_map g0 rfl
                            have a1 : atI l (-1) = some (cnD c1) := by rw [s3]; exact at_last g1
                            refine ⟨_, _, rfl, a0, _, _, rfl, rfl, ?_⟩
                            refine wC_at ?_
                            rw [← fr0]
                            refine eq_noB (n := 1) (m := 1) (noB_fr 0 _) (noB_fr 0 _) fun b hb => ?_
                            have eb : b = decide (c0.1 = 0) := by
                              rw [Bool.eq_iff_iff, hb, decide_eq_true_eq]
                              exact ⟨fr_inj0, fun z => by rw [z]⟩
                            subst eb
                            cases e8 : decide (c0.1 = 0) with
                            | false => rw [e8, Bool.false_and] at h; exact retQ_pure rfl h
                            | true =>
                              rw [e8, Bool.true_and] at h
                              refine ⟨_, _, rfl, a1, _, _, rfl, rfl, rfl, ?_⟩
                              refine eq_noB (n := 1) (m := 1) (noB_fr 0 _) (noB_fr 0 _) fun b hb => ?_
                              have eb : b = decide (c1.1 = (k : Rat)) := by
                                rw [Bool.eq_iff_iff, hb, decide_eq_true_eq]
                                exact ⟨fr_inj0, fun z => by rw [z]⟩
                              subst eb
                              exact retQ_pure rfl h
                          | _ => cases e7
                | _ => exact retQ_pure rfl h
      · rw [pc_len l8] at h
        refine ⟨_, rfl, ?_⟩
        exact itt (by rw [decide_eq_false (show ¬ (l.length : Int) = 8 by omega)]; rfl) (retQ_pure rfl h)
    | _ => exact retQ_pure rfl h
/-! ### _law_feed -/
/-- a pen -/
def pn (cs : List Int) (a r : Int) : List D := [.lst (cs.map .int), .int a, .int r]
theorem olds_int (n : Nat) (cs : List Int) : olds n (cs.map .int) = true := by
  induction cs with
  | nil => rfl
  | cons c cs ih => exact ih
theorem olds_pn (n : Nat) (cs : List Int) (a r : Int) : olds n (pn cs a r) = true := by
  show (olds n (cs.map .int) && true) = true
  rw [olds_int]; rfl
def s_law_feed : WF
  | [.fls l], M, Q, _ => ∃ cs : List Int, l = cs.map .int ∧ cs.length ≤ 63 ∧ Q (.han M.length) (M ++ [pn cs 0 0])
  | _, _, _, _ => False
def w_law_feed : WS := (wRet (wMu (wLst (wCons (wFz (wCBF fList (wCons (wFz (wSlL (wVar 0) wNo (wPart (wC (.int 63))))) wNil))) (wCons (wC (.int 0)) (wCons (wC (.int 0)) wNil))))))
theorem vc_law_feed (ds : List D) (M : Me) (QD : D → Me → Prop) (ED : EX → Me → Prop) (hl : ds.length = 1) (h : s_law_feed ds M QD ED) : w_law_feed (env0 1 ds) M (retE M QD ED) := by
  match ds, h with
  | [.fls l], ⟨cs, e, hc, hQ⟩ =>
    subst e
    refine ⟨_, rfl, by show 3 ≤ sizeLine; decide, ?_⟩
    have e : DL.cutD (cs.map D.int) none (some 63) = cs.map D.int := by
      unfold DL.cutD
      show ((cs.map D.int).drop 0).take (min 63 (cs.map D.int).length - 0) = _
      rw [List.drop_zero, List.take_of_length_le (by rw [List.length_map]; omega)]
    refine ⟨fun j l hj e1 => ?_, .inr (.inl ⟨M.length, pn cs 0 0, rfl, Nat.le_refl _, ?_, olds_pn _ _ _ _, .inr ?_⟩)⟩
    · rw [List.getElem?_append_left hj] at e1
      exact .inl e1
    · rw [List.getElem?_append_right (Nat.le_refl _), Nat.sub_self]
      show some [D.lst (DL.cutD (cs.map D.int) none (some 63)), _, _] = _
      rw [e]; rfl
    · rw [List.take_left]
      exact hQ
/-! ### _law_draw -/
def s_law_draw : WF
  | [.han h, .int n], M, Q, _ => ∃ (cs : List Int) (a r : Int), M[h]? = some (pn cs a r) ∧ 0 ≤ a ∧ Sm 60 a ∧ cs.length ≤ 63 ∧ 0 ≤ r ∧ 0 < n ∧ Sm 60 n ∧
      ∀ v a' r' : Int, 0 ≤ v → v < n → a ≤ a' → a' ≤ a + 1 → 0 ≤ r' → Q (.int v) (M.set h (pn cs a' r'))
  | _, _, _, _ => False
theorem get_set {M : Me} {h : Nat} {l l' : List D} (e : M[h]? = some l) : (M.set h l')[h]? = some l' := by
  have := (List.getElem?_eq_some_iff.mp e).1
  simp [this]
theorem ix_mod {cs : List Int} {a : Int} (ha : 0 ≤ a) (hc : 0 < cs.length) : ∃ c, atI (cs.map D.int) (a.fmod (cs.length : Int)) = some (.int c) := by
  have h1 := Int.fmod_nonneg_of_pos a (show (0 : Int) < cs.length by omega)
  have h2 := Int.fmod_lt_of_pos a (show (0 : Int) < cs.length by omega)
  obtain ⟨j, hj⟩ : ∃ j : Nat, a.fmod (cs.length : Int) = (j : Int) := ⟨_, (Int.toNat_of_nonneg h1).symm⟩
  have hj' : j < cs.length := by omega
  refine ⟨cs[j], ?_⟩
  rw [hj]
  refine atI_nat ?_
  rw [List.getElem?_map, List.getElem?_eq_getElem hj']
  rfl
def w_law_draw : WS := (wSeq (wIf (wB (wBin fGt (wBin fIx (wVar 0) (wC (.int 2))) (wC (.int 0))))
  (wSeq (wSet 2 (wBin fMod (wBin fIx (wVar 0) (wC (.int 2))) (wVar 1)))
  (wSeq (wSetI (wBin fDiv (wBin fIx (wVar 0) (wC (.int 2))) (wVar 1)) (wVar 0) (wC (.int 2)))
  (wRet (wVar 2))))
  wNext)
  (wSeq (wSet 3 (wBin fIx (wVar 0) (wC (.int 1))))
  (wSeq (wSetI (wBin fAdd (wVar 3) (wC (.int 1))) (wVar 0) (wC (.int 1)))
  (wSeq (wSet 4 (wVar 3))
  (wSeq (wIf (wB (wBin fGt (wCB fLen (wCons (wBin fIx (wVar 0) (wC (.int 0))) wNil)) (wC (.int 0))))
  (wSet 4 (wBin fIx (wBin fIx (wVar 0) (wC (.int 0))) (wBin fMod (wVar 3) (wCB fLen (wCons (wBin fIx (wVar 0) (wC (.int 0))) wNil)))))
  wNext)
  (wSeq (wIf (wAndT (wB (wBin fGe (wVar 4) (wBin fPow (wC (.int 10)) (wC (.int 18))))) (wB (wBin fLt (wVar 3) (wCB fLen (wCons (wBin fIx (wVar 0) (wC (.int 0))) wNil)))))
  (wSeq (wSetI (wBin fDiv (wVar 4) (wVar 1)) (wVar 0) (wC (.int 2)))
  (wRet (wBin fMod (wVar 4) (wVar 1))))
  wNext)
  (wSeq (wSet 5 (wBin fMod (wBin fMul (wBin fAdd (wBin fAdd (wBin fMod (wVar 4) (wC (.int 2147483647))) (wBin fMul (wBin fMul (wC (.int 7919)) (wVar 3)) (wVar 3))) (wC (.int 104729))) (wC (.int 48271))) (wC (.int 2147483647))))
  (wSeq (wSet 5 (wBin fMod (wBin fAdd (wBin fMul (wVar 5) (wVar 5)) (wBin fMul (wC (.int 69621)) (wVar 3))) (wC (.int 2147483629))))
  (wRet (wBin fMod (wBin fDiv (wBin fMod (wBin fMul (wVar 5) (wBin fAdd (wBin fMod (wVar 5) (wC (.int 65521))) (wC (.int 1)))) (wC (.int 2147483587))) (wC (.int 64))) (wVar 1)))))))))))
theorem vc_law_draw (ds : List D) (M : Me) (QD : D → Me → Prop) (ED : EX → Me → Prop) (hl : ds.length = 2) (h : s_law_draw ds M QD ED) : w_law_draw (env0 6 ds) M (retE M QD ED) := by
  match ds, h with
  | [.han h, .int n], ⟨cs, a, r, hM, ha0, ha1, hc, hr, hn, hn1, hQ⟩ =>
    have hn0 : n ≠ 0 := by omega
    have dk : ∀ i : Int, DivOk i n := fun i => DivOk.of2 (by omega) hn1 (by decide) (by decide)
    have fin : ∀ (v a' r' : Int), 0 ≤ v → v < n → a ≤ a' → a' ≤ a + 1 → 0 ≤ r' → retQ M QD (.int v) (M.set h (pn cs a' r')) := fun v a' r' q1 q2 q3 q4 q5 =>
      retQ_set rfl (olds_pn _ _ _ _) (hQ v a' r' q1 q2 q3 q4 q5)
    refine ⟨_, _, hM, rfl, trivial, ?_⟩
    by_cases h0 : 0 < r
    · refine itt (decide_eq_true h0) ?_
      refine ⟨_, _, hM, rfl, hn0, ?_⟩
      refine ⟨_, _, hM, rfl, dk _, _, _, hM, rfl, ?_⟩
      exact fin _ a _ (Int.fmod_nonneg_of_pos _ hn) (Int.fmod_lt_of_pos _ hn) (Int.le_refl _) (by omega) (by
        rw [Int.fdiv_eq_ediv_of_nonneg _ (by omega)]
        exact Int.ediv_nonneg hr (by omega))
    · refine itf (decide_eq_false h0) ?_
      refine ⟨_, _, hM, rfl, ?_⟩
      refine ⟨_, _, hM, rfl, ?_⟩
      have hM1 : (M.set h (pn cs (a+1) r))[h]? = some (pn cs (a+1) r) := get_set hM
      have fin1 : ∀ (v a' r' : Int), 0 ≤ v → v < n → a ≤ a' → a' ≤ a + 1 → 0 ≤ r' → retQ M QD (.int v) ((M.set h (pn cs (a+1) r)).set h (pn cs a' r')) := by
        intro v a' r'; rw [List.set_set]; exact fin v a' r'
      have fin2 : ∀ v : Int, 0 ≤ v → v < n → retQ M QD (.int v) (M.set h (pn cs (a+1) r)) := fun v q1 q2 => fin v (a+1) r q1 q2 (by omega) (Int.le_refl _) hr
      refine ⟨_, _, hM1, rfl, _, rfl, trivial, ?_⟩
      apply byTail (α := Int)
      · intro key
        by_cases hcs : 0 < cs.length
        · refine itt (decide_eq_true (by rw [List.length_map]; omega)) ?_
          obtain ⟨c, hc1⟩ := ix_mod ha0 hcs
          refine ⟨_, _, hM1, rfl, _, _, hM1, rfl, _, rfl, ?_, _, .int c, rfl, ?_, ?_⟩
          · show ((cs.map D.int).length : Int) ≠ 0
            rw [List.length_map]; omega
          · rw [List.length_map]; exact hc1
          · exact key c
        · refine itf (decide_eq_false (by rw [List.length_map]; omega)) ?_
          exact key a
      · intro c
        refine ⟨by decide, trivial, ?_⟩
        apply byT
        · intro key
          by_cases h2 : ¬ (10 : Int) ^ (18 : Int).toNat ≤ c
          · refine itf (decide_eq_false h2) ?_
            exact key
          · refine itt (decide_eq_true (Decidable.not_not.mp h2)) ⟨_, _, hM1, rfl, _, rfl, trivial, ?_⟩
            by_cases h1 : ¬ a < ((cs.map D.int).length : Int)
            · refine itf (decide_eq_false h1) ?_
              exact key
            · refine itt (decide_eq_true (Decidable.not_not.mp h1)) ⟨dk _, _, _, hM1, rfl, hn0, ?_⟩
              refine fin1 _ (a+1) _ (Int.fmod_nonneg_of_pos _ hn) (Int.fmod_lt_of_pos _ hn) (by omega) (Int.le_refl _) ?_
              rw [Int.fdiv_eq_ediv_of_nonneg _ (by omega)]
              exact Int.ediv_nonneg (Int.le_trans (by decide) (Decidable.not_not.mp h2)) (by omega)
        · have m1 : Sm 32 (c.fmod 2147483647) := Sm.fmod (by unfold Sm; decide) (by decide)
          have m2 : Sm 73 (7919 * a) := Sm.mul (m := 13) (by unfold Sm; decide) ha1
          have m3 : Sm 133 (7919 * a * a) := m2.mul ha1
          have m4 : Sm 135 (c.fmod 2147483647 + 7919 * a * a + 104729) := ((m1.mono (by decide)).add m3).add (by unfold Sm; decide)
          refine ⟨nz rfl, Sm.mok (m := 13) (by unfold Sm; decide) ha1 (by decide), m2.mok ha1 (by decide), Sm.mok (n := 16) m4 (by unfold Sm; decide) (by decide), nz rfl, ?_⟩
          have f1 : ∀ z : Int, Sm 32 (z.fmod 2147483647) := fun z => Sm.fmod (by unfold Sm; decide) (by decide)
          have f2 : ∀ z : Int, Sm 32 (z.fmod 2147483629) := fun z => Sm.fmod (by unfold Sm; decide) (by decide)
          have f3 : ∀ z : Int, Sm 20 (z.fmod 65521 + 1) := fun z => by
            have h1 := Int.fmod_nonneg_of_pos z (show (0 : Int) < 65521 by decide)
            have h2 := Int.fmod_lt_of_pos z (show (0 : Int) < 65521 by decide)
            unfold Sm; omega
          refine ⟨(f1 _).mok (f1 _) (by decide), Sm.mok (m := 17) (by unfold Sm; decide) ha1 (by decide), nz rfl, ?_⟩
          exact ⟨nz rfl, (f2 _).mok (f3 _) (by decide), nz rfl, ⟨nz rfl, .inl (by decide)⟩, hn0, fin2 _ (Int.fmod_nonneg_of_pos _ hn) (Int.fmod_lt_of_pos _ hn)⟩
/-! ### _law_low -/
theorem retP {cs : List Int} {a r a' r' : Int} {T X : Me} {QD : D → Me → Prop} {d : D} (ho : old (T.length + 1) d = true) (h : QD d (pn cs a' r' :: T)) : retQ (pn cs a r :: T) QD d (pn cs a' r' :: (T ++ X)) := by
  refine ⟨fun j ds hj e => ?_, .inl ⟨ho, ?_⟩⟩
  · cases j with
    | zero => cases e; exact .inr (olds_pn _ _ _ _)
    | succ j =>
      have hj : j < T.length := by simpa using hj
      have e : (T ++ X)[j]? = some ds := e
      rw [List.getElem?_append_left hj] at e
      exact .inl e
  · show QD d (pn cs a' r' :: (T ++ X).take T.length)
    rw [List.take_left]
    exact h
theorem retP0 {cs : List Int} {a r a' r' : Int} {T : Me} {QD : D → Me → Prop} {d : D} (ho : old (T.length + 1) d = true) (h : QD d (pn cs a' r' :: T)) : retQ (pn cs a r :: T) QD d (pn cs a' r' :: T) := by
  have e := retP (cs := cs) (a := a) (r := r) (a' := a') (r' := r') (T := T) (X := []) (QD := QD) ho h
  rw [List.append_nil] at e
  exact e
theorem retPL {cs : List Int} {a r a' r' : Int} {T X : Me} {QD : D → Me → Prop} {l : List D} {h : Nat} (hh : h = (pn cs a' r' :: (T ++ X)).length) (ho : olds (T.length + 1) l = true) (q : QD (.lst l) (pn cs a' r' :: T)) :
    retQ (pn cs a r :: T) QD (.han h) (pn cs a' r' :: (T ++ (X ++ [l]))) := by
  subst hh
  refine ⟨fun j ds hj e => ?_, .inr (.inl ⟨_, l, rfl, ?_, ?_, ho, .inl ?_⟩)⟩
  · cases j with
    | zero => cases e; exact .inr (olds_pn _ _ _ _)
    | succ j =>
      have hj : j < T.length := by simpa using hj
      have e : (T ++ (X ++ [l]))[j]? = some ds := e
      rw [List.getElem?_append_left hj] at e
      exact .inl e
  · simp
  · rw [← List.append_assoc]
    exact last_get (M := pn cs a' r' :: (T ++ X))
  · show QD (.lst l) (pn cs a' r' :: (T ++ (X ++ [l])).take T.length)
    rw [List.take_left]
    exact q
/-- the pen at handle 0 -/
structure PenA (M : Me) (cs : List Int) (a r : Int) (T : Me) : Prop where
  e : M = pn cs a r :: T
  a0 : 0 ≤ a
  a1 : a ≤ 1000000000
  cl : cs.length ≤ 63
  r0 : 0 ≤ r
theorem drawP {cs : List Int} {a r n : Int} {T : Me} {Q : D → Me → Prop} {E : EX → Me → Prop} (a0 : 0 ≤ a) (a1 : a ≤ 2000000000) (hc : cs.length ≤ 63) (r0 : 0 ≤ r) (n0 : 0 < n) (n1 : n ≤ 1000000000000)
    (q : ∀ v a' r' : Int, 0 ≤ v → v < n → a ≤ a' → a' ≤ a + 1 → 0 ≤ r' → Q (.int v) (pn cs a' r' :: T)) : s_law_draw [.han 0, .int n] (pn cs a r :: T) Q E :=
  ⟨cs, a, r, rfl, a0, by unfold Sm; omega, hc, r0, n0, by unfold Sm; omega, q⟩
theorem mem_at {L : List D} {v : Int} (h0 : 0 ≤ v) (h1 : v < (L.length : Int)) : ∃ x, atI L v = some x ∧ x ∈ L := by
  obtain ⟨j, rfl⟩ : ∃ j : Nat, v = (j : Int) := ⟨v.toNat, by omega⟩
  have hj : j < L.length := by omega
  exact ⟨L[j], atI_nat (List.getElem?_eq_getElem hj), List.getElem_mem hj⟩
theorem nodup_by {α : Type} {l : List α} (h : ∀ (i j : Nat) (x : α), i < j → l[i]? = some x → l[j]? = some x → False) : l.Nodup := by
  refine List.pairwise_iff_getElem.mpr fun i j hi hj hij e => ?_
  exact h i j _ hij (List.getElem?_eq_getElem hi) (by rw [List.getElem?_eq_getElem hj, e])
theorem penG {x l : List D} {T : Me} : (x :: (T ++ [l]))[T.length + 1]? = some l := by simp
theorem penS {x l l' : List D} {T : Me} : (x :: (T ++ [l])).set (T.length + 1) l' = x :: (T ++ [l']) := by simp
def s_law_low : WF
  | [.int a, .int b], M, Q, _ => 0 < b ∧ Sm 13400 a ∧ Sm 13400 b ∧ Q (fr (Rat.divInt a b)) M
  | _, _, _, _ => False
def w_law_low : WS := (wSeq (wPar 2 3 (wCons (wCB fAbs (wCons (wVar 0) wNil)) (wCons (wVar 1) wNil)))
  (wSeq (wWhile (wB (wBin fGt (wVar 3) (wC (.int 0))))
  (wPar 2 3 (wCons (wVar 3) (wCons (wBin fMod (wVar 2) (wVar 3)) wNil))))
  (wRet (wTup (wCons (wBin fDiv (wVar 0) (wVar 2)) (wCons (wBin fDiv (wVar 1) (wVar 2)) wNil))))))
theorem vc_law_low (ds : List D) (M : Me) (QD : D → Me → Prop) (ED : EX → Me → Prop) (hl : ds.length = 2) (h : s_law_low ds M QD ED) : w_law_low (env0 4 ds) M (retE M QD ED) := by
  match ds, h with
  | [.int a, .int b], ⟨hb, ha1, hb1, h⟩ =>
    have hg : (Int.gcd a b : Int) ≠ 0 := by
      have := Int.gcd_pos_of_ne_zero_right a (show b ≠ 0 by omega)
      omega
    refine ⟨fun n env M' => M' = M ∧ ∃ x y : Int, env = [some (.int a), some (.int b), some (.int x), some (.int y)] ∧ 0 ≤ x ∧ 0 ≤ y ∧ n = y.toNat ∧ Int.gcd x y = Int.gcd a b, ⟨_, rfl, _, _, rfl, ?_, ?_, rfl, ?_⟩, ?_⟩
    · split <;> omega
    · omega
    · have e1 : (if a < 0 then -a else a) = (a.natAbs : Int) := by omega
      rw [e1]
      simp [Int.gcd]
    · rintro n env M' ⟨rfl, x, y, rfl, hx, hy, rfl, hgc⟩
      refine ⟨trivial, ?_⟩
      by_cases h0 : 0 < y
      · refine itt (decide_eq_true h0) ?_
        refine ⟨nz (by simp; omega), (x.fmod y).toNat, ?_, rfl, y, x.fmod y, rfl, hy, ?_, rfl, ?_⟩
        · have := Int.fmod_lt_of_pos x h0
          have := Int.fmod_nonneg_of_pos x h0
          omega
        · exact Int.fmod_nonneg_of_pos x h0
        · rw [gcd_step x y hx h0, hgc]
      · refine itf (decide_eq_false h0) ?_
        have : y = 0 := by omega
        subst this
        have ex : x = (Int.gcd a b : Int) := by rw [← hgc, Int.gcd_zero, Int.natAbs_of_nonneg hx]
        subst ex
        refine ⟨DivOk.of1 hg ha1 (by decide) (by decide), DivOk.of1 hg hb1 (by decide) (by decide), by show 2 ≤ sizeLine; decide, retQ_pure rfl ?_⟩
        rw [fr_low (by omega)] at h
        show QD (.tup [.int (a.fdiv (Int.gcd a b : Int)), .int (b.fdiv (Int.gcd a b : Int))]) M'
        rw [Int.fdiv_eq_ediv_of_nonneg a (Int.natCast_nonneg _), Int.fdiv_eq_ediv_of_nonneg b (Int.natCast_nonneg _)]
        exact h
/-! ### _law_less_by -/
def s_law_less_by : WF
  | [x, y], M, Q, _ => ∃ p q : Rat, x = fr p ∧ y = fr q ∧ Fs 300 p ∧ Fs 300 q ∧ Q (fr (p - q)) M
  | _, _, _, _ => False
def w_law_less_by : WS := (wRet (wCall 2 s_law_low (wCons (wBin fSub (wBin fMul (wBin fIx (wVar 0) (wC (.int 0))) (wBin fIx (wVar 1) (wC (.int 1)))) (wBin fMul (wBin fIx (wVar 1) (wC (.int 0))) (wBin fIx (wVar 0) (wC (.int 1))))) (wCons (wBin fMul (wBin fIx (wVar 0) (wC (.int 1))) (wBin fIx (wVar 1) (wC (.int 1)))) wNil))))
theorem vc_law_less_by (ds : List D) (M : Me) (QD : D → Me → Prop) (ED : EX → Me → Prop) (hl : ds.length = 2) (h : s_law_less_by ds M QD ED) : w_law_less_by (env0 2 ds) M (retE M QD ED) := by
  match ds, h with
  | [_, _], ⟨p, q, rfl, rfl, hp, hq, h3⟩ =>
    refine ⟨_, _, rfl, rfl, _, _, rfl, rfl, hp.1.mok hq.2 (by omega), _, _, rfl, rfl, _, _, rfl, rfl, hq.1.mok hp.2 (by omega), trivial, _, _, rfl, rfl, _, _, rfl, rfl, hp.2.mok hq.2 (by omega), rfl, Int.mul_pos (Int.natCast_pos.mpr p.den_pos) (Int.natCast_pos.mpr q.den_pos),
      ((hp.1.mul hq.2).sub ((hq.1.mul hp.2).mono (by omega))).mono (by omega), (hp.2.mul hq.2).mono (by omega), retQ_pure rfl ?_⟩
    show QD (fr (Rat.divInt (p.num * q.den - q.num * p.den) (p.den * q.den))) M
    rw [sub_fr]; exact h3
/-! ### _law_fraction -/
/-- a fraction of the law's drawing -/
structure Fq (q : Rat) : Prop where
  n : 0 ≤ q
  f : Fs 42 q
def s_law_fraction : WF
  | [.han 0], M, Q, _ => ∃ (cs : List Int) (a r : Int) (T : Me), PenA M cs a r T ∧ ∀ (q : Rat) (a' r' : Int), Fq q → a ≤ a' → a' ≤ a + 12 → 0 ≤ r' → Q (fr q) (pn cs a' r' :: T)
  | _, _, _, _ => False
def w_law_fraction : WS := (wSeq (wSet 1 (wBin fAdd (wBin fMul (wCall 2 s_law_draw (wCons (wVar 0) (wCons (wC (.int 999983)) wNil))) (wBin fPow (wC (.int 10)) (wC (.int 6)))) (wCall 2 s_law_draw (wCons (wVar 0) (wCons (wBin fPow (wC (.int 10)) (wC (.int 6))) wNil)))))
  (wSeq (wSet 2 (wBin fIx (wFz (wLst (wCons (wCall 2 s_law_draw (wCons (wVar 0) (wCons (wC (.int 13)) wNil))) (wCons (wCall 2 s_law_draw (wCons (wVar 0) (wCons (wC (.int 13)) wNil))) (wCons (wCall 2 s_law_draw (wCons (wVar 0) (wCons (wBin fPow (wC (.int 10)) (wC (.int 6))) wNil))) (wCons (wVar 1) wNil)))))) (wCall 2 s_law_draw (wCons (wVar 0) (wCons (wC (.int 4)) wNil)))))
  (wSeq (wSet 3 (wFz (wLst (wCons (wC (.int 1)) (wCons (wBin fAdd (wC (.int 1)) (wCall 2 s_law_draw (wCons (wVar 0) (wCons (wC (.int 7)) wNil)))) (wCons (wBin fAdd (wC (.int 1)) (wCall 2 s_law_draw (wCons (wVar 0) (wCons (wBin fPow (wC (.int 10)) (wC (.int 6))) wNil)))) (wCons (wBin fSub (wBin fSub (wBin fPow (wC (.int 10)) (wC (.int 12))) (wC (.int 1))) (wCall 2 s_law_draw (wCons (wVar 0) (wCons (wC (.int 9)) wNil)))) wNil)))))))
  (wRet (wCall 2 s_law_low (wCons (wVar 2) (wCons (wBin fIx (wVar 3) (wCall 2 s_law_draw (wCons (wVar 0) (wCons (wC (.int 4)) wNil)))) wNil)))))))
theorem pow6 : (10 : Int) ^ (6 : Int).toNat = 1000000 := by decide
theorem pow12 : (10 : Int) ^ (12 : Int).toNat = 1000000000000 := by decide
theorem vc_law_fraction (ds : List D) (M : Me) (QD : D → Me → Prop) (ED : EX → Me → Prop) (hl : ds.length = 1) (h : s_law_fraction ds M QD ED) : w_law_fraction (env0 4 ds) M (retE M QD ED) := by
  match ds, h with
  | [.han 0], ⟨cs, a, r, T, ⟨e, a0, a1, hc, r0⟩, hQ⟩ =>
    subst e
    have s4 : 4 ≤ sizeLine := by decide
    refine ⟨rfl, drawP a0 (by omega) hc r0 (by decide) (by decide) fun v1 a1' r1 v10 v11 b0 b1 b2 => ?_⟩
    refine ⟨by decide, Sm.mok (n := 30) (m := 30) (by unfold Sm; omega) (by unfold Sm; decide) (by decide), by decide, rfl, drawP (by omega) (by omega) hc b2 (by decide) (by decide) fun v2 a2' r2 v20 v21 c0 c1 c2 => ?_⟩
    rw [pow6] at v21
    refine ⟨rfl, drawP (by omega) (by omega) hc c2 (by decide) (by decide) fun v3 a3' r3 v30 v31 d0 d1 d2 => ?_⟩
    refine ⟨rfl, drawP (by omega) (by omega) hc d2 (by decide) (by decide) fun v4 a4' r4 v40 v41 e0 e1 e2 => ?_⟩
    refine ⟨by decide, rfl, drawP (by omega) (by omega) hc e2 (by decide) (by decide) fun v5 a5' r5 v50 v51 f0 f1 f2 => ?_⟩
    rw [pow6] at v51
    refine ⟨s4, rfl, drawP (by omega) (by omega) hc f2 (by decide) (by decide) fun v6 a6' r6 v60 v61 g0 g1 g2 => ?_⟩
    obtain ⟨top, et, t0, t1⟩ : ∃ top : Int, atI [D.int v3, .int v4, .int v5, .int (v1 * 10 ^ (6 : Int).toNat + v2)] v6 = some (.int top) ∧ 0 ≤ top ∧ top < 1000000000000 := by
      rw [pow6]
      rcases (show v6 = 0 ∨ v6 = 1 ∨ v6 = 2 ∨ v6 = 3 by omega) with rfl | rfl | rfl | rfl
      · exact ⟨_, rfl, v30, by omega⟩
      · exact ⟨_, rfl, v40, by omega⟩
      · exact ⟨_, rfl, v50, by omega⟩
      · exact ⟨_, rfl, by omega, by omega⟩
    refine ⟨_, _, rfl, et, ?_⟩
    refine ⟨rfl, drawP (by omega) (by omega) hc g2 (by decide) (by decide) fun v7 a7' r7 v70 v71 h0 h1 h2 => ?_⟩
    refine ⟨by decide, rfl, drawP (by omega) (by omega) hc h2 (by decide) (by decide) fun v8 a8' r8 v80 v81 i0 i1 i2 => ?_⟩
    rw [pow6] at v81
    refine ⟨by decide, trivial, rfl, drawP (by omega) (by omega) hc i2 (by decide) (by decide) fun v9 a9' r9 v90 v91 j0 j1 j2 => ?_⟩
    refine ⟨trivial, s4, rfl, drawP (by omega) (by omega) hc j2 (by decide) (by decide) fun v10 a10' r10 w0 w1 k0 k1 k2 => ?_⟩
    obtain ⟨bot, eb, t2, t3⟩ : ∃ bot : Int, atI [D.int 1, .int (1 + v7), .int (1 + v8), .int (10 ^ (12 : Int).toNat - 1 - v9)] v10 = some (.int bot) ∧ 1 ≤ bot ∧ bot ≤ 1000000000000 := by
      rw [pow12]
      rcases (show v10 = 0 ∨ v10 = 1 ∨ v10 = 2 ∨ v10 = 3 by omega) with rfl | rfl | rfl | rfl
      · exact ⟨_, rfl, by omega, by omega⟩
      · exact ⟨_, rfl, by omega, by omega⟩
      · exact ⟨_, rfl, by omega, by omega⟩
      · exact ⟨_, rfl, by omega, by omega⟩
    have st : Sm 42 top := by unfold Sm; omega
    have sb : Sm 42 bot := by unfold Sm; omega
    refine ⟨_, _, rfl, eb, rfl, by omega, st.mono (by decide), sb.mono (by decide), ?_⟩
    exact retP0 rfl (hQ _ a10' r10 ⟨Rat.divInt_nonneg t0 (by omega), Fs.low (by omega) st sb⟩ (by omega) (by omega) k2)
/-! ### _law_name -/
def s_law_name : WF
  | [.han 0], M, Q, _ => ∃ (cs : List Int) (a r : Int) (T : Me), PenA M cs a r T ∧ ∀ (x : Str) (a' r' : Int), nmB x = true → a ≤ a' → a' ≤ a + 12 → 0 ≤ r' → Q (.str x) (pn cs a' r' :: T)
  | _, _, _, _ => False
def w_law_name : WS := (wSeq (wSet 1 (wC (.str "abcdefghijklmnopqrstuvwxyz")))
  (wSeq (wSet 2 (wFz (wSpl (wC (.str "tempo stretch take lane piece stands back version load in out none free bound go undo")) (wC (.str " ")))))
  (wSeq (wIf (wB (wBin fEq (wCall 2 s_law_draw (wCons (wVar 0) (wCons (wC (.int 5)) wNil))) (wC (.int 0))))
  (wRet (wBin fIx (wVar 2) (wCall 2 s_law_draw (wCons (wVar 0) (wCons (wC (.int 16)) wNil)))))
  wNext)
  (wRet (wJn (wC (.str "")) (wFz (wLc (wIR1 (wCons (wBin fAdd (wC (.int 1)) (wCall 2 s_law_draw (wCons (wVar 0) (wCons (wC (.int 8)) wNil)))) wNil)) (gSet 3) wYes (wBin fIx (wVar 1) (wCall 2 s_law_draw (wCons (wVar 0) (wCons (wC (.int 26)) wNil)))) [3])))))))
def ltr (c : Nat) : Str := ⟨#[97 + c]⟩
theorem ltr_in : ∀ i : Fin 26, inStr ⟨#[97 + i.val]⟩ "abcdefghijklmnopqrstuvwxyz" = true := by decide +kernel
theorem ltr_at : ∀ i : Fin 26, (("abcdefghijklmnopqrstuvwxyz" : Str).cps.toList)[i.val]? = some (97 + i.val) := by decide +kernel
def words13 : List Str := Txt.split (Str.ofString "tempo stretch take lane piece stands back version load in out none free bound go undo") (Str.ofString " ")
theorem words_len : words13.length = 16 := by decide +kernel
theorem words_ok : ∀ x ∈ words13, nmB x = true := by decide +kernel
theorem joinL_ltr : ∀ L : List Nat, TL.joinL [] (L.map fun c => [97 + c]) = L.map (97 + ·)
  | [] => rfl
  | [_] => rfl
  | c :: d :: L => by
    show [97 + c] ++ ([] ++ TL.joinL [] ((d :: L).map fun c => [97 + c])) = _
    rw [joinL_ltr (d :: L)]; rfl
theorem join_cps (L : List Nat) : Txt.join (Str.ofString "") (L.map ltr) = ⟨(L.map (97 + ·)).toArray⟩ := by
  have e := TL.tl_join (Str.ofString "") (L.map ltr)
  have e2 : (L.map ltr).map TL.tl = L.map fun c => [97 + c] := by rw [List.map_map]; rfl
  rw [e2] at e
  have e3 : TL.joinL (TL.tl (Str.ofString "")) (L.map fun c => [97 + c]) = L.map (97 + ·) := joinL_ltr L
  rw [e3] at e
  exact TL.ext_tl ((congrArg TL.tl (TL.join_eq _ _)).trans e)
theorem join_nm {L : List Nat} (h1 : 1 ≤ L.length) (h8 : L.length ≤ 8) (h : ∀ c ∈ L, c < 26) : nmB (Txt.join (Str.ofString "") (L.map ltr)) = true := by
  rw [join_cps]
  have e : (⟨(L.map (97 + ·)).toArray⟩ : Str).length = L.length := by show ((L.map (97 + ·)).toArray).size = _; simp
  unfold nmB
  rw [e, decide_eq_true h1, decide_eq_true h8]
  show (List.all ((L.map (97 + ·)).toArray).toList _) = true
  refine List.all_eq_true.mpr fun x hx => ?_
  obtain ⟨c, hc, rfl⟩ := List.mem_map.mp hx
  exact ltr_in ⟨c, h c hc⟩
theorem vc_law_name (ds : List D) (M : Me) (QD : D → Me → Prop) (ED : EX → Me → Prop) (hl : ds.length = 1) (h : s_law_name ds M QD ED) : w_law_name (env0 4 ds) M (retE M QD ED) := by
  match ds, h with
  | [.han 0], ⟨cs, a, r, T, ⟨e, a0, a1, hc, r0⟩, hQ⟩ =>
    subst e
    refine ⟨⟨_, rfl⟩, _, _, rfl, rfl, rfl, (by decide +kernel), ?_⟩
    refine ⟨rfl, drawP a0 (by omega) hc r0 (by decide) (by decide) fun v1 a1' r1 v10 v11 b0 b1 b2 => ?_⟩
    by_cases e1 : v1 = 0
    · refine itt (decide_eq_true e1) ?_
      refine ⟨rfl, drawP (by omega) (by omega) hc b2 (by decide) (by decide) fun v2 a2' r2 v20 v21 c0 c1 c2 => ?_⟩
      obtain ⟨x, ex, mx⟩ := mem_at (L := words13.map D.str) v20 (by rw [List.length_map, words_len]; exact v21)
      obtain ⟨y, hy, rfl⟩ := List.mem_map.mp mx
      refine ⟨_, _, rfl, ex, retP0 rfl (hQ y a2' r2 (words_ok y hy) (by omega) (by omega) c2)⟩
    · refine itf (decide_eq_false e1) ?_
      refine ⟨⟨_, rfl⟩, rfl, drawP (by omega) (by omega) hc b2 (by decide) (by decide) fun v2 a2' r2 v20 v21 c0 c1 c2 => ?_⟩
      refine ⟨⟨by omega, by omega⟩, ?_⟩
      refine lcGo_ix (fun i acc M1 => ∃ (L : List Nat) (a' r' : Int), M1 = pn cs a' r' :: T ∧ acc = L.map (fun c => D.str (ltr c)) ∧ L.length = i ∧ (∀ c ∈ L, c < 26) ∧ a2' ≤ a' ∧ a' ≤ a2' + i ∧ 0 ≤ r') ?_ ?_ ⟨[], a2', r2, rfl, rfl, rfl, (fun _ h => nomatch h), by omega, by omega, c2⟩
      · rintro i d acc M1 K hd ⟨L, a', r', rfl, rfl, ll, hL, d0, d1, d2⟩ hK
        obtain ⟨hi, rfl⟩ := rgD_at hd
        refine ⟨trivial, rfl, drawP (by omega) (by omega) hc d2 (by decide) (by decide) fun v3 a3' r3 v30 v31 e0 e1 e2 => ?_⟩
        obtain ⟨c, rfl⟩ : ∃ c : Nat, v3 = (c : Int) := ⟨v3.toNat, by omega⟩
        refine ⟨(by show 26 ≤ sizeLine; decide), _, atI_nat (ltr_at ⟨c, by omega⟩), ?_, hK _ _ ⟨L ++ [c], a3', r3, rfl, by rw [List.map_append]; rfl, by rw [List.length_append, ll]; rfl, fun x hx => ?_, by omega, by push_cast; omega, e2⟩⟩
        · rw [List.length_map]; exact Nat.lt_of_le_of_lt (show L.length ≤ 8 by omega) (by decide)
        · rcases List.mem_append.mp hx with z | z
          · exact hL x z
          · rw [List.mem_singleton.mp z]; omega
      · rintro acc M1 ⟨L, a', r', rfl, rfl, ll, hL, d0, d1, d2⟩
        rw [rgD_len] at ll d1
        have eL : (L.map fun c => D.str (ltr c)) = (L.map ltr).map D.str := by rw [List.map_map]; rfl
        have eS : ((L.map ltr).map (·.length)).sum = L.length := by
          rw [List.map_map]
          have : ∀ M : List Nat, (M.map ((fun x : Str => x.length) ∘ ltr)).sum = M.length := fun M => by
            induction M with
            | nil => rfl
            | cons c M ih => rw [List.map_cons, List.sum_cons, ih, List.length_cons]; show 1 + _ = _; omega
          exact this L
        refine ⟨trivial, _, L.map ltr, rfl, by rw [eL]; rfl, by rw [eS]; show L.length + _ * 0 ≤ _; omega, ?_⟩
        exact retP0 rfl (hQ _ a' r' (join_nm (by omega) (by omega) hL) (by omega) (by omega) d2)
/-! ### _law_take -/
def s_law_take : WF
  | [.han 0], M, Q, _ => ∃ (cs : List Int) (a r : Int) (T : Me), PenA M cs a r T ∧ a ≤ 900000000 ∧ ∀ (t : Tk) (a' r' : Int), TkOk t → a ≤ a' → a' ≤ a + 300 → 0 ≤ r' → Q (tkD t) (pn cs a' r' :: T)
  | _, _, _, _ => False
def w_law_take : WS := (wSeq (wSet 1 (wBin fIx (wFz (wLst (wCons (wBin fAdd (wC (.int 1)) (wCall 2 s_law_draw (wCons (wVar 0) (wCons (wC (.int 9)) wNil)))) (wCons (wC (.int 200)) wNil)))) (wCB fInt (wCons (wBin fEq (wCall 2 s_law_draw (wCons (wVar 0) (wCons (wC (.int 8)) wNil))) (wC (.int 3))) wNil))))
  (wSeq (wSet 2 (wMu (wLc (wIR1 (wCons (wVar 1) wNil)) (gSet 3) wYes (wBin fSub (wCall 2 s_law_draw (wCons (wVar 0) (wCons (wC (.int 21)) wNil))) (wC (.int 10))) [3])))
  (wSeq (wSetI (wBin fIx (wFz (wLst (wCons (wC (.int 100000)) (wCons (wNeg (wC (.int 100000))) (wCons (wC (.int 0)) wNil))))) (wCall 2 s_law_draw (wCons (wVar 0) (wCons (wC (.int 3)) wNil)))) (wVar 2) (wCall 2 s_law_draw (wCons (wVar 0) (wCons (wVar 1) wNil))))
  (wRet (wTup (wCons (wCall 1 s_law_name (wCons (wVar 0) wNil)) (wCons (wCB fTuple (wCons (wVar 2) wNil)) wNil)))))))
theorem vc_law_take (ds : List D) (M : Me) (QD : D → Me → Prop) (ED : EX → Me → Prop) (hl : ds.length = 1) (h : s_law_take ds M QD ED) : w_law_take (env0 4 ds) M (retE M QD ED) := by
  match ds, h with
  | [.han 0], ⟨cs, a, r, T, ⟨e, a0, a1, hc, r0⟩, a9, hQ⟩ =>
    subst e
    refine ⟨rfl, drawP a0 (by omega) hc r0 (by decide) (by decide) fun v1 a1' r1 v10 v11 b0 b1 b2 => ?_⟩
    refine ⟨(by show 2 ≤ sizeLine; decide), rfl, drawP (by omega) (by omega) hc b2 (by decide) (by decide) fun v2 a2' r2 v20 v21 c0 c1 c2 => ?_⟩
    obtain ⟨m, em, m1, m2⟩ : ∃ m : Int, atI [D.int (1 + v1), D.int 200] (if decide (v2 = 3) = true then 1 else 0) = some (.int m) ∧ 1 ≤ m ∧ m ≤ 200 := by
      by_cases e : v2 = 3
      · exact ⟨200, by rw [decide_eq_true e]; rfl, by decide, by decide⟩
      · exact ⟨1 + v1, by rw [decide_eq_false e]; rfl, by omega, by omega⟩
    refine ⟨_, _, rfl, em, ?_⟩
    refine ⟨⟨by omega, by omega⟩, ?_⟩
    refine lcGo_ix (fun i acc M1 => ∃ (L : List Int) (a' r' : Int), M1 = pn cs a' r' :: T ∧ acc = L.map D.int ∧ L.length = i ∧ (∀ c ∈ L, -100000 ≤ c ∧ c ≤ 100000) ∧ a2' ≤ a' ∧ a' ≤ a2' + i ∧ 0 ≤ r') ?_ ?_ ⟨[], a2', r2, rfl, rfl, rfl, (fun _ h => nomatch h), by omega, by omega, c2⟩
    · rintro i d acc M1 K hd ⟨L, a', r', rfl, rfl, ll, hL, d0, d1, d2⟩ hK
      obtain ⟨hi, rfl⟩ := rgD_at hd
      refine ⟨trivial, rfl, drawP (by omega) (by omega) hc d2 (by decide) (by decide) fun v3 a3' r3 v30 v31 e0 e1 e2 => ?_⟩
      refine ⟨trivial, ?_, hK _ _ ⟨L ++ [v3 - 10], a3', r3, rfl, by rw [List.map_append]; rfl, by rw [List.length_append, ll]; rfl, fun x hx => ?_, by omega, by push_cast; omega, e2⟩⟩
      · rw [List.length_map]; exact Nat.lt_of_le_of_lt (show L.length ≤ 200 by omega) (by decide)
      · rcases List.mem_append.mp hx with z | z
        · exact hL x z
        · rw [List.mem_singleton.mp z]; omega
    · rintro acc M1 ⟨L, a', r', rfl, rfl, ll, hL, d0, d1, d2⟩
      rw [rgD_len] at ll d1
      refine ⟨trivial, (by show 3 ≤ sizeLine; decide), rfl, drawP (by omega) (by omega) hc d2 (by decide) (by decide) fun v4 a4' r4 v40 v41 f0 f1 f2 => ?_⟩
      obtain ⟨z, ez, z1, z2⟩ : ∃ z : Int, atI [D.int 100000, .int (-100000), .int 0] v4 = some (.int z) ∧ -100000 ≤ z ∧ z ≤ 100000 := by
        rcases (show v4 = 0 ∨ v4 = 1 ∨ v4 = 2 by omega) with rfl | rfl | rfl
        · exact ⟨_, rfl, by decide, by decide⟩
        · exact ⟨_, rfl, by decide, by decide⟩
        · exact ⟨_, rfl, by decide, by decide⟩
      refine ⟨_, _, rfl, ez, ?_⟩
      refine ⟨rfl, drawP (T := T ++ [L.map D.int]) (by omega) (by omega) hc f2 (by omega) (by omega) fun v5 a5' r5 v50 v51 g0 g1 g2 => ?_⟩
      obtain ⟨j, rfl⟩ : ∃ j : Nat, v5 = (j : Int) := ⟨v5.toNat, by omega⟩
      have jl : j < L.length := by omega
      refine ⟨L.map D.int, j, penG, ?_, ?_⟩
      · unfold ixN
        rw [List.length_map]
        rw [if_pos (by omega), if_pos (by omega), Int.toNat_natCast]
      have eS : (pn cs a5' r5 :: (T ++ [L.map D.int])).set (pn cs a' r' :: T).length ((L.map D.int).set j (.int z)) = pn cs a5' r5 :: (T ++ [(L.set j z).map D.int]) := by
        rw [List.map_set]; exact penS
      rw [eS]
      have hS : ∀ c ∈ L.set j z, -100000 ≤ c ∧ c ≤ 100000 := fun c hc => by
        rcases List.mem_or_eq_of_mem_set hc with h | h
        · exact hL c h
        · rw [h]; exact ⟨z1, z2⟩
      refine ⟨rfl, cs, a5', r5, T ++ [(L.set j z).map D.int], ⟨rfl, by omega, by omega, hc, g2⟩, fun x a6 r6 nx h1 h2 h3 => ?_⟩
      refine ⟨(L.set j z).map D.int, penG, (by show 2 ≤ sizeLine; decide), ?_⟩
      have lS : (L.set j z).length = L.length := List.length_set
      exact retP (T := T) (X := [(L.set j z).map D.int]) (d := tkD ⟨x, L.set j z⟩) (by
        show (true && (olds _ ((L.set j z).map D.int) && true)) = true
        rw [olds_int]; rfl) (hQ ⟨x, L.set j z⟩ a6 r6 ⟨nx, by show 1 ≤ (L.set j z).length; omega, by show (L.set j z).length ≤ 200; omega, hS⟩ (by omega) (by omega) h3)
/-! ### _law_is_straight -/
def s_law_is_straight : WF
  | [x, y, z], M, Q, _ => ∃ a b c : Rat × Rat, x = cnD a ∧ y = cnD b ∧ z = cnD c ∧ (Fs 110 a.1 ∧ Fs 110 a.2) ∧ (Fs 110 b.1 ∧ Fs 110 b.2) ∧ (Fs 110 c.1 ∧ Fs 110 c.2) ∧ Q (.bl (strB a b c)) M
  | _, _, _, _ => False
def w_law_is_straight : WS := (wSeq (wPar 3 4 (wCons (wCall 2 s_law_less_by (wCons (wBin fIx (wVar 1) (wC (.int 1))) (wCons (wBin fIx (wVar 0) (wC (.int 1))) wNil))) (wCons (wCall 2 s_law_less_by (wCons (wBin fIx (wVar 1) (wC (.int 0))) (wCons (wBin fIx (wVar 0) (wC (.int 0))) wNil))) wNil)))
  (wSeq (wPar 5 6 (wCons (wCall 2 s_law_less_by (wCons (wBin fIx (wVar 2) (wC (.int 1))) (wCons (wBin fIx (wVar 0) (wC (.int 1))) wNil))) (wCons (wCall 2 s_law_less_by (wCons (wBin fIx (wVar 2) (wC (.int 0))) (wCons (wBin fIx (wVar 0) (wC (.int 0))) wNil))) wNil)))
  (wRet (wBin fEq (wBin fMul (wBin fMul (wBin fMul (wBin fIx (wVar 3) (wC (.int 0))) (wBin fIx (wVar 6) (wC (.int 0)))) (wBin fIx (wVar 5) (wC (.int 1)))) (wBin fIx (wVar 4) (wC (.int 1)))) (wBin fMul (wBin fMul (wBin fMul (wBin fIx (wVar 5) (wC (.int 0))) (wBin fIx (wVar 4) (wC (.int 0)))) (wBin fIx (wVar 3) (wC (.int 1)))) (wBin fIx (wVar 6) (wC (.int 1))))))))
theorem str_iff (a b c : Rat × Rat) : (b.2 - a.2) * (c.1 - a.1) = (c.2 - a.2) * (b.1 - a.1) ↔ (b.2 - a.2) * (c.1 - b.1) = (c.2 - b.2) * (b.1 - a.1) := by
  constructor <;> intro h <;> grind
theorem cross_iff (p q r s : Rat) : p.num * q.num * r.den * s.den = r.num * s.num * p.den * q.den ↔ p * q = r * s := by
  have e1 : p * q = Rat.divInt (p.num * q.num) (p.den * q.den) := by
    rw [← Rat.divInt_mul_divInt, Rat.num_divInt_den, Rat.num_divInt_den]
  have e2 : r * s = Rat.divInt (r.num * s.num) (r.den * s.den) := by
    rw [← Rat.divInt_mul_divInt, Rat.num_divInt_den, Rat.num_divInt_den]
  rw [e1, e2, Rat.divInt_eq_divInt_iff (Int.mul_ne_zero (den_ne p) (den_ne q)) (Int.mul_ne_zero (den_ne r) (den_ne s))]
  constructor <;> intro h <;> grind
theorem vc_law_is_straight (ds : List D) (M : Me) (QD : D → Me → Prop) (ED : EX → Me → Prop) (hl : ds.length = 3) (h : s_law_is_straight ds M QD ED) : w_law_is_straight (env0 7 ds) M (retE M QD ED) := by
  match ds, h with
  | [_, _, _], ⟨a, b, c, rfl, rfl, rfl, ⟨fa1, fa2⟩, ⟨fb1, fb2⟩, ⟨fc1, fc2⟩, h⟩ =>
    have m300 : ∀ {q : Rat}, Fs 110 q → Fs 300 q := fun h => h.mono (by decide)
    refine ⟨_, _, rfl, rfl, _, _, rfl, rfl, rfl, _, _, rfl, rfl, m300 fb2, m300 fa2, ?_⟩
    refine ⟨_, _, rfl, rfl, _, _, rfl, rfl, rfl, _, _, rfl, rfl, m300 fb1, m300 fa1, ?_⟩
    refine ⟨_, _, rfl, rfl, _, _, rfl, rfl, rfl, _, _, rfl, rfl, m300 fc2, m300 fa2, ?_⟩
    refine ⟨_, _, rfl, rfl, _, _, rfl, rfl, rfl, _, _, rfl, rfl, m300 fc1, m300 fa1, ?_⟩
    have f1 := fb2.sub fa2
    have f2 := fb1.sub fa1
    have f3 := fc2.sub fa2
    have f4 := fc1.sub fa1
    have g1 := f1.1.mul f4.1
    have g2 := g1.mul f3.2
    have g3 := f3.1.mul f2.1
    have g4 := g3.mul f1.2
    refine ⟨_, _, rfl, rfl, _, _, rfl, rfl, f1.1.mok f4.1 (by decide), _, _, rfl, rfl, g1.mok f3.2 (by decide), _, _, rfl, rfl, g2.mok f2.2 (by decide), ?_⟩
    refine ⟨_, _, rfl, rfl, _, _, rfl, rfl, f3.1.mok f2.1 (by decide), _, _, rfl, rfl, g3.mok f1.2 (by decide), _, _, rfl, rfl, g4.mok f4.2 (by decide), ?_⟩
    have e : decide ((b.2 - a.2).num * (c.1 - a.1).num * ((c.2 - a.2).den : Int) * ((b.1 - a.1).den : Int) = (c.2 - a.2).num * (b.1 - a.1).num * ((b.2 - a.2).den : Int) * ((c.1 - a.1).den : Int)) = strB a b c := by
      unfold strB
      rw [decide_eq_decide, cross_iff, str_iff]
    refine retQ_pure rfl ?_
    show QD (.bl (decide ((b.2 - a.2).num * (c.1 - a.1).num * ((c.2 - a.2).den : Int) * ((b.1 - a.1).den : Int) = (c.2 - a.2).num * (b.1 - a.1).num * ((b.2 - a.2).den : Int) * ((c.1 - a.1).den : Int)))) M
    rw [e]; exact h
/-! ### _law_shape -/
def s_law_shape : WF
  | [.han 0, .int many], M, Q, _ => ∃ (cs : List Int) (a r : Int) (T : Me), PenA M cs a r T ∧ a ≤ 900000000 ∧ 1 ≤ many ∧ many ≤ 100000 ∧ ∀ (C : List (Rat × Rat)) (a' r' : Int), ShapeOk 42 C → (∀ c, C[0]? = some c → c.1 = 0) → (∀ c, C[C.length - 1]? = some c → c.1 = (many : Rat)) → a ≤ a' → a' ≤ a + 300 → 0 ≤ r' → Q (.tup (C.map cnD)) (pn cs a' r' :: T)
  | _, _, _, _ => False
def w_law_shape : WS := (wSeq (wSet 2 (wBin fIx (wFz (wLst (wCons (wCall 2 s_law_draw (wCons (wVar 0) (wCons (wC (.int 4)) wNil))) (wCons (wCall 2 s_law_draw (wCons (wVar 0) (wCons (wC (.int 11)) wNil))) wNil)))) (wCB fInt (wCons (wBin fEq (wCall 2 s_law_draw (wCons (wVar 0) (wCons (wC (.int 4)) wNil))) (wC (.int 1))) wNil))))
  (wSeq (wSet 3 (wFz (wLc (wIR1 (wCons (wBin fAdd (wVar 2) (wC (.int 1))) wNil)) (gSet 5) wYes (wBin fAdd (wC (.int 1)) (wCall 2 s_law_draw (wCons (wVar 0) (wCons (wC (.int 9)) wNil)))) [5])))
  (wSeq (wSet 4 (wMu (wLst wNil)))
  (wSeq (wFor (wIR1 (wCons (wBin fAdd (wVar 2) (wC (.int 2))) wNil)) (gSet 5)
  (wSeq (wDrop (wBM fAppend (wVar 4) (wCons (wTup (wCons (wCall 2 s_law_low (wCons (wBin fMul (wVar 1) (wCB fSum (wCons (wFz (wSlL (wVar 3) wNo (wPart (wVar 5)))) wNil))) (wCons (wCB fSum (wCons (wVar 3) wNil)) wNil))) (wCons (wCall 1 s_law_fraction (wCons (wVar 0) wNil)) wNil))) wNil)))
  (wIf (wAndT (wB (wBin fGt (wCB fLen (wCons (wVar 4) wNil)) (wC (.int 2)))) (wTr (wCall 3 s_law_is_straight (wCons (wBin fIx (wVar 4) (wNeg (wC (.int 3)))) (wCons (wBin fIx (wVar 4) (wNeg (wC (.int 2)))) (wCons (wBin fIx (wVar 4) (wNeg (wC (.int 1)))) wNil))))))
  (wDrop (wBM fPopAt (wVar 4) (wCons (wNeg (wC (.int 2))) wNil)))
  wNext)))
  (wRet (wCB fTuple (wCons (wVar 4) wNil)))))))
def Inc (l : List (Rat × Rat)) : Prop := ∀ (i : Nat) (a b : Rat × Rat), l[i]? = some a → l[i + 1]? = some b → a.1 < b.1
def Bent (l : List (Rat × Rat)) : Prop := ∀ (i : Nat) (a b c : Rat × Rat), l[i]? = some a → l[i + 1]? = some b → l[i + 2]? = some c → strB a b c = false
theorem snoc_get {α : Type} {l : List α} {x y : α} {i : Nat} (h : (l ++ [x])[i]? = some y) : (i < l.length ∧ l[i]? = some y) ∨ (i = l.length ∧ y = x) := by
  by_cases hi : i < l.length
  · rw [List.getElem?_append_left hi] at h
    exact .inl ⟨hi, h⟩
  · rw [List.getElem?_append_right (by omega)] at h
    have := (List.getElem?_eq_some_iff.mp h).1
    simp at this
    have e : i - l.length = 0 := by omega
    rw [e] at h
    cases h
    exact .inr ⟨by omega, rfl⟩
theorem strB_trans {a b m h : Rat × Rat} (h1 : b.1 < m.1) (h2 : m.1 < h.1) (n : strB a b m = false) (s : strB b m h = true) : strB a b h = false := by
  unfold strB at *
  have s := of_decide_eq_true s
  have n := of_decide_eq_false n
  refine decide_eq_false fun e => n ?_
  have p : (h.1 - b.1) * ((b.2 - a.2) * (m.1 - b.1) - (m.2 - b.2) * (b.1 - a.1)) = 0 := by
    have e1 : (h.1 - b.1) * ((b.2 - a.2) * (m.1 - b.1) - (m.2 - b.2) * (b.1 - a.1)) = ((b.2 - a.2) * (h.1 - b.1)) * (m.1 - b.1) - (h.1 - b.1) * (m.2 - b.2) * (b.1 - a.1) := by grind
    rw [e1, e]
    have e2 : (h.2 - b.2) * (b.1 - a.1) * (m.1 - b.1) - (h.1 - b.1) * (m.2 - b.2) * (b.1 - a.1) = (b.1 - a.1) * ((h.2 - m.2) * (m.1 - b.1) - (m.2 - b.2) * (h.1 - m.1)) := by grind
    rw [e2, s]
    grind
  rcases Rat.mul_eq_zero.mp p with z | z
  · grind
  · grind
theorem Inc.snoc {l : List (Rat × Rat)} {c : Rat × Rat} (h : Inc l) (hb : ∀ b, l[l.length - 1]? = some b → b.1 < c.1) : Inc (l ++ [c]) := fun i a b e1 e2 => by
  rcases snoc_get e2 with ⟨g2, e2⟩ | ⟨g2, rfl⟩
  · rw [List.getElem?_append_left (by omega)] at e1
    exact h i a b e1 e2
  · rw [List.getElem?_append_left (by omega)] at e1
    exact hb a (by rw [show l.length - 1 = i by omega]; exact e1)
theorem Bent.snoc {l : List (Rat × Rat)} {c : Rat × Rat} (h : Bent l) (hb : ∀ a b, 2 ≤ l.length → l[l.length - 2]? = some a → l[l.length - 1]? = some b → strB a b c = false) : Bent (l ++ [c]) := fun i a b d e1 e2 e3 => by
  rcases snoc_get e3 with ⟨g3, e3⟩ | ⟨g3, rfl⟩
  · rw [List.getElem?_append_left (by omega)] at e1 e2
    exact h i a b d e1 e2 e3
  · rw [List.getElem?_append_left (by omega)] at e1 e2
    exact hb a b (by omega) (by rw [show l.length - 2 = i by omega]; exact e1) (by rw [show l.length - 1 = i + 1 by omega]; exact e2)
theorem init_get {α : Type} {l : List α} {x y : α} {i : Nat} (h : l[i]? = some y) : (l ++ [x])[i]? = some y := by
  rw [List.getElem?_append_left (List.getElem?_eq_some_iff.mp h).1]; exact h
theorem Inc.init {l : List (Rat × Rat)} {c : Rat × Rat} (h : Inc (l ++ [c])) : Inc l := fun i a b e1 e2 => h i a b (init_get e1) (init_get e2)
theorem Bent.init {l : List (Rat × Rat)} {c : Rat × Rat} (h : Bent (l ++ [c])) : Bent l := fun i a b d e1 e2 e3 => h i a b d (init_get e1) (init_get e2) (init_get e3)
theorem last_at {α : Type} (l : List α) (x : α) : (l ++ [x])[(l ++ [x]).length - 1]? = some x := by
  rw [List.length_append, List.length_singleton, Nat.add_sub_cancel]; simp
theorem last_two {α : Type} (l : List α) (x y : α) : (l ++ [x] ++ [y])[(l ++ [x] ++ [y]).length - 2]? = some x := by
  simp
/-- found so far: the corners, k of them drawn, the last at x -/
structure FdI (C : List (Rat × Rat)) (k : Nat) (x : Rat) : Prop where
  len : C.length ≤ k
  one : 1 ≤ k → 1 ≤ C.length
  two : 2 ≤ k → 2 ≤ C.length
  cn : ∀ c ∈ C, CnOk 42 c
  inc : Inc C
  bent : Bent C
  fst : ∀ c, C[0]? = some c → c.1 = 0
  lst : ∀ c, C[C.length - 1]? = some c → c.1 = x
theorem FdI.add {C : List (Rat × Rat)} {k : Nat} {x : Rat} {c : Rat × Rat} (I : FdI C k x) (hc : CnOk 42 c) (hx : 1 ≤ k → x < c.1) (h0 : k = 0 → c.1 = 0)
    (nb : ∀ a b, 2 ≤ C.length → C[C.length - 2]? = some a → C[C.length - 1]? = some b → strB a b c = false) : FdI (C ++ [c]) (k + 1) c.1 := by
  have l1 := I.len
  refine ⟨by rw [List.length_append]; simp; omega, fun _ => by rw [List.length_append]; simp, fun h => by rw [List.length_append]; have := I.one (by omega); simp; omega, fun d hd => ?_, I.inc.snoc fun b hb => ?_, I.bent.snoc nb, fun d hd => ?_, fun d hd => ?_⟩
  · rcases List.mem_append.mp hd with z | z
    · exact I.cn d z
    · rw [List.mem_singleton.mp z]; exact hc
  · have hk : 1 ≤ k := by have := (List.getElem?_eq_some_iff.mp hb).1; omega
    rw [I.lst b hb]; exact hx hk
  · rcases snoc_get hd with ⟨g, e⟩ | ⟨g, rfl⟩
    · exact I.fst d e
    · exact h0 (by
        rcases Nat.eq_zero_or_pos k with z | z
        · exact z
        · have := I.one z; omega)
  · rw [last_at] at hd; cases hd; rfl
theorem FdI.pop {C : List (Rat × Rat)} {k : Nat} {x : Rat} {a b c : Rat × Rat} (I : FdI (C ++ [a] ++ [b]) k x) (hc : CnOk 42 c) (hx : x < c.1) (st : strB a b c = true) : FdI (C ++ [a] ++ [c]) (k + 1) c.1 := by
  have l1 := I.len
  rw [List.length_append, List.length_append] at l1
  have eb : b.1 = x := I.lst b (last_at _ _)
  have ab : a.1 < b.1 := I.inc C.length a b (by simp) (by simp)
  refine ⟨by rw [List.length_append, List.length_append]; simp at l1 ⊢; omega, fun _ => by simp, fun _ => by simp, fun d hd => ?_, I.inc.init.snoc fun d hd => ?_, I.bent.init.snoc fun d e _ hd he => ?_, fun d hd => ?_, fun d hd => ?_⟩
  · rcases List.mem_append.mp hd with z | z
    · exact I.cn d (List.mem_append_left _ z)
    · rw [List.mem_singleton.mp z]; exact hc
  · rw [last_at] at hd; cases hd
    grind
  · rw [last_at] at he; cases he
    have hC : 1 ≤ C.length := by
      rename_i h2
      rw [List.length_append] at h2
      simp at h2; exact h2
    have h3 : (C ++ [a] ++ [b])[C.length - 1]? = some d := by
      have : (C ++ [a]).length - 2 = C.length - 1 := by simp
      rw [this] at hd
      exact init_get hd
    have n := I.bent (C.length - 1) d a b h3 (by rw [show C.length - 1 + 1 = C.length by omega]; simp) (by rw [show C.length - 1 + 2 = C.length + 1 by omega]; simp)
    exact strB_trans ab (by grind) n st
  · rcases snoc_get hd with ⟨g, e⟩ | ⟨g, _⟩
    · exact I.fst d (init_get e)
    · simp at g
  · rw [last_at] at hd; cases hd; rfl
theorem at_neg {l : List D} {x : D} {k : Nat} (h1 : 1 ≤ k) (h : k ≤ l.length) (e : l[l.length - k]? = some x) : atI l (-(k : Int)) = some x := by
  unfold atI ixN
  rw [if_neg (by omega), if_pos (by omega), show (-(k : Int) + (l.length : Int)).toNat = l.length - k by omega]
  exact e
theorem divInt_ltS {a b s : Int} (hs : 0 < s) (h : a < b) : Rat.divInt a s < Rat.divInt b s := by
  have hs' : (0 : Rat) < (s : Rat) := Rat.intCast_pos.mpr hs
  have e1 : Rat.divInt a s * (s : Rat) = (a : Rat) := by rw [Rat.divInt_eq_div]; exact Rat.div_mul_cancel (by grind)
  have e2 : Rat.divInt b s * (s : Rat) = (b : Rat) := by rw [Rat.divInt_eq_div]; exact Rat.div_mul_cancel (by grind)
  have h' : (a : Rat) < (b : Rat) := Rat.intCast_lt_intCast.mpr h
  rw [← e1, ← e2] at h'
  exact Rat.lt_of_mul_lt_mul_right h' (by grind)
theorem divInt_self_mul {m s : Int} (hs : 0 < s) : Rat.divInt (m * s) s = (m : Rat) := by
  rw [Rat.divInt_eq_div]
  have : ((m * s : Int) : Rat) = (m : Rat) * (s : Rat) := Rat.intCast_mul m s
  rw [this]
  exact Rat.mul_div_cancel (by
    have hs' : (0 : Rat) < (s : Rat) := Rat.intCast_pos.mpr hs
    grind)
theorem olds_cn (n : Nat) : ∀ C : List (Rat × Rat), olds n (C.map cnD) = true
  | [] => rfl
  | c :: C => by
    show (old n (cnD c) && olds n (C.map cnD)) = true
    rw [olds_cn n C]; rfl
theorem seqIx_neg2 (n : Nat) : seqIndex? (-2) (n + 3) = some (n + 1) := by
  unfold seqIndex?
  have e : (if (-2 : Int) < 0 then -2 + ((n + 3 : Nat) : Int) else -2) = ((n + 1 : Nat) : Int) := by rw [if_pos (by decide)]; omega
  simp only [e]
  rw [if_pos (by simp; omega)]; simp
theorem sum_b : ∀ {L : List Int}, (∀ c ∈ L, 1 ≤ c ∧ c ≤ 9) → (L.length : Int) ≤ L.sum ∧ L.sum ≤ 9 * (L.length : Int)
  | [], _ => ⟨by simp, by simp⟩
  | c :: L, h => by
    have h1 := h c List.mem_cons_self
    have h2 := sum_b (L := L) fun d hd => h d (List.mem_cons_of_mem _ hd)
    rw [List.sum_cons, List.length_cons]
    push_cast
    omega
theorem vc_law_shape (ds : List D) (M : Me) (QD : D → Me → Prop) (ED : EX → Me → Prop) (hl : ds.length = 2) (h : s_law_shape ds M QD ED) : w_law_shape (env0 6 ds) M (retE M QD ED) := by
  match ds, h with
  | [.han 0, .int many], ⟨cs, a, r, T, ⟨e, a0, a1, hc, r0⟩, a9, m1, m2, hQ⟩ =>
    subst e
    refine ⟨rfl, drawP a0 (by omega) hc r0 (by decide) (by decide) fun v1 a1' r1 v10 v11 b0 b1 b2 => ?_⟩
    refine ⟨rfl, drawP (by omega) (by omega) hc b2 (by decide) (by decide) fun v2 a2' r2 v20 v21 c0 c1 c2 => ?_⟩
    refine ⟨(by show 2 ≤ sizeLine; decide), rfl, drawP (by omega) (by omega) hc c2 (by decide) (by decide) fun v3 a3' r3 v30 v31 d0 d1 d2 => ?_⟩
    obtain ⟨n, en, n1, n2⟩ : ∃ n : Nat, atI [D.int v1, D.int v2] (if decide (v3 = 1) = true then 1 else 0) = some (.int (n : Int)) ∧ n ≤ 10 ∧ True := by
      by_cases e : v3 = 1
      · exact ⟨v2.toNat, by rw [decide_eq_true e, Int.toNat_of_nonneg v20]; rfl, by omega, trivial⟩
      · exact ⟨v1.toNat, by rw [decide_eq_false e, Int.toNat_of_nonneg v10]; rfl, by omega, trivial⟩
    refine ⟨_, _, rfl, en, ?_⟩
    refine ⟨⟨by omega, by omega⟩, ?_⟩
    refine lcGo_ix (fun i acc M1 => ∃ (L : List Int) (a' r' : Int), M1 = pn cs a' r' :: T ∧ acc = L.map D.int ∧ L.length = i ∧ (∀ c ∈ L, 1 ≤ c ∧ c ≤ 9) ∧ a3' ≤ a' ∧ a' ≤ a3' + i ∧ 0 ≤ r') ?_ ?_ ⟨[], a3', r3, rfl, rfl, rfl, (fun _ h => nomatch h), by omega, by omega, d2⟩
    · rintro i d acc M1 K hd ⟨L, a', r', rfl, rfl, ll, hL, e0, e1, e2⟩ hK
      obtain ⟨hi, rfl⟩ := rgD_at hd
      refine ⟨trivial, rfl, drawP (by omega) (by omega) hc e2 (by decide) (by decide) fun v4 a4' r4 v40 v41 f0 f1 f2 => ?_⟩
      refine ⟨?_, hK _ _ ⟨L ++ [1 + v4], a4', r4, rfl, by rw [List.map_append]; rfl, by rw [List.length_append, ll]; rfl, fun x hx => ?_, by omega, by push_cast; omega, f2⟩⟩
      · rw [List.length_map]; exact Nat.lt_of_le_of_lt (show L.length ≤ 20 by omega) (by decide)
      · rcases List.mem_append.mp hx with z | z
        · exact hL x z
        · rw [List.mem_singleton.mp z]; omega
    · rintro acc M1 ⟨L, a4, r4, rfl, rfl, ll, hL, e0, e1, e2⟩
      rw [rgD_len] at ll e1
      refine ⟨trivial, ?_⟩
      refine ⟨(by show 0 ≤ sizeLine; decide), ⟨by omega, by omega⟩, ?_⟩
      refine forGo_ix (fun k env M' => ∃ (C : List (Rat × Rat)) (x : Rat) (a' r' : Int) (y5 : Option D), M' = pn cs a' r' :: (T ++ [C.map cnD]) ∧ FdI C k x ∧ (1 ≤ k → x = Rat.divInt (many * (L.take (k - 1)).sum) L.sum) ∧ a4 ≤ a' ∧ a' ≤ a4 + 12 * k ∧ 0 ≤ r' ∧ env = [some (.han 0), some (.int many), some (.int (n : Int)), some (.lst (L.map D.int)), some (.han (T.length + 1)), y5]) ?_ ?_ ⟨[], 0, a4, r4, _, rfl, ⟨by simp, fun h => by omega, fun h => by omega, (fun _ h => nomatch h), (fun i a b h => by simp at h), (fun i a b c h => by simp at h), (fun c h => by simp at h), (fun c h => by simp at h)⟩, fun h => by omega, by omega, by omega, e2, rfl⟩
      · rintro k d env M' K hd ⟨C, x, a5, r5, y5, rfl, I, ex, f0, f1, f2, rfl⟩ hK
        obtain ⟨hi, rfl⟩ := rgD_at hd
        have hk : k < n + 2 := by omega
        refine ⟨trivial, ?_⟩
        have ec : DL.cutD (L.map D.int) none (some (0 + (k : Int))) = (L.take k).map D.int := by
          rw [Int.zero_add, cut_to _ k (by rw [List.length_map]; omega), List.map_take]
        have sk := sum_b (L := L.take k) fun c hc => hL c (List.mem_of_mem_take hc)
        have sL := sum_b hL
        rw [List.length_take] at sk
        have mk : Sm 30 (many * (L.take k).sum) := Sm.mul (m := 20) (n := 10) (by unfold Sm; omega) (by unfold Sm; omega)
        refine ⟨rfl, _, _, rfl, (show insD (DL.cutD (L.map D.int) none (some (0 + (k : Int)))) = some (L.take k) by rw [ec]; exact insD_map _), Sm.mok (m := 20) (n := 10) (by unfold Sm; omega) (by unfold Sm; omega) (by decide), ?_⟩
        refine ⟨_, _, rfl, (show insD (L.map D.int) = some L from insD_map _), rfl, by omega, mk.mono (by decide), Sm.mono (show Sm 10 L.sum by unfold Sm; omega) (by decide), ?_⟩
        refine ⟨rfl, cs, a5, r5, T ++ [C.map cnD], ⟨rfl, by omega, by omega, hc, f2⟩, fun q a6 r6 fq g0 g1 g2 => ?_⟩
        refine ⟨(by show 2 ≤ sizeLine; decide), _, penG, (by rw [List.length_map]; have := I.len; exact Nat.lt_of_le_of_lt (show C.length ≤ 20 by omega) (by decide)), ?_⟩
        obtain ⟨c, hcD⟩ : ∃ c : Rat × Rat, c = (Rat.divInt (many * (L.take k).sum) L.sum, q) := ⟨_, rfl⟩
        have eS : (pn cs a6 r6 :: (T ++ [C.map cnD])).set (T.length + 1) (C.map cnD ++ [.tup [fr (Rat.divInt (many * (L.take k).sum) L.sum), fr q]]) = pn cs a6 r6 :: (T ++ [(C ++ [c]).map cnD]) := by
          rw [List.map_append, hcD]; exact penS
        rw [eS]
        have cok : CnOk 42 c := by
          rw [hcD]
          exact ⟨Rat.divInt_nonneg (Int.mul_nonneg (by omega) (by omega)) (by omega), fq.n, Fs.low (by omega) (mk.mono (by decide)) (Sm.mono (show Sm 10 L.sum by unfold Sm; omega) (by decide)), fq.f⟩
        have cx : 1 ≤ k → x < c.1 := fun h => by
          rw [ex h, hcD]
          have hd : (L.take k).sum = (L.take (k - 1)).sum + L.getD (k - 1) 0 := by
            have h1 : L[k - 1]? = some (L[k - 1]'(by omega)) := List.getElem?_eq_getElem _
            have h2 : L.take k = L.take (k - 1) ++ [L[k - 1]'(by omega)] := by
              conv => lhs; rw [show k = (k - 1) + 1 by omega, List.take_succ, h1]
              rfl
            rw [h2, List.sum_append, List.getD_eq_getElem?_getD, h1]
            simp
          have hg : 1 ≤ L.getD (k - 1) 0 := by
            rw [List.getD_eq_getElem?_getD, List.getElem?_eq_getElem (show k - 1 < L.length by omega)]
            exact (hL _ (List.getElem_mem _)).1
          show Rat.divInt (many * (L.take (k - 1)).sum) L.sum < Rat.divInt (many * (L.take k).sum) L.sum
          refine divInt_ltS (by omega) ?_
          rw [hd, Int.mul_add]
          have : 1 * 1 ≤ many * L.getD (k - 1) 0 := Int.mul_le_mul m1 hg (by decide) (by omega)
          omega
        have c0 : k = 0 → c.1 = 0 := fun h => by
          rw [hcD, h]
          show Rat.divInt (many * 0) L.sum = 0
          rw [Int.mul_zero, Rat.zero_divInt]
        have cl := I.len
        have CL : ((C ++ [c]).map cnD).length = C.length + 1 := by rw [List.length_map, List.length_append]; rfl
        refine ⟨_, penG, trivial, ?_⟩
        by_cases h2 : 2 ≤ C.length
        · refine itt (decide_eq_true (by rw [CL]; omega)) ?_
          obtain ⟨C0, a, b, rfl⟩ : ∃ (C0 : List (Rat × Rat)) (a b : Rat × Rat), C = C0 ++ [a] ++ [b] := by
            rcases List.eq_nil_or_concat C with z | ⟨D1, b, z⟩
            · rw [z] at h2; simp at h2
            · rw [List.concat_eq_append] at z
              rcases List.eq_nil_or_concat D1 with z2 | ⟨C0, a, z2⟩
              · rw [z, z2] at h2; simp at h2
              · rw [List.concat_eq_append] at z2
                exact ⟨C0, a, b, by rw [z, z2]⟩
          have ga : atI ((C0 ++ [a] ++ [b] ++ [c]).map cnD) (-3) = some (cnD a) := at_neg (k := 3) (by decide) (by simp) (by simp)
          have gb : atI ((C0 ++ [a] ++ [b] ++ [c]).map cnD) (-2) = some (cnD b) := at_neg (k := 2) (by decide) (by simp) (by simp)
          have gc : atI ((C0 ++ [a] ++ [b] ++ [c]).map cnD) (-1) = some (cnD c) := at_neg (k := 1) (by decide) (by simp) (by simp)
          have aok := I.cn a (by simp)
          have bok := I.cn b (by simp)
          refine ⟨_, _, penG, ga, _, _, penG, gb, _, _, penG, gc, rfl, a, b, c, rfl, rfl, rfl, ⟨aok.fx.mono (by decide), aok.fy.mono (by decide)⟩, ⟨bok.fx.mono (by decide), bok.fy.mono (by decide)⟩, ⟨cok.fx.mono (by decide), cok.fy.mono (by decide)⟩, ?_⟩
          have xe : (c.1 = Rat.divInt (many * (L.take (k + 1 - 1)).sum) L.sum) := by rw [hcD]; rfl
          have k1 : 1 ≤ k := by omega
          rcases Bool.eq_false_or_eq_true (strB a b c) with st | st
          · refine itt st ?_
            have I2 := I.pop cok (cx k1) st
            refine ⟨rfl, _, C0.length + 1, cnD b, penG, by decide, by decide, ?_, by simp, ?_⟩
            · rw [show ((C0 ++ [a] ++ [b] ++ [c]).map cnD).length = C0.length + 3 by simp]
              exact seqIx_neg2 _
            have eR : ((C0 ++ [a] ++ [b] ++ [c]).map cnD).eraseIdx (C0.length + 1) = (C0 ++ [a] ++ [c]).map cnD := by
              rw [List.append_assoc, List.map_append, List.eraseIdx_append_of_length_le (by simp), List.map_append (l₁ := C0 ++ [a]) (l₂ := [c])]
              simp
            have eP : (pn cs a6 r6 :: (T ++ [(C0 ++ [a] ++ [b] ++ [c]).map cnD])).set (T.length + 1) (((C0 ++ [a] ++ [b] ++ [c]).map cnD).eraseIdx (C0.length + 1)) = pn cs a6 r6 :: (T ++ [(C0 ++ [a] ++ [c]).map cnD]) := by
              rw [eR]; exact penS
            show K _ ((pn cs a6 r6 :: (T ++ [(C0 ++ [a] ++ [b] ++ [c]).map cnD])).set (T.length + 1) (((C0 ++ [a] ++ [b] ++ [c]).map cnD).eraseIdx (C0.length + 1)))
            rw [eP]
            exact hK _ _ ⟨_, c.1, a6, r6, _, rfl, I2, fun _ => xe, by omega, by push_cast; omega, g2, rfl⟩
          · refine itf st ?_
            have I2 := I.add cok cx c0 (fun a' b' _ ha hb => by
              rw [last_two] at ha
              rw [last_at] at hb
              cases ha; cases hb
              exact st)
            have q : K [some (.han 0), some (.int many), some (.int (n : Int)), some (.lst (L.map D.int)), some (.han (T.length + 1)), some (.int (0 + (k : Int)))] (pn cs a6 r6 :: (T ++ [(C0 ++ [a] ++ [b] ++ [c]).map cnD])) := hK _ _ ⟨_, c.1, a6, r6, _, rfl, I2, fun _ => xe, by omega, by push_cast; omega, g2, rfl⟩
            exact q
        · refine itf (decide_eq_false (by rw [CL]; omega)) ?_
          have I2 := I.add cok cx c0 (fun a b h => absurd h h2)
          exact hK _ _ ⟨C ++ [c], c.1, a6, r6, _, rfl, I2, fun _ => by rw [hcD]; rfl, by omega, by push_cast; omega, g2, rfl⟩
      · rintro env M' ⟨C, x, a5, r5, y5, rfl, I, ex, f0, f1, f2, rfl⟩
        rw [rgD_len] at I ex f1
        refine ⟨trivial, ?_⟩
        have i2 := I.two (by omega)
        refine ⟨_, penG, ?_⟩
        have shp : ShapeOk 42 C := ⟨i2, by have := I.len; omega, I.cn, I.inc, I.bent⟩
        have sL := sum_b hL
        refine retP (T := T) (X := [C.map cnD]) (d := .tup (C.map cnD)) (by
          show olds _ (C.map cnD) = true
          exact olds_cn _ C) (hQ C a5 r5 shp I.fst (fun c hc => ?_) (by omega) (by omega) f2)
        rw [I.lst c hc, ex (by omega)]
        rw [List.take_of_length_le (by omega)]
        exact divInt_self_mul (by omega)
/-! ### _law_piece -/
def s_law_piece : WF
  | [.han 0], M, Q, _ => ∃ (cs : List Int) (a r : Int) (T : Me), PenA M cs a r T ∧ a ≤ 800000000 ∧ ∀ (p : Pc) (a' r' : Int), PcOk 42 p → a ≤ a' → a' ≤ a + 1000 → 0 ≤ r' → Q (pcD p) (pn cs a' r' :: T)
  | _, _, _, _ => False
def w_law_piece_t9 : WS := (wRet (wTup (wCons (wVar 4) (wCons (wCall 1 s_law_name (wCons (wVar 0) wNil)) (wCons (wVar 2) (wCons (wVar 1) (wCons (wVar 6) (wCons (wCall 1 s_law_fraction (wCons (wVar 0) wNil)) (wCons (wVar 5) (wCons (wCall 2 s_law_shape (wCons (wVar 0) (wCons (wVar 1) wNil))) wNil))))))))))
def w_law_piece_t8 : WS := (wSeq (wSet 6 (wBin fIx (wFz (wLst (wCons (wC (.str "free")) (wCons (wC (.str "bound")) wNil)))) (wCall 2 s_law_draw (wCons (wVar 0) (wCons (wC (.int 2)) wNil)))))
  (w_law_piece_t9))
def w_law_piece_t7 : WS := (wSeq (wSet 5 (wBin fIx (wFz (wLst (wCons (wVar 5) (wCons (wTup (wCons (wC (.int 1)) (wCons (wC (.int 7)) wNil))) wNil)))) (wCB fInt (wCons (wBin fEq (wBin fIx (wVar 5) (wC (.int 0))) (wC (.int 0))) wNil))))
  (w_law_piece_t8))
def w_law_piece_t6 : WS := (wSeq (wSet 5 (wCall 1 s_law_fraction (wCons (wVar 0) wNil)))
  (w_law_piece_t7))
def w_law_piece_t5 : WS := (wSeq (wSet 4 (wBin fIx (wFz (wLst (wCons (wBin fAdd (wC (.int 1)) (wCall 2 s_law_draw (wCons (wVar 0) (wCons (wC (.int 99999)) wNil)))) (wCons (wC (.int 1)) (wCons (wC (.int 99999)) wNil))))) (wCall 2 s_law_draw (wCons (wVar 0) (wCons (wC (.int 3)) wNil)))))
  (w_law_piece_t6))
def w_law_piece_t4 : WS := (wSeq (wIf (wB (wBin fEq (wVar 3) (wC (.int 1))))
  (wSeq (wPar 2 1 (wCons (wBin fIx (wFz (wLst (wCons (wC (.int 0)) (wCons (wC (.int 99999)) wNil)))) (wCall 2 s_law_draw (wCons (wVar 0) (wCons (wC (.int 2)) wNil)))) (wCons (wBin fIx (wFz (wLst (wCons (wC (.int 100000)) (wCons (wC (.int 1)) wNil)))) (wCall 2 s_law_draw (wCons (wVar 0) (wCons (wC (.int 2)) wNil)))) wNil)))
  (wSet 1 (wCB fMin2 (wCons (wVar 1) (wCons (wBin fSub (wC (.int 100000)) (wVar 2)) wNil)))))
  wNext)
  (w_law_piece_t5))
def w_law_piece_t3 : WS := (wSeq (wIf (wB (wBin fEq (wVar 3) (wC (.int 0))))
  (wSet 2 (wBin fSub (wC (.int 100000)) (wVar 1)))
  wNext)
  (w_law_piece_t4))
def w_law_piece_t2 : WS := (wSeq (wSet 3 (wCall 2 s_law_draw (wCons (wVar 0) (wCons (wC (.int 6)) wNil))))
  (w_law_piece_t3))
def w_law_piece_t1 : WS := (wSeq (wSet 2 (wCall 2 s_law_draw (wCons (wVar 0) (wCons (wC (.int 40)) wNil))))
  (w_law_piece_t2))
def w_law_piece : WS := (wSeq (wSet 1 (wBin fAdd (wC (.int 1)) (wCall 2 s_law_draw (wCons (wVar 0) (wCons (wC (.int 40)) wNil)))))
  (w_law_piece_t1))
theorem pc_t5 {cs : List Int} {a r a1 r1 many at_ : Int} {T : Me} {y3 : Option D} {QD : D → Me → Prop} {ED : EX → Me → Prop} (a0 : 0 ≤ a) (a9 : a ≤ 800000000) (h1 : a ≤ a1) (h2 : a1 ≤ a + 10) (r0 : 0 ≤ r1) (hc : cs.length ≤ 63) (m1 : 1 ≤ many) (t0 : 0 ≤ at_) (mt : at_ + many ≤ 100000)
    (hQ : ∀ (p : Pc) (a' r' : Int), PcOk 42 p → a ≤ a' → a' ≤ a + 1000 → 0 ≤ r' → QD (pcD p) (pn cs a' r' :: T)) :
    w_law_piece_t5 [some (.han 0), some (.int many), some (.int at_), y3, none, none, none] (pn cs a1 r1 :: T) (retE (pn cs a r :: T) QD ED) := by
  refine ⟨rfl, drawP (by omega) (by omega) hc r0 (by decide) (by decide) fun v1 a2 r2 v10 v11 b0 b1 b2 => ?_⟩
  refine ⟨(by show 3 ≤ sizeLine; decide), rfl, drawP (by omega) (by omega) hc b2 (by decide) (by decide) fun v2 a3 r3 v20 v21 c0 c1 c2 => ?_⟩
  obtain ⟨n, en, n1, n2⟩ : ∃ n : Int, atI [D.int (1 + v1), .int 1, .int 99999] v2 = some (.int n) ∧ 1 ≤ n ∧ n ≤ 99999 := by
    rcases (show v2 = 0 ∨ v2 = 1 ∨ v2 = 2 by omega) with rfl | rfl | rfl
    · exact ⟨_, rfl, by omega, by omega⟩
    · exact ⟨_, rfl, by omega, by omega⟩
    · exact ⟨_, rfl, by omega, by omega⟩
  refine ⟨_, _, rfl, en, ?_⟩
  refine ⟨rfl, cs, a3, r3, T, ⟨rfl, by omega, by omega, hc, c2⟩, fun q a4 r4 fq d0 d1 d2 => ?_⟩
  obtain ⟨sp, es, s1, s2⟩ : ∃ sp : Rat, atI [fr q, D.tup [.int 1, .int 7]] (if decide (q.num = 0) = true then 1 else 0) = some (fr sp) ∧ 0 < sp ∧ Fs 42 sp := by
    by_cases e : q.num = 0
    · have e17 : fr (Rat.divInt 1 7) = .tup [.int 1, .int 7] := by
        have n1 : (Rat.divInt 1 7).num = 1 := by decide +kernel
        have d1 : (Rat.divInt 1 7).den = 7 := by decide +kernel
        show D.tup [.int (Rat.divInt 1 7).num, .int ((Rat.divInt 1 7).den : Int)] = _
        rw [n1, d1]; rfl
      exact ⟨Rat.divInt 1 7, by rw [decide_eq_true e, e17]; rfl, by decide +kernel, Fs.low (by decide) (by unfold Sm; decide) (by unfold Sm; decide)⟩
    · have h0 := fq.n
      have h1 : q ≠ 0 := fun z => e (by rw [z]; rfl)
      exact ⟨q, by rw [decide_eq_false e]; rfl, by grind, fq.f⟩
  have s2' : 2 ≤ sizeLine := by decide
  refine ⟨s2', s2', _, _, rfl, rfl, _, _, rfl, es, s2', ?_⟩
  refine ⟨rfl, drawP (by omega) (by omega) hc d2 (by decide) (by decide) fun v5 a5 r5 v50 v51 e0 e1 e2 => ?_⟩
  obtain ⟨bd, ew⟩ : ∃ bd : Bool, atI [D.str "free", .str "bound"] v5 = some (.str (wayS bd)) := by
    rcases (show v5 = 0 ∨ v5 = 1 by omega) with rfl | rfl
    · exact ⟨false, rfl⟩
    · exact ⟨true, rfl⟩
  refine ⟨_, _, rfl, ew, ?_⟩
  refine ⟨rfl, cs, a5, r5, T, ⟨rfl, by omega, by omega, hc, e2⟩, fun x a6 r6 nx f0 f1 f2 => ?_⟩
  refine ⟨rfl, cs, a6, r6, T, ⟨rfl, by omega, by omega, hc, f2⟩, fun st a7 r7 fs g0 g1 g2 => ?_⟩
  refine ⟨rfl, cs, a7, r7, T, ⟨rfl, by omega, by omega, hc, g2⟩, by omega, m1, by omega, fun C a8 r8 hC hf hl h0 h1 h2 => ?_⟩
  refine ⟨(by show 8 ≤ sizeLine; decide), ?_⟩
  exact retP0 (d := pcD ⟨n, x, at_, many, bd, st, sp, C⟩) (by
    show (true && (true && (true && (true && (true && (true && (true && (olds _ (C.map cnD) && true)))))))) = true
    rw [olds_cn]; rfl) (hQ ⟨n, x, at_, many, bd, st, sp, C⟩ a8 r8 ⟨n1, n2, nx, t0, m1, mt, fs.n, fs.f, s1, s2, hC, hf, hl⟩ (by omega) (by omega) h2)
theorem vc_law_piece (ds : List D) (M : Me) (QD : D → Me → Prop) (ED : EX → Me → Prop) (hl : ds.length = 1) (h : s_law_piece ds M QD ED) : w_law_piece (env0 7 ds) M (retE M QD ED) := by
  match ds, h with
  | [.han 0], ⟨cs, a, r, T, ⟨e, a0, a1, hc, r0⟩, a9, hQ⟩ =>
    subst e
    refine ⟨rfl, drawP a0 (by omega) hc r0 (by decide) (by decide) fun v1 a1' r1 v10 v11 b0 b1 b2 => ?_⟩
    refine ⟨rfl, drawP (by omega) (by omega) hc b2 (by decide) (by decide) fun v2 a2' r2 v20 v21 c0 c1 c2 => ?_⟩
    refine ⟨rfl, drawP (by omega) (by omega) hc c2 (by decide) (by decide) fun v3 a3' r3 v30 v31 d0 d1 d2 => ?_⟩
    by_cases e0 : v3 = 0
    · refine itt (decide_eq_true e0) ?_
      refine ⟨trivial, itf (decide_eq_false (by omega)) (next_ ?_)⟩
      exact pc_t5 a0 a9 (by omega) (by omega) d2 hc (by omega) (by omega) (by omega) hQ
    · refine itf (decide_eq_false e0) (next_ ?_)
      by_cases e1 : v3 = 1
      · refine itt (decide_eq_true e1) ?_
        refine ⟨(by show 2 ≤ sizeLine; decide), rfl, drawP (by omega) (by omega) hc d2 (by decide) (by decide) fun v4 a4' r4 v40 v41 f0 f1 f2 => ?_⟩
        obtain ⟨at_, ea, ha⟩ : ∃ at_ : Int, atI [D.int 0, .int 99999] v4 = some (.int at_) ∧ (at_ = 0 ∨ at_ = 99999) := by
          rcases (show v4 = 0 ∨ v4 = 1 by omega) with rfl | rfl
          · exact ⟨_, rfl, .inl rfl⟩
          · exact ⟨_, rfl, .inr rfl⟩
        refine ⟨_, _, rfl, ea, (by show 2 ≤ sizeLine; decide), rfl, drawP (by omega) (by omega) hc f2 (by decide) (by decide) fun v5 a5' r5 v50 v51 g0 g1 g2 => ?_⟩
        obtain ⟨many, em, hm⟩ : ∃ many : Int, atI [D.int 100000, .int 1] v5 = some (.int many) ∧ (many = 100000 ∨ many = 1) := by
          rcases (show v5 = 0 ∨ v5 = 1 by omega) with rfl | rfl
          · exact ⟨_, rfl, .inl rfl⟩
          · exact ⟨_, rfl, .inr rfl⟩
        refine ⟨_, _, rfl, em, ?_⟩
        refine ⟨trivial, ?_⟩
        refine pc_t5 (many := if 100000 - at_ < many then 100000 - at_ else many) (at_ := at_) a0 a9 (by omega) (by omega) g2 hc ?_ (by omega) ?_ hQ
        · split <;> omega
        · split <;> omega
      · refine itf (decide_eq_false e1) (next_ ?_)
        exact pc_t5 a0 a9 (by omega) (by omega) d2 hc (by omega) (by omega) (by omega) hQ
/-! ### _law_other -/
theorem cps_app (x y : Str) : (x ++ y).cps.toList = x.cps.toList ++ y.cps.toList := by
  show (x.cps ++ y.cps).toList = _
  rw [Array.toList_append]
theorem pen_get {cs : List Int} {a r : Int} {T : Me} {l : List D} : (pn cs a r :: (T ++ [l]))[T.length + 1]? = some l := by
  show (T ++ [l])[T.length]? = some l
  exact last_get
theorem pen_set {cs : List Int} {a r : Int} {T : Me} {l l' : List D} : (pn cs a r :: (T ++ [l])).set (T.length + 1) l' = pn cs a r :: (T ++ [l']) := by
  show pn cs a r :: (T ++ [l]).set T.length l' = _
  rw [last_set]
theorem retQ_pen {cs : List Int} {a r a' r' : Int} {T X : Me} {QD : D → Me → Prop} {d : D} (ho : old (T.length + 1) d = true) (h : QD d (pn cs a' r' :: T)) : retQ (pn cs a r :: T) QD d (pn cs a' r' :: (T ++ X)) := by
  refine ⟨fun j ds hj e => ?_, .inl ⟨ho, ?_⟩⟩
  · cases j with
    | zero => cases e; exact .inr (olds_pn _ _ _ _)
    | succ j =>
      have hj : j < T.length := by simpa using hj
      have e : (T ++ X)[j]? = some ds := e
      rw [List.getElem?_append_left hj] at e
      exact .inl e
  · show QD d (pn cs a' r' :: (T ++ X).take T.length)
    rw [List.take_left]
    exact h
mutual
/-- a measure of a thing's text -/
def wt : D → Nat
  | .non => 4
  | .bl _ => 5
  | .int _ => 1921
  | .str x => 10 * x.length + 10
  | .tup l => 4 + wts l
  | .lst l => 4 + wts l
  | .dct _ _ => 3
  | _ => 0
def wts : List D → Nat
  | [] => 0
  | d :: l => wt d + 2 + wts l
end
mutual
/-- a thing's depth -/
def dp : D → Nat
  | .tup l => 1 + dps l
  | .lst l => 1 + dps l
  | _ => 1
def dps : List D → Nat
  | [] => 0
  | d :: l => max (dp d) (dps l)
end
theorem wts_app : ∀ a b : List D, wts (a ++ b) = wts a + wts b
  | [], b => by simp [wts]
  | x :: a, b => by rw [List.cons_append, wts, wts, wts_app a b]; omega
theorem dps_app : ∀ a b : List D, dps (a ++ b) = max (dps a) (dps b)
  | [], b => by simp [dps]
  | x :: a, b => by rw [List.cons_append, dps, dps, dps_app a b]; omega
theorem wts_cut (l : List D) (lo hi : Option Int) : wts (DL.cutD l lo hi) ≤ wts l := by
  unfold DL.cutD
  generalize HT.sIx l.length 0 lo = i
  have h1 := wts_app (l.take i) (l.drop i)
  rw [List.take_append_drop] at h1
  have h2 : ∀ (k : Nat) (m : List D), wts (m.take k) ≤ wts m := fun k m => by
    have := wts_app (m.take k) (m.drop k)
    rw [List.take_append_drop] at this
    omega
  exact Nat.le_trans (h2 _ _) (by omega)
theorem dps_cut (l : List D) (lo hi : Option Int) : dps (DL.cutD l lo hi) ≤ dps l := by
  unfold DL.cutD
  generalize HT.sIx l.length 0 lo = i
  have h1 := dps_app (l.take i) (l.drop i)
  rw [List.take_append_drop] at h1
  have h2 : ∀ (k : Nat) (m : List D), dps (m.take k) ≤ dps m := fun k m => by
    have := dps_app (m.take k) (m.drop k)
    rw [List.take_append_drop] at this
    omega
  exact Nat.le_trans (h2 _ _) (by omega)
theorem wts_rev : ∀ l : List D, wts l.reverse = wts l
  | [] => rfl
  | x :: l => by rw [List.reverse_cons, wts_app, wts_rev l]; simp only [wts]; omega
theorem dps_rev : ∀ l : List D, dps l.reverse = dps l
  | [] => rfl
  | x :: l => by rw [List.reverse_cons, dps_app, dps_rev l]; simp only [dps]; omega
/-- plain data that was put otherwise m times -/
inductive Pq (m : Nat) : D → Prop
  | non : Pq m .non
  | bl (b : Bool) : Pq m (.bl b)
  | int {i : Int} : Sm (100 + 2 * m) i → Pq m (.int i)
  | str {x : Str} : x.length ≤ 2001 * 3 ^ m → (∀ c ∈ x.cps.toList, c < 16 ^ 8) → Pq m (.str x)
  | tup {l : List D} : (∀ d ∈ l, Pq m d) → l.length ≤ 210 + m → Pq m (.tup l)
  | lst {l : List D} : (∀ d ∈ l, Pq m d) → l.length ≤ 210 + m → Pq m (.lst l)
  | dct : Pq m (.dct [] [])
theorem p3_le {m k : Nat} (h : m ≤ k) : 2001 * 3 ^ m ≤ 2001 * 3 ^ k := Nat.mul_le_mul (Nat.le_refl _) (Nat.pow_le_pow_right (by decide) h)
theorem p3_succ (m : Nat) : 2001 * 3 ^ (m + 1) = 3 * (2001 * 3 ^ m) := by rw [Nat.pow_succ]; omega
theorem p3_pos (m : Nat) : 2001 ≤ 2001 * 3 ^ m := p3_le (Nat.zero_le m)
theorem Pq.ps {m : Nat} (hm : m ≤ 5) {d : D} (h : Pq m d) : Ps d := by
  induction h with
  | non => exact .non
  | bl b => exact .bl b
  | int h => exact .int (h.mono (by omega))
  | str h _ => exact .str (Nat.le_trans h (Nat.le_trans (p3_le hm) (by decide)))
  | tup h1 h2 ih => exact .tup ih (by omega)
  | lst h1 h2 ih => exact .lst ih
  | dct => exact .dct
theorem Pq.mono {m k : Nat} (hm : m ≤ k) {d : D} (h : Pq m d) : Pq k d := by
  induction h with
  | non => exact .non
  | bl b => exact .bl b
  | int h => exact .int (h.mono (by omega))
  | str h h2 => exact .str (Nat.le_trans h (p3_le hm)) h2
  | tup h1 h2 ih => exact .tup ih (by omega)
  | lst h1 h2 ih => exact .lst ih (by omega)
  | dct => exact .dct
theorem rps_of {n : Nat} : ∀ {l : List D}, (∀ d ∈ l, Rp (dp d) (wt d) d) → dps l ≤ n → Rps n (wts l) l
  | [], _, _ => Rps.nil n
  | d :: l, h, hn => by
    rw [dps] at hn
    exact Rps.cons ((h d List.mem_cons_self).mono (by omega) (Nat.le_refl _)) (rps_of (fun x hx => h x (List.mem_cons_of_mem _ hx)) (by omega))
theorem Rp.lstS {n w : Nat} {l : List D} (h : Rps n w l) : Rp (n + 1) (4 + w) (.lst l) := by
  obtain ⟨ps, a, b, c, e⟩ := h
  exact ⟨.list ps, by simp [pyR, a], by simpa [PyData.showable] using b, by simp [PyData.depth]; omega, by simp only [bnd]; omega⟩
theorem Pq.rp {m : Nat} (hm : m ≤ 5) {d : D} (h : Pq m d) : Rp (dp d) (wt d) d := by
  induction h with
  | non => exact Rp.non
  | bl b => exact Rp.bl b
  | int h => exact Rp.int (h.mono (by omega))
  | str h h2 => exact (Rp.str _).mono (Nat.le_refl _) (by have := StrLaws.reprText_len _ h2; simp only [wt]; omega)
  | @tup l h1 h2 ih => exact (Rp.tupS (rps_of ih (Nat.le_refl _))).mono (by simp only [dp]; omega) (by simp only [wt]; omega)
  | @lst l h1 h2 ih => exact (Rp.lstS (rps_of ih (Nat.le_refl _))).mono (by simp only [dp]; omega) (by simp only [wt]; omega)
  | dct => exact Rp.dct0
theorem Pq.all {m : Nat} {l : List D} (h : Pq m (.tup l)) : ∀ d ∈ l, Pq m d := by cases h; assumption
theorem Pq.len {m : Nat} {l : List D} (h : Pq m (.tup l)) : l.length ≤ 210 + m := by cases h; assumption
theorem Pq.sm {m : Nat} {i : Int} (h : Pq m (.int i)) : Sm (100 + 2 * m) i := by cases h; assumption
theorem cut_len_to (l : List D) (k : Nat) : (DL.cutD l none (some (k : Int))).length ≤ k := by
  unfold DL.cutD
  rw [HT.sIx_nat, List.length_take]
  omega
theorem cut_len_from (l : List D) (k : Nat) : (DL.cutD l (some (k : Int)) none).length ≤ l.length - k := by
  unfold DL.cutD
  rw [HT.sIx_nat, List.length_take, List.length_drop]
  omega
theorem cut_len_from1 (l : List D) (k : Nat) : (DL.cutD l (some ((k : Int) + 1)) none).length ≤ l.length - (k + 1) := cut_len_from l (k + 1)
theorem cut_len_mid (l : List D) (k : Nat) : (DL.cutD l (some (k : Int)) (some ((k : Int) + 1))).length ≤ 1 := by
  unfold DL.cutD
  rw [show (k : Int) + 1 = ((k + 1 : Nat) : Int) by omega, HT.sIx_nat, HT.sIx_nat, List.length_take]
  omega
theorem len_two {α : Type} {l : List α} (h : l.length = 2) : ∃ x y, l = [x, y] := by
  match l, h with
  | [x, y], _ => exact ⟨x, y, rfl⟩
theorem ne_live {n h : Nat} {M : Me} {L : List D} {Q : D → Me → Prop} (hg : M[h]? = some L) (hx : noB n (.lst L) = true) (q : ∀ b, (b = false ↔ L = []) → Q (.bl b) M) (hn : n ≤ 60 := by decide) : fNe (.han h) (.lst []) M Q := by
  obtain ⟨p, e, c, d, v⟩ := dep_py (noB_dep hx)
  refine ⟨p, .list [], ?_, rfl, shaped_of c d hn, rfl, ?_⟩
  · show (M[h]?).bind _ = _
    rw [hg]; exact e
  · refine q (!PyData.eqv p (.list [])) ?_
    have := eqv_iff hx (show noB 1 (.lst []) = true from rfl) e rfl
    rw [D.lst.injEq] at this
    rw [← this]
    simp
theorem cps_cat {x y : Str} (hx : ∀ c ∈ x.cps.toList, c < 16 ^ 8) (hy : ∀ c ∈ y.cps.toList, c < 16 ^ 8) : ∀ c ∈ (x ++ y).cps.toList, c < 16 ^ 8 := fun c hc => by
  rw [cps_app] at hc
  exact (List.mem_append.mp hc).elim (hx c) (hy c)
theorem cps_cut {x : Str} (hx : ∀ c ∈ x.cps.toList, c < 16 ^ 8) (lo hi : Option Int) : ∀ c ∈ (cutS x lo hi).cps.toList, c < 16 ^ 8 := fun c hc => by
  have hc : c ∈ ((x.cps.toList.drop (HT.sIx x.length 0 lo)).take (HT.sIx x.length x.length hi - HT.sIx x.length 0 lo)) := hc
  exact hx c (List.mem_of_mem_drop (List.mem_of_mem_take hc))
/-- a whole number or a truth of such a worth -/
structure IB (m : Nat) (p : D) (v : Int) : Prop where
  ht : hasT p = true
  is : isT .int p = true
  mul : ∀ (M : Me) (Q : D → Me → Prop), Q (.int (3 * v)) M → fMulB (.int 3) p M Q
  sub : ∀ (M : Me) (Q : D → Me → Prop), Q (.int (0 - v)) M → fSubB (.int 0) p M Q
  sm : v.natAbs < 2 ^ (100 + 2 * m)
  wd : wt p ≤ 1921 ∧ dp p ≤ 1
theorem pq_ib {m : Nat} {p : D} (hm : m ≤ 3) (h : Pq m p) : (∃ v, IB m p v) ∨ (hasT p = true ∧ isT .int p = false) := by
  cases h with
  | @int i hi =>
    have t3 : Sm 4 3 := by unfold Sm; decide
    exact .inl ⟨i, rfl, rfl, fun M Q q => ⟨t3.mok hi (by omega), q⟩, fun M Q q => ⟨trivial, q⟩, hi, by simp only [wt]; omega, by simp only [dp]; omega⟩
  | bl b => exact .inl ⟨bI b, rfl, rfl, fun M Q q => q, fun M Q q => q, by
      have : (bI b).natAbs ≤ 1 := by cases b <;> decide
      exact Nat.lt_of_le_of_lt this (Nat.one_lt_two_pow (by omega)), by simp only [wt]; omega, by simp only [dp]; omega⟩
  | _ => exact .inr ⟨rfl, rfl⟩
/-- what a thing may be put to -/
def GdO (m : Nat) (d e : D) : Prop := Pq (m + 1) e ∧ wt e ≤ 2 * wt d + 60000 ∧ dp e ≤ dp d + 1
def s_law_other : WF
  | [.han 0, d], M, Q, _ => ∃ (cs : List Int) (a r : Int) (T : Me) (m : Nat), PenA M cs a r T ∧ m ≤ 3 ∧ Pq m d ∧ ∀ (e : D) (a' r' : Int), Pq (m + 1) e → wt e ≤ 2 * wt d + 60000 → dp e ≤ dp d + 1 → a ≤ a' → a' ≤ a + 10 → 0 ≤ r' → Q e (pn cs a' r' :: T)
  | _, _, _, _ => False
def w_law_other : WS := (wSeq (wSet 2 (wCall 2 s_law_draw (wCons (wVar 0) (wCons (wC (.int 8)) wNil))))
  (wSeq (wIf (wB (wBin fEq (wVar 2) (wC (.int 0))))
  (wRet (wBin fIx (wFz (wLst (wCons (wC .non) (wCons (wC (.bl true)) (wCons (wTup wNil) (wCons (wC (.str "")) (wCons (wFz (wLst (wCons (wVar 1) wNil))) (wCons wDct0 (wCons (wBin fPow (wC (.int 10)) (wC (.int 30))) (wCons (wNeg (wC (.int 1))) wNil)))))))))) (wCall 2 s_law_draw (wCons (wVar 0) (wCons (wC (.int 8)) wNil)))))
  wNext)
  (wSeq (wIf (wTr (wIsi .tuple (wVar 1)))
  (wSeq (wSet 3 (wCall 2 s_law_draw (wCons (wVar 0) (wCons (wBin fAddB (wCB fLen (wCons (wVar 1) wNil)) (wC (.int 1))) wNil))))
  (wSeq (wSet 4 (wFz (wLst (wCons (wBin fAddB (wSl (wVar 1) wNo (wPart (wVar 3))) (wSl (wVar 1) (wPart (wBin fAddB (wVar 3) (wC (.int 1)))) wNo)) (wCons (wBin fAddB (wBin fAddB (wSl (wVar 1) wNo (wPart (wVar 3))) (wSl (wVar 1) (wPart (wVar 3)) (wPart (wBin fAddB (wVar 3) (wC (.int 1)))))) (wSl (wVar 1) (wPart (wVar 3)) wNo)) (wCons (wRevT (wVar 1)) (wCons (wFz (wCBF fList (wCons (wVar 1) wNil))) wNil)))))))
  (wSeq (wSet 4 (wFz (wBinF fCat (wVar 4) (wFz (wLst (wCons (wBin fAddB (wVar 1) (wTup (wCons (wC (.int 0)) wNil))) wNil))))))
  (wSeq (wIf (wAndT (wB (wBin fEq (wCB fLen (wCons (wVar 1) wNil)) (wC (.int 2)))) (wAndT (wTr (wIsi .int (wBin fIx (wVar 1) (wC (.int 0))))) (wTr (wIsi .int (wBin fIx (wVar 1) (wC (.int 1)))))))
  (wSet 4 (wFz (wBinF fCat (wVar 4) (wFz (wLst (wCons (wTup (wCons (wBin fMulB (wC (.int 3)) (wBin fIx (wVar 1) (wC (.int 0)))) (wCons (wBin fMulB (wC (.int 3)) (wBin fIx (wVar 1) (wC (.int 1)))) wNil))) (wCons (wTup (wCons (wBin fSubB (wC (.int 0)) (wBin fIx (wVar 1) (wC (.int 0)))) (wCons (wBin fIx (wVar 1) (wC (.int 1))) wNil))) (wCons (wTup (wCons (wBin fSubB (wC (.int 0)) (wBin fIx (wVar 1) (wC (.int 0)))) (wCons (wBin fSubB (wC (.int 0)) (wBin fIx (wVar 1) (wC (.int 1)))) wNil))) wNil))))))))
  wNext)
  (wRet (wBin fIx (wVar 4) (wCall 2 s_law_draw (wCons (wVar 0) (wCons (wCB fLen (wCons (wVar 4) wNil)) wNil)))))))))
  wNext)
  (wSeq (wIf (wTr (wIsi .str (wVar 1)))
  (wSeq (wSet 3 (wCall 2 s_law_draw (wCons (wVar 0) (wCons (wBin fAddB (wCB fLen (wCons (wVar 1) wNil)) (wC (.int 1))) wNil))))
  (wSeq (wSet 5 (wC (.str " !#$&'()*+,-./0123456789:;<=>?@ABCZ[]^_abcdefghijklmnopqrstuvwxyz{|}~\n")))
  (wSeq (wSet 6 (wBin fIx (wVar 5) (wCall 2 s_law_draw (wCons (wVar 0) (wCons (wC (.int 70)) wNil)))))
  (wRet (wBin fAddB (wBin fAddB (wSl (wVar 1) wNo (wPart (wVar 3))) (wBin fIx (wFz (wLst (wCons (wC (.str "")) (wCons (wVar 6) wNil)))) (wCall 2 s_law_draw (wCons (wVar 0) (wCons (wC (.int 2)) wNil))))) (wSl (wVar 1) (wPart (wBin fAddB (wVar 3) (wCall 2 s_law_draw (wCons (wVar 0) (wCons (wC (.int 2)) wNil))))) wNo))))))
  wNext)
  (wSeq (wIf (wTr (wIsi .int (wVar 1)))
  (wSeq (wSet 4 (wFz (wLst (wCons (wBin fAddB (wVar 1) (wC (.int 1))) (wCons (wBin fSubB (wVar 1) (wC (.int 1))) (wCons (wBin fSubB (wC (.int 0)) (wVar 1)) (wCons (wC (.int 0)) (wCons (wC (.int 100000)) (wCons (wC (.int 100001)) (wCons (wNeg (wC (.int 100001))) (wCons (wCB fStrB (wCons (wVar 1) wNil)) (wCons (wBin fGtL (wVar 1) (wC (.int 0))) (wCons (wC (.int 99999)) wNil)))))))))))))
  (wRet (wBin fIx (wFz (wBinF fCat (wVar 4) (wFz (wLst (wCons (wBin fMulB (wVar 1) (wC (.int 2))) wNil))))) (wCall 2 s_law_draw (wCons (wVar 0) (wCons (wC (.int 11)) wNil))))))
  wNext)
  (wRet (wC (.int 0))))))))
theorem vc_law_other (ds : List D) (M : Me) (QD : D → Me → Prop) (ED : EX → Me → Prop) (hl : ds.length = 2) (h : s_law_other ds M QD ED) : w_law_other (env0 7 ds) M (retE M QD ED) := by
  match ds, h with
  | [.han 0, d], ⟨cs, a, r, T, m, ⟨e, a0, a1, hc, r0⟩, hm, pd, hQ⟩ =>
    subst e
    have fin : ∀ (e : D) (a' r' : Int), Pq (m + 1) e → wt e ≤ 2 * wt d + 60000 → dp e ≤ dp d + 1 → a ≤ a' → a' ≤ a + 10 → 0 ≤ r' → retQ (pn cs a r :: T) QD e (pn cs a' r' :: T) := fun e a' r' pe w1 w2 h1 h2 h3 => retP0 ((pe.ps (by omega)).pl.old _) (hQ e a' r' pe w1 w2 h1 h2 h3)
    have sB : ∀ i : Int, i.natAbs < 2 ^ 100 → Pq (m + 1) (.int i) := fun i hi => .int ((show Sm 100 i from hi).mono (by omega))
    have sz : ∀ n : Nat, n ≤ 200000 → n ≤ sizeLine := fun n hn => Nat.le_trans hn (by decide)
    have d1 : 1 ≤ dp d := by cases d <;> simp only [dp] <;> omega
    refine ⟨rfl, drawP a0 (by omega) hc r0 (by decide) (by decide) fun v1 b1 q1 v10 v11 c1 c2 c3 => ?_⟩
    by_cases e1 : v1 = 0
    · refine itt (decide_eq_true e1) ?_
      refine ⟨(by show 0 ≤ sizeLine; decide), (by show 1 ≤ sizeLine; decide), (by decide), (by show 8 ≤ sizeLine; decide), rfl, drawP (by omega) (by omega) hc c3 (by decide) (by decide) fun v2 b2 q2 v20 v21 d1 d2 d3 => ?_⟩
      obtain ⟨x, ex, mx⟩ := mem_at (L := [D.non, .bl true, .tup [], .str "", .lst [d], .dct [] [], .int (10 ^ 30), .int (-1)]) v20 v21
      refine ⟨_, _, rfl, ex, ?_⟩
      simp only [List.mem_cons, List.not_mem_nil, or_false] at mx
      rcases mx with rfl | rfl | rfl | rfl | rfl | rfl | rfl | rfl
      · exact fin _ b2 q2 .non (by simp only [wt]; omega) (by simp only [dp]; omega) (by omega) (by omega) d3
      · exact fin _ b2 q2 (.bl _) (by simp only [wt]; omega) (by simp only [dp]; omega) (by omega) (by omega) d3
      · exact fin _ b2 q2 (.tup (fun _ h => nomatch h) (by simp)) (by simp only [wt, wts]; omega) (by simp only [dp, dps]; omega) (by omega) (by omega) d3
      · exact fin _ b2 q2 (.str (Nat.zero_le _) (fun c hc => nomatch hc)) (by show 10 * 0 + 10 ≤ _; omega) (by simp only [dp]; omega) (by omega) (by omega) d3
      · exact fin _ b2 q2 (.lst (fun y hy => by rw [List.mem_singleton.mp hy]; exact pd.mono (by omega)) (by rw [List.length_singleton]; omega)) (by simp only [wt, wts]; omega) (by simp only [dp, dps]; omega) (by omega) (by omega) d3
      · exact fin _ b2 q2 .dct (by simp only [wt]; omega) (by simp only [dp]; omega) (by omega) (by omega) d3
      · exact fin _ b2 q2 (sB _ (by decide)) (by simp only [wt]; omega) (by simp only [dp]; omega) (by omega) (by omega) d3
      · exact fin _ b2 q2 (sB _ (by decide)) (by simp only [wt]; omega) (by simp only [dp]; omega) (by omega) (by omega) d3
    · refine itf (decide_eq_false e1) ?_
      cases pd with
      | non => exact ⟨rfl, rfl, rfl, fin (.int 0) b1 q1 (sB _ (by decide)) (by simp only [wt]; omega) (by simp only [dp]; omega) (by omega) (by omega) c3⟩
      | dct => exact ⟨rfl, rfl, rfl, fin (.int 0) b1 q1 (sB _ (by decide)) (by simp only [wt]; omega) (by simp only [dp]; omega) (by omega) (by omega) c3⟩
      | lst h1 h2 => exact ⟨rfl, rfl, rfl, fin (.int 0) b1 q1 (sB _ (by decide)) (by simp only [wt]; omega) (by simp only [dp]; omega) (by omega) (by omega) c3⟩
      | bl b =>
        refine ⟨rfl, rfl, rfl, ?_⟩
        refine ⟨(by show 10 ≤ sizeLine; decide), (by show 1 ≤ sizeLine; decide), _, _, rfl, rfl, (by show 11 ≤ sizeLine; decide), rfl, drawP (by omega) (by omega) hc c3 (by decide) (by decide) fun v2 b2 q2 v20 v21 d1 d2 d3 => ?_⟩
        obtain ⟨y, ey, my⟩ := mem_at (L := [D.int (bI b + 1), .int (bI b - 1), .int (0 - bI b), .int 0, .int 100000, .int 100001, .int (-100001), .str (if b then "True" else "False"), .bl (decide (0 < bI b)), .int 99999] ++ [D.int (bI b * 2)]) v20 (show v2 < ((10 + 1 : Nat) : Int) from v21)
        refine ⟨_, _, rfl, ey, ?_⟩
        have nb : (bI b).natAbs ≤ 1 := by cases b <;> decide
        have ni : ∀ j : Int, j.natAbs ≤ 200000 → retQ (pn cs a r :: T) QD (.int j) (pn cs b2 q2 :: T) := fun j hj => fin (.int j) b2 q2 (sB _ (Nat.lt_of_le_of_lt hj (by decide))) (by simp only [wt]; omega) (by simp only [dp]; omega) (by omega) (by omega) d3
        simp only [List.cons_append, List.nil_append, List.mem_cons, List.not_mem_nil, or_false] at my
        rcases my with rfl | rfl | rfl | rfl | rfl | rfl | rfl | rfl | rfl | rfl | rfl
        · exact ni _ (by omega)
        · exact ni _ (by omega)
        · exact ni _ (by omega)
        · exact ni _ (by omega)
        · exact ni _ (by omega)
        · exact ni _ (by omega)
        · exact ni _ (by omega)
        · refine fin _ b2 q2 (.str ?_ ?_) ?_ (by simp only [dp]; omega) (by omega) (by omega) d3
          · have := p3_pos (m + 1)
            cases b <;> exact Nat.le_trans (show _ ≤ 5 by decide) (by omega)
          · cases b <;> decide +kernel
          · have : (if b = true then ("True" : Str) else "False").length ≤ 5 := by cases b <;> decide
            simp only [wt]; omega
        · exact fin _ b2 q2 (.bl _) (by simp only [wt]; omega) (by simp only [dp]; omega) (by omega) (by omega) d3
        · exact ni _ (by omega)
        · exact ni _ (by omega)
      | @tup l h1 h2 =>
        have pa : ∀ y ∈ l, Pq (m + 1) y := fun y hy => (h1 y hy).mono (by omega)
        refine ⟨rfl, _, rfl, rfl, drawP (by omega) (by omega) hc c3 (by omega) (by omega) fun v2 b2 q2 v20 v21 d1 d2 d3 => ?_⟩
        obtain ⟨k, rfl⟩ : ∃ k : Nat, v2 = (k : Int) := ⟨v2.toNat, by omega⟩
        have t1 := cut_len_to l k
        have t2 := cut_len_from l k
        have t3 := cut_len_from1 l k
        have t4 := cut_len_mid l k
        have hk : k ≤ l.length := by omega
        have one : 1 ≤ sizeLine := by decide
        refine ⟨sz _ (by omega), sz _ (by omega), sz _ (by rw [List.length_append]; omega), _, rfl, ?_⟩
        refine ⟨(by show 4 ≤ sizeLine; decide), one, sz _ (by rw [List.length_singleton]; omega), one, _, _, rfl, rfl, (by show 5 ≤ sizeLine; decide), ?_⟩
        have fin2 : ∀ (L : List D) (y4 y5 : Option D) (DD : EndD), DD.rt = retQ (pn cs a r :: T) QD → (∀ y ∈ L, GdO m (.tup l) y) → 1 ≤ L.length → L.length ≤ 8 → wRet (wBin fIx (wVar 4) (wCall 2 s_law_draw (wCons (wVar 0) (wCons (wCB fLen (wCons (wVar 4) wNil)) wNil)))) [some (.han 0), some (.tup l), some (.int v1), some (.int (k : Int)), some (.lst L), y4, y5] (pn cs b2 q2 :: T) DD := by
          intro L y4 y5 DD eD hL L1 L8
          refine ⟨_, rfl, rfl, drawP (by omega) (by omega) hc d3 (by omega) (by omega) fun v3 b3 q3 v30 v31 f1 f2 f3 => ?_⟩
          obtain ⟨x, ex, mx⟩ := mem_at (L := L) v30 v31
          refine ⟨_, _, rfl, ex, ?_⟩
          rw [eD]
          obtain ⟨g1, g2, g3⟩ := hL x mx
          exact fin x b3 q3 g1 g2 g3 (by omega) (by omega) f3
        have wl : wt (.tup l) = 4 + wts l := by simp only [wt]
        have dl : dp (.tup l) = 1 + dps l := by simp only [dp]
        have five : ∀ y ∈ [D.tup (DL.cutD l none (some (k : Int)) ++ DL.cutD l (some ((k : Int) + 1)) none), .tup (DL.cutD l none (some (k : Int)) ++ DL.cutD l (some (k : Int)) (some ((k : Int) + 1)) ++ DL.cutD l (some (k : Int)) none), .tup l.reverse, .lst l, .tup (l ++ [.int 0])], GdO m (.tup l) y := by
          intro y hy
          have sub : ∀ lo hi, ∀ z ∈ DL.cutD l lo hi, Pq (m + 1) z := fun lo hi z hz => pa z (DL.cut_mem hz)
          have c1 := wts_cut l none (some (k : Int))
          have c2 := wts_cut l (some ((k : Int) + 1)) none
          have c3 := wts_cut l (some (k : Int)) (some ((k : Int) + 1))
          have g1 := dps_cut l none (some (k : Int))
          have g2 := dps_cut l (some ((k : Int) + 1)) none
          have g3 := dps_cut l (some (k : Int)) (some ((k : Int) + 1))
          have g4 := dps_cut l (some (k : Int)) none
          have c4 : wts (DL.cutD l none (some (k : Int))) + wts (DL.cutD l (some (k : Int)) none) = wts l := by
            rw [cut_to l k hk, cut_from l k hk, ← wts_app, List.take_append_drop]
          simp only [List.mem_cons, List.not_mem_nil, or_false] at hy
          unfold GdO
          rw [wl, dl]
          rcases hy with rfl | rfl | rfl | rfl | rfl
          · exact ⟨.tup (fun z hz => (List.mem_append.mp hz).elim (sub _ _ z) (sub _ _ z)) (by rw [List.length_append]; omega), by simp only [wt]; rw [wts_app]; omega, by simp only [dp]; rw [dps_app]; omega⟩
          · exact ⟨.tup (fun z hz => (List.mem_append.mp hz).elim (fun w => (List.mem_append.mp w).elim (sub _ _ z) (sub _ _ z)) (sub _ _ z)) (by rw [List.length_append, List.length_append]; omega), by simp only [wt]; rw [wts_app, wts_app]; omega, by simp only [dp]; rw [dps_app, dps_app]; omega⟩
          · exact ⟨.tup (fun z hz => pa z (List.mem_reverse.mp hz)) (by rw [List.length_reverse]; omega), by simp only [wt]; rw [wts_rev]; omega, by simp only [dp]; rw [dps_rev]; omega⟩
          · exact ⟨.lst pa (by omega), by simp only [wt]; omega, by simp only [dp]; omega⟩
          · exact ⟨.tup (fun z hz => (List.mem_append.mp hz).elim (pa z) fun w => by rw [List.mem_singleton.mp w]; exact sB _ (by decide)) (by rw [List.length_append, List.length_singleton]; omega), by simp only [wt]; rw [wts_app]; simp only [wts, wt]; omega, by simp only [dp]; rw [dps_app]; simp only [dps, dp]; omega⟩
        have f5 : ∀ DD : EndD, DD.rt = retQ (pn cs a r :: T) QD → _ := fun DD eD => fin2 _ none none DD eD five (show 1 ≤ 5 by decide) (show 5 ≤ 8 by decide)
        by_cases e2 : (l.length : Int) = 2
        · refine ⟨_, rfl, itt (decide_eq_true e2) ?_⟩
          obtain ⟨p, q, rfl⟩ := len_two (l := l) (by omega)
          rcases pq_ib hm (h1 p List.mem_cons_self) with ⟨ip, hp⟩ | ⟨hp, np⟩
          · rcases pq_ib hm (h1 q (List.mem_cons_of_mem _ List.mem_cons_self)) with ⟨iq, hq⟩ | ⟨hq, nq⟩
            · refine ⟨_, _, rfl, rfl, hp.ht, itt hp.is ⟨_, _, rfl, rfl, hq.ht, itt hq.is ?_⟩⟩
              have two : 2 ≤ sizeLine := by decide
              refine ⟨_, _, rfl, rfl, hp.mul _ _ ⟨_, _, rfl, rfl, hq.mul _ _ ⟨two, ?_⟩⟩⟩
              refine ⟨_, _, rfl, rfl, hp.sub _ _ ⟨_, _, rfl, rfl, two, ?_⟩⟩
              refine ⟨_, _, rfl, rfl, hp.sub _ _ ⟨_, _, rfl, rfl, hq.sub _ _ ⟨two, (by show 3 ≤ sizeLine; decide), _, _, rfl, rfl, (by show 8 ≤ sizeLine; decide), ?_⟩⟩⟩
              refine fin2 _ none none _ rfl (fun y hy => ?_) (show 1 ≤ 8 by decide) (show 8 ≤ 8 by decide)
              rcases List.mem_append.mp hy with z | z
              · exact five y z
              · simp only [List.mem_cons, List.not_mem_nil, or_false] at z
                have s3 : ∀ j : Int, j.natAbs ≤ 3 * ip.natAbs ∨ j.natAbs ≤ 3 * iq.natAbs → Pq (m + 1) (.int j) := fun j hj => .int (by
                  show j.natAbs < 2 ^ (100 + 2 * (m + 1))
                  have e1 : 2 ^ (100 + 2 * (m + 1)) = 4 * 2 ^ (100 + 2 * m) := by rw [show 100 + 2 * (m + 1) = (100 + 2 * m) + 2 by omega, Nat.pow_add]; omega
                  have := hp.sm
                  have := hq.sm
                  omega)
                have two' : ∀ u v : D, Pq (m + 1) u → Pq (m + 1) v → wt u ≤ 1921 → wt v ≤ 1921 → dp u ≤ 1 → dp v ≤ 1 → GdO m (.tup [p, q]) (.tup [u, v]) := fun u v hu hv w1 w2 d1 d2 => ⟨.tup (fun w hw => by
                  simp only [List.mem_cons, List.not_mem_nil, or_false] at hw
                  rcases hw with rfl | rfl
                  · exact hu
                  · exact hv) (show 2 ≤ 210 + (m + 1) by omega), by simp only [wt, wts]; omega, by simp only [dp, dps]; omega⟩
                have wq : wt q ≤ 1921 ∧ dp q ≤ 1 := hq.wd
                rcases z with rfl | rfl | rfl
                · exact two' _ _ (s3 _ (by omega)) (s3 _ (by omega)) (by simp only [wt]; omega) (by simp only [wt]; omega) (by simp only [dp]; omega) (by simp only [dp]; omega)
                · exact two' _ _ (s3 _ (by omega)) ((h1 q (List.mem_cons_of_mem _ List.mem_cons_self)).mono (by omega)) (by simp only [wt]; omega) wq.1 (by simp only [dp]; omega) wq.2
                · exact two' _ _ (s3 _ (by omega)) (s3 _ (by omega)) (by simp only [wt]; omega) (by simp only [wt]; omega) (by simp only [dp]; omega) (by simp only [dp]; omega)
            · exact ⟨_, _, rfl, rfl, hp.ht, itt hp.is ⟨_, _, rfl, rfl, hq, itf nq (f5 _ rfl)⟩⟩
          · exact ⟨_, _, rfl, rfl, hp, itf np (f5 _ rfl)⟩
        · exact ⟨_, rfl, itf (decide_eq_false e2) (f5 _ rfl)⟩
      | @str x hx hcs =>
        have p3 : 2001 * 3 ^ m ≤ 54027 := p3_le hm
        have p4 := p3_pos m
        refine ⟨rfl, rfl, Nat.le_trans hx (sz _ (by omega)), rfl, drawP (by omega) (by omega) hc c3 (by omega) (by omega) fun v2 b2 q2 v20 v21 d1 d2 d3 => ?_⟩
        obtain ⟨k, rfl⟩ : ∃ k : Nat, v2 = (k : Int) := ⟨v2.toNat, by omega⟩
        refine ⟨rfl, drawP (by omega) (by omega) hc d3 (by decide) (by decide) fun v3 b3 q3 v30 v31 f1 f2 f3 => ?_⟩
        obtain ⟨j, rfl⟩ : ∃ j : Nat, v3 = (j : Int) := ⟨v3.toNat, by omega⟩
        have jl : j < (Str.ofString " !#$&'()*+,-./0123456789:;<=>?@ABCZ[]^_abcdefghijklmnopqrstuvwxyz{|}~\n").cps.toList.length := Nat.lt_of_lt_of_le (show j < 70 by omega) (by decide +kernel)
        obtain ⟨c, ec⟩ : ∃ c, (Str.ofString " !#$&'()*+,-./0123456789:;<=>?@ABCZ[]^_abcdefghijklmnopqrstuvwxyz{|}~\n").cps.toList[j]? = some c := ⟨_, List.getElem?_eq_getElem jl⟩
        have cc : c < 16 ^ 8 := cps_small _ c (List.mem_of_getElem? ec)
        have x8 : x.length ≤ sizeLine := Nat.le_trans hx (sz _ (by omega))
        refine ⟨(by decide), _, atI_nat ec, x8, (by show 2 ≤ sizeLine; decide), rfl, drawP (by omega) (by omega) hc f3 (by decide) (by decide) fun v4 b4 q4 v40 v41 g1 g2 g3 => ?_⟩
        obtain ⟨y, ey, my⟩ := mem_at (L := [D.str "", D.str ⟨#[c]⟩]) v40 v41
        obtain ⟨s1, rfl, hs1, hs2⟩ : ∃ s1 : Str, y = .str s1 ∧ s1.length ≤ 1 ∧ ∀ c ∈ s1.cps.toList, c < 16 ^ 8 := by
          simp only [List.mem_cons, List.not_mem_nil, or_false] at my
          rcases my with rfl | rfl
          · exact ⟨_, rfl, by decide, fun c hc => nomatch hc⟩
          · exact ⟨_, rfl, Nat.le_refl 1, fun z hz => by
              have hz : z ∈ [c] := hz
              rw [List.mem_singleton.mp hz]; exact cc⟩
        have k1 := cutS_length x none (some (k : Int))
        refine ⟨_, _, rfl, ey, sz _ (by omega), rfl, drawP (by omega) (by omega) hc g3 (by decide) (by decide) fun v5 b5 q5 v50 v51 h1 h2 h3 => ?_⟩
        have k2 := cutS_length x (some ((k : Int) + v5)) none
        have k3 : (cutS x none (some (k : Int)) ++ s1).length = (cutS x none (some (k : Int))).length + s1.length := Array.size_append
        have k4 : (cutS x none (some (k : Int)) ++ s1 ++ cutS x (some ((k : Int) + v5)) none).length = (cutS x none (some (k : Int)) ++ s1).length + (cutS x (some ((k : Int) + v5)) none).length := Array.size_append
        exact ⟨x8, sz _ (by omega), fin _ b5 q5 (.str (by rw [k4, p3_succ]; omega) (cps_cat (cps_cat (cps_cut hcs _ _) hs2) (cps_cut hcs _ _))) (by simp only [wt]; omega) (by simp only [dp]; omega) (by omega) (by omega) h3⟩
      | @int i hi =>
        have lg : i.natAbs.log2 < 1920 := by
          by_cases z : i.natAbs = 0
          · rw [z]; decide
          · have := (Nat.log2_lt z).mpr (show i.natAbs < 2 ^ (100 + 2 * m) from hi)
            omega
        have m2 : Sm 4 2 := by unfold Sm; decide
        refine ⟨rfl, rfl, rfl, trivial, trivial, lg, ?_⟩
        refine ⟨(by show 10 ≤ sizeLine; decide), hi.mok m2 (by omega), (by show 1 ≤ sizeLine; decide), _, _, rfl, rfl, (by show 11 ≤ sizeLine; decide), rfl, drawP (by omega) (by omega) hc c3 (by decide) (by decide) fun v2 b2 q2 v20 v21 d1 d2 d3 => ?_⟩
        obtain ⟨y, ey, my⟩ := mem_at (L := [D.int (i + 1), .int (i - 1), .int (0 - i), .int 0, .int 100000, .int 100001, .int (-100001), .str (toString i), .bl (decide (0 < i)), .int 99999] ++ [D.int (i * 2)]) v20 (show v2 < ((10 + 1 : Nat) : Int) from v21)
        refine ⟨_, _, rfl, ey, ?_⟩
        have hi : i.natAbs < 2 ^ (100 + 2 * m) := hi
        have si : ∀ j : Int, j.natAbs ≤ 2 * i.natAbs + 200000 → retQ (pn cs a r :: T) QD (.int j) (pn cs b2 q2 :: T) := fun j hj => fin (.int j) b2 q2 (.int (by
          show j.natAbs < 2 ^ (100 + 2 * (m + 1))
          have e1 : 2 ^ (100 + 2 * (m + 1)) = 4 * 2 ^ (100 + 2 * m) := by rw [show 100 + 2 * (m + 1) = (100 + 2 * m) + 2 by omega, Nat.pow_add]; omega
          have e2 : 2 ^ 100 ≤ 2 ^ (100 + 2 * m) := Nat.pow_le_pow_right (by decide) (by omega)
          have e3 : 200000 < 2 ^ 100 := by decide
          omega)) (by simp only [wt]; omega) (by simp only [dp]; omega) (by omega) (by omega) d3
        simp only [List.cons_append, List.nil_append, List.mem_cons, List.not_mem_nil, or_false] at my
        rcases my with rfl | rfl | rfl | rfl | rfl | rfl | rfl | rfl | rfl | rfl | rfl
        · exact si _ (by omega)
        · exact si _ (by omega)
        · exact si _ (by omega)
        · exact si _ (by omega)
        · exact si _ (by omega)
        · exact si _ (by omega)
        · exact si _ (by omega)
        · have h2 := int_text_len_1921 (i := i) lg
          have h3 : (Str.ofString (toString i)).length ≤ 1921 := h2
          have h4 := p3_pos (m + 1)
          exact fin _ b2 q2 (.str (by omega) (cps_small (toString i))) (by simp only [wt]; omega) (by simp only [dp]; omega) (by omega) (by omega) d3
        · exact fin _ b2 q2 (.bl _) (by simp only [wt]; omega) (by simp only [dp]; omega) (by omega) (by omega) d3
        · exact si _ (by omega)
        · exact si _ (by omega)
/-! ### _law_spoilt -/
/-- down a path -/
def dnD : List Nat → D → Option D
  | [], d => some d
  | k :: ks, d => match d with
    | .tup l => (l[k]?).bind (dnD ks)
    | _ => none
theorem dn_snoc : ∀ (P : List Nat) (k : Nat) (d : D), dnD (P ++ [k]) d = (dnD P d).bind (dnD [k])
  | [], k, d => rfl
  | p :: P, k, d => by
    rw [List.cons_append]
    cases d with
    | tup l =>
      show (l[p]?).bind (dnD (P ++ [k])) = ((l[p]?).bind (dnD P)).bind (dnD [k])
      cases l[p]? with
      | none => rfl
      | some x => exact dn_snoc P k x
    | _ => rfl
theorem dn_take : ∀ {P : List Nat} {d x : D} {i : Nat}, dnD P d = some x → ∃ y, dnD (P.take i) d = some y
  | P, d, x, 0, _ => ⟨d, by simp [dnD]⟩
  | [], d, x, i + 1, _ => ⟨d, rfl⟩
  | p :: P, d, x, i + 1, h => by
    cases d with
    | tup l =>
      have h : (l[p]?).bind (dnD P) = some x := h
      cases g : l[p]? with
      | none => rw [g] at h; cases h
      | some z =>
        rw [g] at h
        obtain ⟨y, hy⟩ := dn_take (i := i) (show dnD P z = some x from h)
        refine ⟨y, ?_⟩
        show (l[p]?).bind (dnD (P.take i)) = some y
        rw [g]; exact hy
    | _ => cases h
theorem dn_one {k : Nat} {d x : D} (h : dnD [k] d = some x) : ∃ l, d = .tup l ∧ l[k]? = some x := by
  cases d with
  | tup l =>
    have h : (l[k]?).bind (dnD []) = some x := h
    refine ⟨l, rfl, ?_⟩
    cases e : l[k]? with
    | none => rw [e] at h; cases h
    | some y => rw [e] at h; exact h
  | _ => cases h
theorem dn_pq {m : Nat} : ∀ {P : List Nat} {d x : D}, Pq m d → dnD P d = some x → Pq m x
  | [], d, x, h, e => by cases e; exact h
  | k :: P, d, x, h, e => by
    cases h with
    | @tup l h1 h2 =>
      have e : (l[k]?).bind (dnD P) = some x := e
      cases g : l[k]? with
      | none => rw [g] at e; cases e
      | some y =>
        rw [g] at e
        exact dn_pq (h1 y (List.mem_of_getElem? g)) e
    | _ => cases e
theorem wts_split {l : List D} {k : Nat} {x : D} (h : l[k]? = some x) : wts l = wts (l.take k) + (wt x + 2) + wts (l.drop (k + 1)) := by
  have hk := (List.getElem?_eq_some_iff.mp h).1
  have e : l = l.take k ++ x :: l.drop (k + 1) := by
    have := List.drop_eq_getElem_cons hk
    rw [(List.getElem?_eq_some_iff.mp h).2] at this
    rw [← this, List.take_append_drop]
  conv => lhs; rw [e]
  rw [wts_app]; simp only [wts]; omega
theorem dps_split {l : List D} {k : Nat} {x : D} (h : l[k]? = some x) : dps l = max (dps (l.take k)) (max (dp x) (dps (l.drop (k + 1)))) := by
  have hk := (List.getElem?_eq_some_iff.mp h).1
  have e : l = l.take k ++ x :: l.drop (k + 1) := by
    have := List.drop_eq_getElem_cons hk
    rw [(List.getElem?_eq_some_iff.mp h).2] at this
    rw [← this, List.take_append_drop]
  conv => lhs; rw [e]
  rw [dps_app]; simp only [dps]
theorem w_a {a b c : Nat} (h1 : a ≤ 2 * b + 60000) (h2 : b ≤ c) : a ≤ b + c + 60000 := by omega
theorem w_b {a c : Nat} (h : a ≤ c + c + 60000) : a ≤ 2 * c + 60000 := by omega
theorem dn_wt : ∀ {P : List Nat} {d x : D}, dnD P d = some x → wt x ≤ wt d
  | [], d, x, e => by cases e; exact Nat.le_refl _
  | k :: P, d, x, e => by
    cases d with
    | tup l =>
      have e : (l[k]?).bind (dnD P) = some x := e
      cases g : l[k]? with
      | none => rw [g] at e; cases e
      | some y =>
        rw [g] at e
        have h1 := dn_wt (show dnD P y = some x from e)
        have h2 := wts_split g
        simp only [wt]; omega
    | _ => cases e
def spoilt_rest : WS := (wSeq (wSet 5 (wCall 2 s_law_other (wCons (wVar 0) (wCons (wVar 4) wNil))))
  (wSeq (wWhile (wB (wBin fNe (wVar 3) (wFz (wLst wNil))))
  (wSeq (wSet 6 (wBM fPop (wVar 3) wNil))
  (wSeq (wSet 4 (wVar 1))
  (wSeq (wFor (wISq (wVar 3)) (gSet 7)
  (wSet 4 (wBin fIx (wVar 4) (wVar 7))))
  (wSet 5 (wBin fAdd (wBin fAdd (wSl (wVar 4) wNo (wPart (wVar 6))) (wTup (wCons (wVar 5) wNil))) (wSl (wVar 4) (wPart (wBin fAdd (wVar 6) (wC (.int 1)))) wNo)))))))
  (wRet (wVar 5))))
def s_law_spoilt : WF
  | [.han 0, d], M, Q, _ => ∃ (cs : List Int) (a r : Int) (T : Me) (m : Nat), PenA M cs a r T ∧ a ≤ 900000000 ∧ m ≤ 3 ∧ Pq m d ∧ ∀ (e : D) (a' r' : Int), Pq (m + 1) e → wt e ≤ 2 * wt d + 60000 → dp e ≤ dp d + 1 → a ≤ a' → a' ≤ a + 30 → 0 ≤ r' → Q e (pn cs a' r' :: T)
  | _, _, _, _ => False
def w_law_spoilt : WS := (wSeq (wSet 2 (wCall 2 s_law_draw (wCons (wVar 0) (wCons (wC (.int 5)) wNil))))
  (wSeq (wSet 3 (wMu (wLst wNil)))
  (wSeq (wSet 4 (wVar 1))
  (wSeq (wWhile (wAndT (wTr (wIsi .tuple (wVar 4))) (wAndT (wB (wBin fNeNil (wVar 4) (wTup wNil))) (wB (wBin fLt (wCB fLen (wCons (wVar 3) wNil)) (wVar 2)))))
  (wSeq (wDrop (wBM fAppend (wVar 3) (wCons (wCall 2 s_law_draw (wCons (wVar 0) (wCons (wCB fLen (wCons (wVar 4) wNil)) wNil))) wNil)))
  (wSet 4 (wBin fIx (wVar 4) (wBin fIx (wVar 3) (wNeg (wC (.int 1))))))))
  (wSeq (wSet 5 (wCall 2 s_law_other (wCons (wVar 0) (wCons (wVar 4) wNil))))
  (wSeq (wWhile (wB (wBin fNe (wVar 3) (wFz (wLst wNil))))
  (wSeq (wSet 6 (wBM fPop (wVar 3) wNil))
  (wSeq (wSet 4 (wVar 1))
  (wSeq (wFor (wISq (wVar 3)) (gSet 7)
  (wSet 4 (wBin fIx (wVar 4) (wVar 7))))
  (wSet 5 (wBin fAdd (wBin fAdd (wSl (wVar 4) wNo (wPart (wVar 6))) (wTup (wCons (wVar 5) wNil))) (wSl (wVar 4) (wPart (wBin fAdd (wVar 6) (wC (.int 1)))) wNo)))))))
  (wRet (wVar 5))))))))
theorem vc_law_spoilt (ds : List D) (M : Me) (QD : D → Me → Prop) (ED : EX → Me → Prop) (hl : ds.length = 2) (h : s_law_spoilt ds M QD ED) : w_law_spoilt (env0 8 ds) M (retE M QD ED) := by
  match ds, h with
  | [.han 0, d], ⟨cs, a, r, T, m9, ⟨e, a0, a1, hc, r0⟩, a9, hm, pd, hQ⟩ =>
    subst e
    have sz : ∀ n : Nat, n ≤ 1000 → n ≤ sizeLine := fun n hn => Nat.le_trans hn (by decide)
    refine ⟨rfl, drawP a0 (by omega) hc r0 (by decide) (by decide) fun v1 b1 q1 v10 v11 c1 c2 c3 => ?_⟩
    refine ⟨(by show 0 ≤ sizeLine; decide), ?_⟩
    refine ⟨fun m env M' => ∃ (P : List Nat) (here : D) (a' r' : Int), M' = pn cs a' r' :: (T ++ [P.map fun k : Nat => D.int (k : Int)]) ∧ dnD P d = some here ∧ Pq m9 here ∧ P.length + m = 9 ∧ P.length ≤ 8 ∧ b1 ≤ a' ∧ a' ≤ b1 + P.length ∧ 0 ≤ r' ∧ env = [some (.han 0), some d, some (.int v1), some (.han (T.length + 1)), some here, none, none, none], ⟨9, [], d, b1, q1, rfl, rfl, pd, rfl, by decide, by omega, by simp, c3, rfl⟩, ?_⟩
    rintro m env M' ⟨P, here, a', r', rfl, hd, ph, pl, p8, f1, f2, f3, rfl⟩
    have out : ∀ (DD : EndD), DD.rt = retQ (pn cs a r :: T) QD → spoilt_rest [some (.han 0), some d, some (.int v1), some (.han (T.length + 1)), some here, none, none, none] (pn cs a' r' :: (T ++ [P.map fun k : Nat => D.int (k : Int)])) DD := by
      intro DD eD
      refine ⟨rfl, cs, a', r', _, m9, ⟨rfl, by omega, by omega, hc, f3⟩, hm, ph, fun e a2 r2 pe w1 w2 g1 g2 g3 => ?_⟩
      have wh := dn_wt hd
      refine ⟨fun m env M' => ∃ (P' : List Nat) (x e' : D) (y4 y6 y7 : Option D), M' = pn cs a2 r2 :: (T ++ [P'.map fun k : Nat => D.int (k : Int)]) ∧ dnD P' d = some x ∧ (Pq (m9 + 1) e' ∧ wt e' ≤ wt x + wt d + 60000 ∧ dp e' ≤ dp x + 1) ∧ P'.length = m ∧ P'.length ≤ 8 ∧ env = [some (.han 0), some d, some (.int v1), some (.han (T.length + 1)), y4, some e', y6, y7], ⟨P.length, P, here, e, _, _, _, rfl, hd, ⟨pe, w_a w1 wh, w2⟩, rfl, p8, rfl⟩, ?_⟩
      rintro m env M' ⟨P', x, e', y4, y6, y7, rfl, hd', ⟨pe', we', de'⟩, pl', p8', rfl⟩
      have nb : noB 2 (.lst (P'.map fun k : Nat => D.int (k : Int))) = true := by show noBs 1 _ = true; exact noBs_map _ _ fun z _ => rfl
      refine ⟨by show 0 ≤ sizeLine; decide, ne_live pen_get nb fun c hc0 => ?_⟩
      rcases List.eq_nil_or_concat P' with e0 | ⟨P0, k, e0⟩
      · obtain rfl : c = false := hc0.mpr (by rw [e0]; rfl)
        show DD.rt e' _
        rw [eD]
        obtain rfl := Option.some.inj (show some d = some x by rw [← hd', e0]; rfl)
        exact retQ_pen ((pe'.ps (by omega)).pl.old _) (hQ e' a2 r2 pe' (w_b we') de' (by omega) (by omega) g3)
      · rw [List.concat_eq_append] at e0
        obtain rfl : c = true := by
          cases c with
          | true => rfl
          | false => have := hc0.mp rfl; rw [e0] at this; simp at this
        subst e0
        have eP : ((P0 ++ [k]).map fun k : Nat => D.int (k : Int)) = (P0.map fun k : Nat => D.int (k : Int)) ++ [.int (k : Int)] := by rw [List.map_append]; rfl
        rw [dn_snoc] at hd'
        obtain ⟨x0, hx0, hx1⟩ := Option.bind_eq_some_iff.mp hd'
        obtain ⟨l, rfl, hlk⟩ := dn_one hx1
        have pl := dn_pq pd hx0
        have lk := (List.getElem?_eq_some_iff.mp hlk).1
        rw [eP]
        refine ⟨rfl, _, .int (k : Int), pen_get, (by simp), ?_⟩
        rw [pen_set, List.dropLast_concat]
        refine ⟨_, _, by show ((pn cs a2 r2 :: (T ++ [P0.map fun k : Nat => D.int (k : Int)]))[T.length + 1]?).map _ = _; rw [pen_get]; rfl, ?_⟩
        refine forGo_ix (fun i env M' => ∃ (x : D) (y7 : Option D), M' = pn cs a2 r2 :: (T ++ [P0.map fun k : Nat => D.int (k : Int)]) ∧ dnD (P0.take i) d = some x ∧ env = [some (.han 0), some d, some (.int v1), some (.han (T.length + 1)), some x, some e', some (.int (k : Int)), y7]) ?_ ?_ ⟨d, _, rfl, rfl, rfl⟩
        · rintro i di env M' K hdi ⟨x, y7, rfl, hx, rfl⟩ hK
          rw [List.getElem?_map] at hdi
          obtain ⟨p, hp, rfl⟩ := Option.map_eq_some_iff.mp hdi
          obtain ⟨z, hz⟩ := dn_take (i := i + 1) hx0
          have hz' := hz
          rw [List.take_succ, hp] at hz'
          have hz' : dnD (P0.take i ++ [p]) d = some z := hz'
          rw [dn_snoc, hx] at hz'
          obtain ⟨l', rfl, hlp⟩ := dn_one hz'
          exact ⟨pen_get, _, _, rfl, atI_nat hlp, hK _ _ ⟨z, _, rfl, hz, rfl⟩⟩
        · rintro env M' ⟨x, y7, rfl, hx, rfl⟩
          rw [List.length_map, List.take_length, hx0] at hx
          obtain rfl := Option.some.inj hx
          refine ⟨pen_get, ?_⟩
          have t1 := cut_len_to l k
          have t3 := cut_len_from1 l k
          have l56 := pl.len
          have one : 1 ≤ sizeLine := by decide
          refine ⟨one, sz _ (by rw [List.length_singleton]; omega), sz _ (by rw [List.length_append, List.length_singleton]; omega), ?_⟩
          refine ⟨m - 1, by rw [List.length_append, List.length_singleton] at pl'; omega, P0, .tup l, _, _, _, _, rfl, hx0, ⟨.tup (fun z hz => ?_) ?_, ?_, ?_⟩, by rw [List.length_append, List.length_singleton] at pl'; omega, by rw [List.length_append, List.length_singleton] at p8'; omega, rfl⟩
          · rcases List.mem_append.mp hz with z1 | z1
            · rcases List.mem_append.mp z1 with z2 | z2
              · exact (pl.all z (DL.cut_mem z2)).mono (by omega)
              · rw [List.mem_singleton.mp z2]; exact pe'
            · exact (pl.all z (DL.cut_mem z1)).mono (by omega)
          · rw [List.length_append, List.length_append, List.length_singleton]; omega
          · have h1 := wts_split hlk
            rw [cut_to l k (by omega), show DL.cutD l (some ((k : Int) + 1)) none = l.drop (k + 1) from cut_from l (k + 1) (by omega)]
            simp only [wt]
            rw [wts_app, wts_app]
            simp only [wts]
            omega
          · have h1 := dps_split hlk
            rw [cut_to l k (by omega), show DL.cutD l (some ((k : Int) + 1)) none = l.drop (k + 1) from cut_from l (k + 1) (by omega)]
            simp only [dp]
            rw [dps_app, dps_app]
            simp only [dps]
            omega
    cases ph with
    | non => exact ⟨rfl, out (retE (pn cs a r :: T) QD ED) rfl⟩
    | bl b => exact ⟨rfl, out (retE (pn cs a r :: T) QD ED) rfl⟩
    | dct => exact ⟨rfl, out (retE (pn cs a r :: T) QD ED) rfl⟩
    | lst h1 h2 => exact ⟨rfl, out (retE (pn cs a r :: T) QD ED) rfl⟩
    | @int i hi => exact ⟨rfl, out (retE (pn cs a r :: T) QD ED) rfl⟩
    | @str x hx _ => exact ⟨rfl, out (retE (pn cs a r :: T) QD ED) rfl⟩
    | @tup l h1 h2 =>
      have ph : Pq m9 (.tup l) := .tup h1 h2
      refine ⟨rfl, (by show 0 ≤ sizeLine; decide), ?_⟩
      cases l with
      | nil => exact out (retE (pn cs a r :: T) QD ED) rfl
      | cons y0 l0 =>
        refine ⟨_, pen_get, trivial, ?_⟩
        by_cases e2 : ((P.map fun k : Nat => D.int (k : Int)).length : Int) < v1
        · refine itt (decide_eq_true e2) ?_
          rw [List.length_map] at e2
          have ll : ((y0 :: l0).length : Int) = (l0.length : Int) + 1 := by rw [List.length_cons]; omega
          refine ⟨rfl, _, rfl, rfl, drawP (by omega) (by omega) hc f3 (by omega) (by have := h2; omega) fun v2 b2 q2 v20 v21 g1 g2 g3 => ?_⟩
          obtain ⟨k, rfl⟩ : ∃ k : Nat, v2 = (k : Int) := ⟨v2.toNat, by omega⟩
          obtain ⟨y, hy⟩ : ∃ y, (y0 :: l0)[k]? = some y := ⟨_, List.getElem?_eq_getElem (by omega)⟩
          refine ⟨_, pen_get, by rw [List.length_map]; exact Nat.lt_of_le_of_lt p8 (by decide), ?_⟩
          rw [pen_set]
          have eP : (P.map fun k : Nat => D.int (k : Int)) ++ [.int (k : Int)] = (P ++ [k]).map fun k : Nat => D.int (k : Int) := by rw [List.map_append]; rfl
          have la : atI ((P.map fun k : Nat => D.int (k : Int)) ++ [.int (k : Int)]) (-1) = some (.int (k : Int)) := atI_last _ _
          have hy' : dnD (P ++ [k]) d = some y := by
            rw [dn_snoc, hd]
            show ((y0 :: l0)[k]?).bind (dnD []) = some y
            rw [hy]; rfl
          refine ⟨_, _, pen_get, la, _, _, rfl, atI_nat hy, ?_⟩
          rw [eP]
          refine ⟨m - 1, by omega, P ++ [k], y, b2, q2, rfl, hy', h1 y (List.mem_of_getElem? hy), by rw [List.length_append, List.length_singleton]; omega, by rw [List.length_append, List.length_singleton]; omega, by omega, by rw [List.length_append, List.length_singleton]; omega, g3, rfl⟩
        · refine itf (decide_eq_false e2) ?_
          exact out (retE (pn cs a r :: T) QD ED) rfl
/-! ### _law_is_from -/
def s_law_is_from : WF
  | [d, .int a, .int b], M, Q, _ => hasT d = true ∧ Q (.bl (isFrm d a b)) M
  | _, _, _, _ => False
def w_law_is_from : WS := (wRet (wAndV (wIsi .int (wVar 0)) (wAndV (wNotV (wIsi .bool (wVar 0))) (wChain fLe fLe (wVar 1) (wVar 0) (wVar 2)))))
theorem vc_law_is_from (ds : List D) (M : Me) (QD : D → Me → Prop) (ED : EX → Me → Prop) (hl : ds.length = 3) (h : s_law_is_from ds M QD ED) : w_law_is_from (env0 3 ds) M (retE M QD ED) := by
  match ds, h with
  | [d, .int a, .int b], ⟨h1, h⟩ =>
    refine ⟨h1, ?_⟩
    cases d with
    | int i =>
      have h : QD (.bl (decide (a ≤ i) && decide (i ≤ b))) M := h
      refine ⟨rfl, trivial, ?_⟩
      by_cases e : a ≤ i
      · rw [decide_eq_true e] at h
        simp only [e, decide_true]
        exact ⟨trivial, retQ_pure rfl h⟩
      · rw [decide_eq_false e] at h
        simp only [e, decide_false]
        exact retQ_pure rfl h
    | bl k => exact ⟨rfl, retQ_pure rfl h⟩
    | _ => exact retQ_pure rfl h
/-! ### _law_is_name -/
def s_law_is_name : WF
  | [d], M, Q, _ => hasT d = true ∧ (∀ x, d = .str x → x.length ≤ sizeLine) ∧ Q (.bl (isNm d)) M
  | _, _, _, _ => False
def w_law_is_name : WS := (wSeq (wIf (wOrT (wNotT (wTr (wIsi .str (wVar 0)))) (wNotT (wB (wChain fLt fLt (wC (.int 0)) (wCB fLen (wCons (wVar 0) wNil)) (wC (.int 9))))))
  (wRet (wC (.bl false)))
  wNext)
  (wRet (wBin fEqNil (wFz (wLc (wIStr (wVar 0)) (gSet 1) (wB (wBin (fIn true) (wVar 1) (wC (.str "abcdefghijklmnopqrstuvwxyz")))) (wVar 1) [1])) (wFz (wLst wNil)))))
theorem vc_law_is_name (ds : List D) (M : Me) (QD : D → Me → Prop) (ED : EX → Me → Prop) (hl : ds.length = 1) (h : s_law_is_name ds M QD ED) : w_law_is_name (env0 2 ds) M (retE M QD ED) := by
  match ds, h with
  | [d], ⟨h1, hs, h⟩ =>
    refine ⟨h1, ?_⟩
    cases d with
    | str x =>
      have hx := hs x rfl
      have h : QD (.bl (decide (1 ≤ x.length) && (decide (x.length ≤ 8) && x.cps.toList.all fun c => inStr ⟨#[c]⟩ "abcdefghijklmnopqrstuvwxyz"))) M := h
      refine ⟨hx, trivial, ?_⟩
      by_cases e1 : 1 ≤ x.length
      · rw [decide_eq_true e1, Bool.true_and] at h
        simp only [decide_eq_true (show (0 : Int) < (x.length : Int) by omega)]
        refine ⟨trivial, ?_⟩
        by_cases e2 : x.length ≤ 8
        · rw [decide_eq_true e2, Bool.true_and] at h
          refine itf (by rw [decide_eq_true (show (x.length : Int) < 9 by omega)]; rfl) ?_
          refine ⟨x, rfl, ?_⟩
          have sgl : sgD x = x.cps.toList.map fun c => D.str ⟨#[c]⟩ := rfl
          rw [sgl]
          have l8 : x.cps.toList.length ≤ 8 := e2
          generalize x.cps.toList = l at h l8
          refine lcGo_ix (fun i acc M1 => M1 = M ∧ acc.isEmpty = ((l.take i).all fun c => inStr ⟨#[c]⟩ "abcdefghijklmnopqrstuvwxyz") ∧ acc.length ≤ i) ?_ ?_ ⟨rfl, rfl, Nat.le_refl _⟩
          · rintro i d acc M1 K hd ⟨rfl, ha, al⟩ hK
            have hi := (List.getElem?_eq_some_iff.mp hd).1
            rw [List.length_map] at hi
            rw [List.getElem?_map] at hd
            obtain ⟨c, hc, rfl⟩ := Option.map_eq_some_iff.mp hd
            have et : (l.take (i + 1)).all (fun c => inStr ⟨#[c]⟩ "abcdefghijklmnopqrstuvwxyz") = ((l.take i).all (fun c => inStr ⟨#[c]⟩ "abcdefghijklmnopqrstuvwxyz") && inStr ⟨#[c]⟩ "abcdefghijklmnopqrstuvwxyz") := by
              rw [List.take_succ, hc, List.all_append]
              simp
            refine ⟨trivial, ?_⟩
            cases e : inStr ⟨#[c]⟩ "abcdefghijklmnopqrstuvwxyz" with
            | true => exact itf (by show (!inStr _ _) = false; rw [e]; rfl) (hK _ _ ⟨rfl, by rw [et, e, Bool.and_true]; exact ha, by omega⟩)
            | false => exact itt (by show (!inStr _ _) = true; rw [e]; rfl) ⟨Nat.lt_of_le_of_lt (show acc.length ≤ 8 by omega) (by decide), hK _ _ ⟨rfl, by rw [et, e, Bool.and_false]; simp, by rw [List.length_append]; simp; omega⟩⟩
          · rintro acc M1 ⟨rfl, ha, al⟩
            rw [List.length_map, List.take_length] at ha
            refine ⟨trivial, (by show 0 ≤ sizeLine; decide), ?_⟩
            rw [← ha] at h
            exact retQ_pure rfl h
        · rw [decide_eq_false e2, Bool.false_and] at h
          refine itt (by rw [decide_eq_false (show ¬ (x.length : Int) < 9 by omega)]; rfl) ?_
          exact retQ_pure rfl h
      · rw [decide_eq_false e1, Bool.false_and] at h
        simp only [decide_eq_false (show ¬ (0 : Int) < (x.length : Int) by omega)]
        exact itt rfl (retQ_pure rfl h)
    | _ => exact retQ_pure rfl h
/-! ### _law_is_take -/
def s_law_is_take : WF
  | [d], M, Q, _ => Ps d ∧ Q (.bl (isTk d)) M
  | _, _, _, _ => False
def w_law_is_take : WS := (wSeq (wIf (wOrT (wNotT (wTr (wIsi .tuple (wVar 0)))) (wOrT (wB (wBin fNe (wCB fLen (wCons (wVar 0) wNil)) (wC (.int 2)))) (wOrT (wNotT (wTr (wCall 1 s_law_is_name (wCons (wBin fIx (wVar 0) (wC (.int 0))) wNil)))) (wNotT (wTr (wIsi .tuple (wBin fIx (wVar 0) (wC (.int 1)))))))))
  (wRet (wC (.bl false)))
  wNext)
  (wRet (wAndV (wChain fLt fLt (wC (.int 0)) (wCB fLen (wCons (wBin fIx (wVar 0) (wC (.int 1))) wNil)) (wC (.int 201))) (wBin fEqNil (wFz (wLc (wISq (wBin fIx (wVar 0) (wC (.int 1)))) (gSet 1) (wNotT (wTr (wCall 3 s_law_is_from (wCons (wVar 1) (wCons (wNeg (wC (.int 100000))) (wCons (wC (.int 100000)) wNil)))))) (wVar 1) [1])) (wFz (wLst wNil))))))
theorem vc_law_is_take (ds : List D) (M : Me) (QD : D → Me → Prop) (ED : EX → Me → Prop) (hl : ds.length = 1) (h : s_law_is_take ds M QD ED) : w_law_is_take (env0 2 ds) M (retE M QD ED) := by
  match ds, h with
  | [d], ⟨hd, h⟩ =>
    refine ⟨hd.ht, ?_⟩
    cases d with
    | tup l =>
      match l, hd, h with
      | [], _, h => exact ⟨_, rfl, retQ_pure rfl h⟩
      | [x], _, h => exact ⟨_, rfl, retQ_pure rfl h⟩
      | x :: y :: z :: u, _, h => exact ⟨_, rfl, retQ_pure rfl h⟩
      | [x, y], hd, h =>
        have hx := hd.all x (by simp)
        have hy := hd.all y (by simp)
        have h : QD (.bl (isNm x && isTn y)) M := h
        refine ⟨_, rfl, _, _, rfl, rfl, rfl, hx.ht, hx.line, ?_⟩
        cases e1 : isNm x with
        | false => rw [e1, Bool.false_and] at h; exact retQ_pure rfl h
        | true =>
          rw [e1, Bool.true_and] at h
          refine ⟨_, _, rfl, rfl, hy.ht, ?_⟩
          cases y with
          | tup u =>
            have ul := hy.len
            have h : QD (.bl (decide (1 ≤ u.length) && (decide (u.length ≤ 200) && u.all tnB))) M := h
            refine ⟨_, _, rfl, rfl, _, rfl, trivial, ?_⟩
            by_cases u1 : 1 ≤ u.length
            · rw [decide_eq_true u1, Bool.true_and] at h
              simp only [decide_eq_true (show (0 : Int) < (u.length : Int) by omega)]
              refine ⟨trivial, ?_⟩
              by_cases u2 : u.length ≤ 200
              · rw [decide_eq_true u2, Bool.true_and] at h
                refine itt (decide_eq_true (by omega)) ?_
                refine ⟨_, _, rfl, rfl, _, _, rfl, ?_⟩
                refine lcGo_ix (fun i acc M1 => M1 = M ∧ acc.isEmpty = (u.take i).all tnB ∧ acc.length ≤ i) ?_ ?_ ⟨rfl, rfl, Nat.le_refl _⟩
                · rintro i d acc M1 K hd ⟨rfl, ha, al⟩ hK
                  have hi := (List.getElem?_eq_some_iff.mp hd).1
                  have et : (u.take (i + 1)).all tnB = ((u.take i).all tnB && tnB d) := by
                    rw [List.take_succ, hd, List.all_append]
                    simp
                  refine ⟨trivial, rfl, (hy.all d (List.mem_of_getElem? hd)).ht, ?_⟩
                  have fin : (tnB d = true → K acc M1) ∧ (tnB d = false → acc.length < sizeLine ∧ K (acc ++ [d]) M1) := ⟨fun e => hK _ _ ⟨rfl, by rw [et, e, Bool.and_true]; exact ha, by omega⟩, fun e => ⟨Nat.lt_of_le_of_lt (show acc.length ≤ 200 by omega) (by decide), hK _ _ ⟨rfl, by rw [et, e, Bool.and_false]; simp, by rw [List.length_append]; simp; omega⟩⟩⟩
                  show if (!tnB d) = true then _ else _
                  cases e : tnB d with
                  | true => exact itf rfl (fin.1 e)
                  | false => exact itt rfl (fin.2 e)
                · rintro acc M1 ⟨rfl, ha, al⟩
                  rw [List.take_length] at ha
                  refine ⟨trivial, (by show 0 ≤ sizeLine; decide), retQ_pure rfl ?_⟩
                  rw [ha]; exact h
              · rw [decide_eq_false u2, Bool.false_and] at h
                refine itf (decide_eq_false (by omega)) (retQ_pure rfl ?_)
                show QD (.bl (decide ((u.length : Int) < 201))) M
                rw [decide_eq_false (by omega)]; exact h
            · rw [decide_eq_false u1, Bool.false_and] at h
              simp only [decide_eq_false (show ¬ (0 : Int) < (u.length : Int) by omega)]
              exact retQ_pure rfl h
          | _ => exact retQ_pure rfl h
    | _ => exact retQ_pure rfl h
/-! ### _law_is_fraction -/
def s_law_is_fraction : WF
  | [d], M, Q, _ => okT d = true ∧ (∀ a b, d = .tup [.int a, .int b] → Sm 130 a ∧ Sm 130 b) ∧ Q (.bl (isNb d)) M
  | _, _, _, _ => False
def w_law_is_fraction : WS := (wSeq (wIf (wOrT (wNotT (wTr (wIsi .tuple (wVar 0)))) (wOrT (wB (wBin fNe (wCB fLen (wCons (wVar 0) wNil)) (wC (.int 2)))) (wNotT (wTr (wCall 3 s_law_is_from (wCons (wBin fIx (wVar 0) (wC (.int 0))) (wCons (wC (.int 0)) (wCons (wBin fPow (wC (.int 10)) (wC (.int 40))) wNil))))))))
  (wRet (wC (.bl false)))
  wNext)
  (wRet (wAndV (wCall 3 s_law_is_from (wCons (wBin fIx (wVar 0) (wC (.int 1))) (wCons (wC (.int 1)) (wCons (wBin fPow (wC (.int 10)) (wC (.int 40))) wNil)))) (wBin fEq (wCall 2 s_law_low (wCons (wBin fIx (wVar 0) (wC (.int 0))) (wCons (wBin fIx (wVar 0) (wC (.int 1))) wNil))) (wVar 0)))))
theorem vc_law_is_fraction (ds : List D) (M : Me) (QD : D → Me → Prop) (ED : EX → Me → Prop) (hl : ds.length = 1) (h : s_law_is_fraction ds M QD ED) : w_law_is_fraction (env0 1 ds) M (retE M QD ED) := by
  match ds, h with
  | [d], ⟨h1, hs, h⟩ =>
    have hT : hasT d = true := by cases d <;> first | rfl | cases h1
    refine ⟨hT, ?_⟩
    cases d with
    | tup l =>
      match l, h1, hs, h with
      | [], _, _, h => exact ⟨_, rfl, retQ_pure rfl h⟩
      | [x], _, _, h =>
        have e : isNb (.tup [x]) = false := by cases x <;> rfl
        rw [e] at h
        exact ⟨_, rfl, retQ_pure rfl h⟩
      | x :: y :: z :: u, _, _, h =>
        refine ⟨_, rfl, ?_⟩
        have e : decide (((x :: y :: z :: u).length : Int) = 2) = false := decide_eq_false (by simp only [List.length_cons]; omega)
        have e2 : (!decide (((x :: y :: z :: u).length : Int) = 2)) = true := by rw [e]; rfl
        have e3 : isNb (.tup (x :: y :: z :: u)) = false := by cases x <;> first | rfl | (cases y <;> rfl)
        rw [e3] at h
        exact retQ_pure rfl h
      | [x, y], h1, hs, h =>
        obtain ⟨hx, hy⟩ := He.ba (show (hasT x && hasT y) = true from h1)
        refine ⟨_, rfl, _, _, rfl, rfl, ⟨by decide, by decide, by decide⟩, rfl, hx, ?_⟩
        have nbI : ∀ a b : Int, isNb (.tup [.int a, .int b]) = ((decide (0 < b) && decide ((Int.gcd a b : Int) = 1)) && decide (0 ≤ a)) := fun a b => rfl
        by_cases fx : isFrm x 0 (10 ^ 40) = true
        · obtain ⟨a, rfl, a0, a1⟩ := frm_i fx
          refine itf (by show (!isFrm (.int a) 0 (10 ^ 40)) = false; rw [fx]; rfl) ?_
          refine ⟨_, _, rfl, rfl, ⟨by decide, by decide, by decide⟩, rfl, hy, ?_⟩
          by_cases fy : isFrm y 1 (10 ^ 40) = true
          · obtain ⟨b, rfl, b0, b1⟩ := frm_i fy
            obtain ⟨sa, sb⟩ := hs a b rfl
            refine itt fy ?_
            refine ⟨_, _, rfl, rfl, _, _, rfl, rfl, rfl, by omega, sa.mono (by decide), sb.mono (by decide), eq_noB (n := 1) (m := 1) (noB_fr 0 _) rfl fun bq hb => retQ_pure rfl ?_⟩
            have eb : bq = isNb (.tup [.int a, .int b]) := by
              rw [Bool.eq_iff_iff, hb]
              constructor
              · intro e
                rw [← e]
                refine isNb_fr ?_
                have dn : (Rat.divInt a b).num = a := by
                  have : D.tup [.int (Rat.divInt a b).num, .int ((Rat.divInt a b).den : Int)] = .tup [.int a, .int b] := e
                  simp only [D.tup.injEq, List.cons.injEq, D.int.injEq, and_true] at this
                  exact this.1
                exact Rat.num_nonneg.mp (by omega)
              · intro e
                obtain ⟨q, e1, _⟩ := isNb_of e
                have e2 : D.tup [.int a, .int b] = .tup [.int q.num, .int (q.den : Int)] := e1
                simp only [D.tup.injEq, List.cons.injEq, D.int.injEq, and_true] at e2
                rw [e2.1, e2.2, Rat.num_divInt_den]
                rfl
            rw [eb]; exact h
          · have fy : isFrm y 1 (10 ^ 40) = false := by simpa using fy
            have e : isNb (.tup [.int a, y]) = false := by
              cases y with
              | int b =>
                obtain ⟨_, sb⟩ := hs a b rfl
                have fy : (decide (1 ≤ b) && decide (b ≤ 10 ^ 40)) = false := fy
                have lt : b ≤ 10 ^ 40 := by
                  have : b.natAbs < 2 ^ 130 := sb
                  have : (2 : Nat) ^ 130 ≤ 10 ^ 40 := by decide +kernel
                  omega
                rw [decide_eq_true lt, Bool.and_true] at fy
                have fy := of_decide_eq_false fy
                rw [nbI, decide_eq_false (show ¬ 0 < b by omega)]
                rfl
              | _ => rfl
            rw [e] at h
            refine itf fy ?_
            exact retQ_pure rfl (by show QD (.bl (isFrm y 1 (10 ^ 40))) M; rw [fy]; exact h)
        · have fx : isFrm x 0 (10 ^ 40) = false := by simpa using fx
          have e : isNb (.tup [x, y]) = false := by
            cases x with
            | int a =>
              cases y with
              | int b =>
                obtain ⟨sa, _⟩ := hs a b rfl
                have fx : (decide (0 ≤ a) && decide (a ≤ 10 ^ 40)) = false := fx
                have lt : a ≤ 10 ^ 40 := by
                  have : a.natAbs < 2 ^ 130 := sa
                  have : (2 : Nat) ^ 130 ≤ 10 ^ 40 := by decide +kernel
                  omega
                rw [decide_eq_true lt, Bool.and_true] at fx
                have fx := of_decide_eq_false fx
                rw [nbI, decide_eq_false fx, Bool.and_false]
              | _ => rfl
            | _ => rfl
          rw [e] at h
          refine itt (by show (!isFrm x 0 (10 ^ 40)) = true; rw [fx]; rfl) ?_
          exact retQ_pure rfl h
    | _ => exact retQ_pure rfl h
/-! ### _law_is_shape -/
theorem Ps.lv {d : D} (ps : Ps d) {M : Me} {Q : D → Me → Prop} {E : EX → Me → Prop} (k : Q (.bl (isNb d)) M) : s_law_is_fraction [d] M Q E :=
  ⟨ps.pl.okT, fun a b e => by subst e; exact ⟨(ps.all (.int a) (by simp)).sm.mono (by decide), (ps.all (.int b) (by simp)).sm.mono (by decide)⟩, k⟩
def s_law_is_shape : WF
  | [d], M, Q, _ => Ps d ∧ Q (.bl (isSh d)) M
  | _, _, _, _ => False
def w_law_is_shape_t3 : WS := (wRet (wBin fEqNil (wFz (wLc (wIR2 (wCons (wC (.int 2)) (wCons (wCB fLen (wCons (wVar 0) wNil)) wNil))) (gSet 3) (wTr (wCall 3 s_law_is_straight (wCons (wBin fIx (wVar 0) (wBin fSub (wVar 3) (wC (.int 2)))) (wCons (wBin fIx (wVar 0) (wBin fSub (wVar 3) (wC (.int 1)))) (wCons (wBin fIx (wVar 0) (wVar 3)) wNil))))) (wVar 3) [3])) (wFz (wLst wNil))))
def w_law_is_shape_t2 : WS := (wSeq (wFor (wIZ (wCons (wVar 0) (wCons (wSl (wVar 0) (wPart (wC (.int 1))) wNo) wNil))) (gTupD 2 (gC (gSet 1) (gC (gSet 2) gN)))
  (wIf (wB (wBin fGe (wBin fMul (wBin fIx (wBin fIx (wVar 1) (wC (.int 0))) (wC (.int 0))) (wBin fIx (wBin fIx (wVar 2) (wC (.int 0))) (wC (.int 1)))) (wBin fMul (wBin fIx (wBin fIx (wVar 2) (wC (.int 0))) (wC (.int 0))) (wBin fIx (wBin fIx (wVar 1) (wC (.int 0))) (wC (.int 1))))))
  (wRet (wC (.bl false)))
  wNext))
  (w_law_is_shape_t3))
def w_law_is_shape_t1 : WS := (wSeq (wFor (wISq (wVar 0)) (gSet 1)
  (wIf (wOrT (wNotT (wTr (wIsi .tuple (wVar 1)))) (wOrT (wB (wBin fNe (wCB fLen (wCons (wVar 1) wNil)) (wC (.int 2)))) (wOrT (wNotT (wTr (wCall 1 s_law_is_fraction (wCons (wBin fIx (wVar 1) (wC (.int 0))) wNil)))) (wNotT (wTr (wCall 1 s_law_is_fraction (wCons (wBin fIx (wVar 1) (wC (.int 1))) wNil)))))))
  (wRet (wC (.bl false)))
  wNext))
  (w_law_is_shape_t2))
def w_law_is_shape : WS := (wSeq (wIf (wOrT (wNotT (wTr (wIsi .tuple (wVar 0)))) (wNotT (wB (wChain fLt fLt (wC (.int 1)) (wCB fLen (wCons (wVar 0) wNil)) (wC (.int 13))))))
  (wRet (wC (.bl false)))
  wNext)
  (w_law_is_shape_t1))
theorem all_succ (f : Nat → Bool) (n : Nat) : (List.range (n + 1)).all f = ((List.range n).all f && f n) := by
  rw [List.range_succ, List.all_append]; simp
theorem any_succ (f : Nat → Bool) (n : Nat) : (List.range (n + 1)).any f = ((List.range n).any f || f n) := by
  rw [List.range_succ, List.any_append]; simp
theorem emp_app {α : Type} (l : List α) (x : α) : (l ++ [x]).isEmpty = false := by cases l <;> rfl
theorem shape_t2 {l : List D} {y1 y2 : Option D} {M : Me} {QD : D → Me → Prop} {ED : EX → Me → Prop} (ps : Ps (.tup l)) (l2 : 2 ≤ l.length) (l12 : l.length ≤ 12) (hall : l.all isCn = true) (h : QD (.bl (isSh (.tup l))) M) :
    w_law_is_shape_t2 [some (.tup l), y1, y2, none] M (retE M QD ED) := by
  have eL := cns_map hall
  have hC : ∀ c ∈ l.map toC, Fs 110 c.1 ∧ Fs 110 c.2 := fun c hc => by
    obtain ⟨d, hd, rfl⟩ := List.mem_map.mp hc
    obtain ⟨e, x0, y0⟩ := isCn_of (List.all_eq_true.mp hall d hd)
    have pd := ps.all d hd
    rw [e] at pd
    have pd : Ps (.tup [fr (toC d).1, fr (toC d).2]) := pd
    exact ⟨(pd.all _ List.mem_cons_self).frq, (pd.all _ (List.mem_cons_of_mem _ List.mem_cons_self)).frq⟩
  have hs : isSh (.tup l) = (incB (l.map toC) && !strA (l.map toC)) := by
    show (decide (2 ≤ l.length) && (decide (l.length ≤ 12) && (l.all isCn && _))) = _
    rw [decide_eq_true l2, decide_eq_true l12, hall]; rfl
  rw [hs] at h
  have cl : (l.map toC).length = l.length := List.length_map _
  generalize l.map toC = C at eL hC h cl
  subst eL
  rw [List.length_map] at l2 l12
  clear hs hall cl
  have gd : ∀ i : Nat, i < C.length → ∃ c, C[i]? = some c ∧ C.getD i (0, 0) = c ∧ Fs 110 c.1 ∧ Fs 110 c.2 := fun i hi =>
    ⟨C[i], List.getElem?_eq_getElem hi, gd_at (List.getElem?_eq_getElem hi), hC _ (List.getElem_mem hi)⟩
  refine ⟨rfl, _, _, _, _, rfl, rfl, ?_⟩
  have ecut : DL.cutD (C.map cnD) (some 1) none = (C.map cnD).drop 1 := cut_from _ 1 (by rw [List.length_map]; omega)
  have no : incB C = false → retQ M QD (.bl false) M := fun e => by
    rw [e, Bool.false_and] at h
    exact retQ_pure rfl h
  refine forGo_ix (fun i env M' => M' = M ∧ (List.range i).all (fun k => decide ((C.getD k (0, 0)).1 < (C.getD (k + 1) (0, 0)).1)) = true ∧ ∃ y1 y2 : Option D, env = [some (.tup (C.map cnD)), y1, y2, none]) ?_ ?_ ⟨rfl, rfl, _, _, rfl⟩
  · rintro i d env M' K hd ⟨rfl, ha, y1, y2, rfl⟩ hK
    obtain ⟨x, y, gx, gy, rfl⟩ := zpD_get hd
    rw [List.getElem?_map] at gx
    obtain ⟨a, g0, rfl⟩ := Option.map_eq_some_iff.mp gx
    have gy : (DL.cutD (C.map cnD) (some 1) none)[i]? = some y := gy
    rw [ecut, List.getElem?_drop, List.getElem?_map] at gy
    obtain ⟨b, g1, rfl⟩ := Option.map_eq_some_iff.mp gy
    rw [Nat.add_comm] at g1
    have hi := (List.getElem?_eq_some_iff.mp g1).1
    have fa := hC _ (List.mem_of_getElem? g0)
    have fb := hC _ (List.mem_of_getElem? g1)
    have et := all_succ (fun k => decide ((C.getD k (0, 0)).1 < (C.getD (k + 1) (0, 0)).1)) i
    have et : _ = (_ && decide ((C.getD i (0, 0)).1 < (C.getD (i + 1) (0, 0)).1)) := et
    rw [gd_at g0, gd_at g1, ha, Bool.true_and] at et
    refine ⟨⟨trivial, trivial⟩, rfl, _, _, rfl, rfl, _, _, rfl, rfl, _, _, rfl, rfl, _, _, rfl, rfl, fa.1.1.mok fb.1.2 (by decide), ?_⟩
    refine ⟨_, _, rfl, rfl, _, _, rfl, rfl, _, _, rfl, rfl, _, _, rfl, rfl, fb.1.1.mok fa.1.2 (by decide), ?_⟩
    by_cases lt : a.1 < b.1
    · have l2 := (Rat.lt_iff a.1 b.1).mp lt
      refine ⟨trivial, itf (decide_eq_false (by omega)) ?_⟩
      exact hK _ _ ⟨rfl, by rw [et]; exact decide_eq_true lt, _, _, rfl⟩
    · have l2 : ¬ a.1.num * (b.1.den : Int) < b.1.num * (a.1.den : Int) := fun z => lt ((Rat.lt_iff a.1 b.1).mpr z)
      refine ⟨trivial, itt (decide_eq_true (by omega)) (no ?_)⟩
      refine List.all_eq_false.mpr ⟨i, List.mem_range.mpr (by omega), ?_⟩
      rw [gd_at g0, gd_at g1, decide_eq_false lt]
      exact Bool.false_ne_true
  rintro env M' ⟨rfl, ha, y1, y2, rfl⟩
  have ei : incB C = true := by
    have e : (zpD (C.map cnD) (DL.cutD (C.map cnD) (some 1) none)).length = C.length - 1 := by
      unfold zpD
      rw [List.length_zipWith, ecut, List.length_drop, List.length_map]
      omega
    rw [e] at ha
    exact ha
  rw [ei, Bool.true_and] at h
  refine ⟨⟨trivial, trivial⟩, ?_⟩
  refine ⟨_, rfl, ⟨by decide, by decide⟩, ⟨by rw [List.length_map]; omega, by rw [List.length_map]; omega⟩, ?_⟩
  refine lcGo_ix (fun i acc M2 => M2 = M' ∧ acc.isEmpty = (!(List.range i).any fun k => strB (C.getD k (0, 0)) (C.getD (k + 1) (0, 0)) (C.getD (k + 2) (0, 0))) ∧ acc.length ≤ i) ?_ ?_ ⟨rfl, rfl, Nat.le_refl _⟩
  · rintro i d acc M2 K hd ⟨rfl, ha, al⟩ hK
    obtain ⟨hi, rfl⟩ := rgD_at hd
    rw [List.length_map] at hi
    obtain ⟨a, g0, e0, fa⟩ := gd i (by omega)
    obtain ⟨b, g1, e1, fb⟩ := gd (i + 1) (by omega)
    obtain ⟨c, g2, e2, fc⟩ := gd (i + 2) (by omega)
    refine ⟨trivial, trivial, _, _, rfl, at_map g0 (by omega), trivial, _, _, rfl, at_map g1 (by omega), _, _, rfl, at_map g2 (by omega), rfl, a, b, c, rfl, rfl, rfl, fa, fb, fc, ?_⟩
    have et := any_succ (fun k => strB (C.getD k (0, 0)) (C.getD (k + 1) (0, 0)) (C.getD (k + 2) (0, 0))) i
    have et : _ = (_ || strB (C.getD i (0, 0)) (C.getD (i + 1) (0, 0)) (C.getD (i + 2) (0, 0))) := et
    rw [e0, e1, e2] at et
    cases e : strB a b c with
    | false =>
      have q : K acc M2 := hK _ _ ⟨rfl, ?_, by omega⟩
      · exact q
      rw [et, e, Bool.or_false]; exact ha
    | true =>
      have q : acc.length < sizeLine ∧ K (acc ++ [.int (2 + (i : Int))]) M2 := ⟨Nat.lt_of_le_of_lt (show acc.length ≤ 12 by omega) (by decide), hK _ _ ⟨rfl, ?_, by rw [List.length_append]; simp; omega⟩⟩
      · exact q
      rw [et, e, Bool.or_true, emp_app]; rfl
  rintro acc M2 ⟨rfl, ha, al⟩
  rw [rgD_len, List.length_map, show ((C.length : Int) - 2).toNat = C.length - 2 by omega] at ha
  have ha : acc.isEmpty = !strA C := ha
  refine ⟨trivial, (by show 0 ≤ sizeLine; decide), retQ_pure rfl ?_⟩
  rw [ha]
  exact h
theorem vc_law_is_shape (ds : List D) (M : Me) (QD : D → Me → Prop) (ED : EX → Me → Prop) (hl : ds.length = 1) (h : s_law_is_shape ds M QD ED) : w_law_is_shape (env0 4 ds) M (retE M QD ED) := by
  match ds, h with
  | [d], ⟨ps, h⟩ =>
    refine ⟨ps.ht, ?_⟩
    cases d with
    | tup l =>
      have no : isSh (.tup l) = false → retQ M QD (.bl false) M := fun e => by
        rw [e] at h
        exact retQ_pure rfl h
      by_cases l2 : 2 ≤ l.length
      · by_cases l12 : l.length ≤ 12
        · refine ⟨_, rfl, trivial, ?_⟩
          rw [show (fun i j : Int => D.bl (decide (i < j))) 1 (l.length : Int) = D.bl true from congrArg D.bl (decide_eq_true (by omega))]
          refine ⟨trivial, ?_⟩
          refine itf (by rw [decide_eq_true (show (l.length : Int) < 13 by omega)]; rfl) ⟨_, _, rfl, ?_⟩
          refine forGo_ix (fun i env M' => M' = M ∧ (l.take i).all isCn = true ∧ ∃ y1 : Option D, env = [some (.tup l), y1, none, none]) ?_ ?_ ⟨rfl, rfl, _, rfl⟩
          · rintro i d env M' K hd ⟨rfl, hn, y1, rfl⟩ hK
            have pd := ps.all d (List.mem_of_getElem? hd)
            have bad : isCn d = false → retQ M' QD (.bl false) M' := fun e => by
              refine no ?_
              show (decide (2 ≤ l.length) && (decide (l.length ≤ 12) && (l.all isCn && _))) = false
              rw [show l.all isCn = false from List.all_eq_false.mpr ⟨d, List.mem_of_getElem? hd, by rw [e]; exact Bool.false_ne_true⟩, Bool.false_and, Bool.and_false, Bool.and_false]
            have good : isCn d = true → (l.take (i + 1)).all isCn = true := fun e => by
              rw [List.take_succ, hd, List.all_append, hn]
              simp [e]
            refine ⟨trivial, pd.ht, ?_⟩
            cases d with
            | tup u =>
              match u, pd, bad, good with
              | [], pd, bad, good => exact ⟨_, rfl, bad rfl⟩
              | [x], pd, bad, good => exact ⟨_, rfl, bad rfl⟩
              | x :: y :: z :: u, pd, bad, good => exact ⟨_, rfl, bad rfl⟩
              | [x, y], pd, bad, good =>
                have px := pd.all x (by simp)
                have py := pd.all y (by simp)
                refine ⟨_, rfl, _, _, rfl, rfl, rfl, px.lv ?_⟩
                cases ex : isNb x with
                | false => exact bad (by show (isNb x && isNb y) = false; rw [ex]; rfl)
                | true =>
                  refine ⟨_, _, rfl, rfl, rfl, py.lv ?_⟩
                  cases ey : isNb y with
                  | false => exact bad (by show (isNb x && isNb y) = false; rw [ex, ey]; rfl)
                  | true => exact hK _ _ ⟨rfl, good (by show (isNb x && isNb y) = true; rw [ex, ey]; rfl), _, rfl⟩
            | _ => exact bad rfl
          · rintro env M' ⟨rfl, hn, y1, rfl⟩
            rw [List.take_length] at hn
            exact ⟨trivial, shape_t2 ps l2 l12 hn h⟩
        · refine ⟨_, rfl, trivial, ?_⟩
          rw [show (fun i j : Int => D.bl (decide (i < j))) 1 (l.length : Int) = D.bl true from congrArg D.bl (decide_eq_true (by omega))]
          refine ⟨trivial, ?_⟩
          refine itt (by rw [decide_eq_false (show ¬ (l.length : Int) < 13 by omega)]; rfl) (no ?_)
          show (decide (2 ≤ l.length) && (decide (l.length ≤ 12) && _)) = false
          rw [decide_eq_false l12, Bool.false_and, Bool.and_false]
      · refine ⟨_, rfl, trivial, ?_⟩
        rw [show (fun i j : Int => D.bl (decide (i < j))) 1 (l.length : Int) = D.bl false from congrArg D.bl (decide_eq_false (by omega))]
        refine no ?_
        show (decide (2 ≤ l.length) && _) = false
        rw [decide_eq_false l2, Bool.false_and]
    | _ => exact retQ_pure rfl h
/-! ### _law_is_piece -/
theorem isLd_of {a m : D} (h : isLd a m = true) : ∃ i j, a = .int i ∧ m = .int j ∧ 0 ≤ i ∧ 1 ≤ j ∧ i + j ≤ 100000 := by
  unfold isLd at h
  rw [Bool.and_eq_true, Bool.and_eq_true, decide_eq_true_eq] at h
  obtain ⟨i, rfl, h1, h2⟩ := frm_i h.1
  obtain ⟨j, rfl, h3, h4⟩ := frm_i h.2.1
  exact ⟨i, j, rfl, rfl, h1, h3, h.2.2⟩
def s_law_is_piece : WF
  | [d], M, Q, _ => Ps d ∧ Q (.bl (isPcD d)) M
  | _, _, _, _ => False
def w_law_is_piece_t5 : WS := (wRet (wAndV (wBin fEq (wBin fIx (wBin fIx (wVar 8) (wC (.int 0))) (wC (.int 0))) (wTup (wCons (wC (.int 0)) (wCons (wC (.int 1)) wNil)))) (wBin fEq (wBin fIx (wBin fIx (wVar 8) (wNeg (wC (.int 1)))) (wC (.int 0))) (wTup (wCons (wVar 4) (wCons (wC (.int 1)) wNil))))))
def w_law_is_piece_t4 : WS := (wSeq (wIf (wOrT (wNotT (wTr (wCall 1 s_law_is_fraction (wCons (wVar 6) wNil)))) (wOrT (wNotT (wTr (wCall 1 s_law_is_fraction (wCons (wVar 7) wNil)))) (wOrT (wB (wBin fEq (wBin fIx (wVar 7) (wC (.int 0))) (wC (.int 0)))) (wNotT (wTr (wCall 1 s_law_is_shape (wCons (wVar 8) wNil)))))))
  (wRet (wC (.bl false)))
  wNext)
  (w_law_is_piece_t5))
def w_law_is_piece_t3 : WS := (wSeq (wIf (wOrT (wNotT (wTr (wCall 3 s_law_is_from (wCons (wVar 4) (wCons (wC (.int 1)) (wCons (wBin fSub (wC (.int 100000)) (wVar 3)) wNil)))))) (wOrT (wNotT (wTr (wIsi .str (wVar 5)))) (wB (wBin (fIn true) (wVar 5) (wFz (wLst (wCons (wC (.str "free")) (wCons (wC (.str "bound")) wNil))))))))
  (wRet (wC (.bl false)))
  wNext)
  (w_law_is_piece_t4))
def w_law_is_piece_t2 : WS := (wSeq (wIf (wOrT (wNotT (wTr (wCall 3 s_law_is_from (wCons (wVar 1) (wCons (wC (.int 1)) (wCons (wC (.int 99999)) wNil)))))) (wOrT (wNotT (wTr (wCall 1 s_law_is_name (wCons (wVar 2) wNil)))) (wNotT (wTr (wCall 3 s_law_is_from (wCons (wVar 3) (wCons (wC (.int 0)) (wCons (wC (.int 99999)) wNil))))))))
  (wRet (wC (.bl false)))
  wNext)
  (w_law_is_piece_t3))
def w_law_is_piece_t1 : WS := (wSeq (wAsg (wVar 0) (gTupD 8 (gC (gSet 1) (gC (gSet 2) (gC (gSet 3) (gC (gSet 4) (gC (gSet 5) (gC (gSet 6) (gC (gSet 7) (gC (gSet 8) gN))))))))))
  (w_law_is_piece_t2))
def w_law_is_piece : WS := (wSeq (wIf (wOrT (wNotT (wTr (wIsi .tuple (wVar 0)))) (wB (wBin fNe (wCB fLen (wCons (wVar 0) wNil)) (wC (.int 8)))))
  (wRet (wC (.bl false)))
  wNext)
  (w_law_is_piece_t1))
theorem from_b {d : D} {a b : Int} {M : Me} {Q : D → Me → Prop} {E : EX → Me → Prop} (h : hasT d = true) (q : Q (.bl (isFrm d a b)) M) : s_law_is_from [d, .int a, .int b] M Q E := ⟨h, q⟩
theorem isAb_iff {d : D} : isAb d = true ↔ isNb d = true ∧ ∀ a b, d = .tup [a, b] → a ≠ .int 0 := by
  constructor
  · intro h
    obtain ⟨q, rfl, q0, _⟩ := isAb_fr h
    refine ⟨isNb_fr (by grind), fun a b e z => ?_⟩
    have e : D.tup [.int q.num, .int (q.den : Int)] = .tup [a, b] := e
    rw [z] at e
    simp only [D.tup.injEq, List.cons.injEq, D.int.injEq, and_true] at e
    have := num_ps q0
    omega
  · rintro ⟨h1, h2⟩
    obtain ⟨q, rfl, q0⟩ := isNb_of h1
    have h3 := h2 (.int q.num) (.int (q.den : Int)) rfl
    have q1 : 0 < q := by
      have h4 : q ≠ 0 := fun z => h3 (by rw [z]; rfl)
      grind
    unfold isAb; rw [frA_fr q1]; rfl
theorem vc_law_is_piece (ds : List D) (M : Me) (QD : D → Me → Prop) (ED : EX → Me → Prop) (hl : ds.length = 1) (h : s_law_is_piece ds M QD ED) : w_law_is_piece (env0 9 ds) M (retE M QD ED) := by
  match ds, h with
  | [d], ⟨hd, h⟩ =>
    refine ⟨hd.ht, ?_⟩
    cases d with
    | tup l =>
      by_cases l8 : l.length = 8
      · match l, l8, hd, h with
        | [n, t, a, m, w, s, v, sh], _, hd, h =>
          have hn := hd.all n (by simp)
          have ht := hd.all t (by simp)
          have ha := hd.all a (by simp)
          have hm := hd.all m (by simp)
          have hw := hd.all w (by simp)
          have hs := hd.all s (by simp)
          have hv := hd.all v (by simp)
          have hsh := hd.all sh (by simp)
          have h : QD (.bl (isFrm n 1 99999 && (isNm t && (isLd a m && (isWy w && (isNb s && (isAb v && (isSh sh && endB sh m)))))))) M := h
          have no : ∀ {A : Bool}, A = false → QD (.bl A) M → retQ M QD (.bl false) M := fun e hq => by rw [e] at hq; exact retQ_pure rfl hq
          refine ⟨_, rfl, rfl, rfl, from_b hn.ht ?_⟩
          cases e1 : isFrm n 1 99999 with
          | false => exact no (by rw [e1]; rfl) h
          | true =>
            rw [e1, Bool.true_and] at h
            refine ⟨rfl, ht.ht, ht.line, ?_⟩
            cases e2 : isNm t with
            | false => exact no (by rw [e2]; rfl) h
            | true =>
              rw [e2, Bool.true_and] at h
              refine ⟨rfl, from_b ha.ht ?_⟩
              cases e3 : isFrm a 0 99999 with
              | false =>
                refine no ?_ h
                have : isLd a m = false := by
                  cases e : isLd a m with
                  | false => rfl
                  | true =>
                    obtain ⟨i, j, rfl, rfl, h1, h2, h3⟩ := isLd_of e
                    have : (decide (0 ≤ i) && decide (i ≤ 99999)) = false := e3
                    rw [decide_eq_true h1, decide_eq_true (show i ≤ 99999 by omega)] at this
                    cases this
                rw [this]; rfl
              | true =>
                obtain ⟨i, rfl, i0, i1⟩ := frm_i e3
                refine ⟨trivial, rfl, from_b hm.ht ?_⟩
                have e4 : isLd (.int i) m = isFrm m 1 (100000 - i) := by
                  rw [Bool.eq_iff_iff]
                  constructor
                  · intro e
                    obtain ⟨i', j, ei, rfl, h1, h2, h3⟩ := isLd_of e
                    cases ei
                    show (decide (1 ≤ j) && decide (j ≤ 100000 - i)) = true
                    rw [decide_eq_true h2, decide_eq_true (show j ≤ 100000 - i by omega)]; rfl
                  · intro e
                    obtain ⟨j, rfl, j0, j1⟩ := frm_i e
                    show ((decide (0 ≤ i) && decide (i ≤ 100000)) && ((decide (1 ≤ j) && decide (j ≤ 100000)) && decide (i + j ≤ 100000))) = true
                    rw [decide_eq_true i0, decide_eq_true (show i ≤ 100000 by omega), decide_eq_true j0, decide_eq_true (show j ≤ 100000 by omega), decide_eq_true (show i + j ≤ 100000 by omega)]; rfl
                rw [e4] at h
                cases e5 : isFrm m 1 (100000 - i) with
                | false => exact no (by rw [e5]; rfl) h
                | true =>
                  rw [e5, Bool.true_and] at h
                  refine ⟨hw.ht, ?_⟩
                  cases w with
                  | str x =>
                    have h : QD (.bl (inD (.str x) [.str "free", .str "bound"] && (isNb s && (isAb v && (isSh sh && endB sh m))))) M := h
                    refine ⟨(by show 2 ≤ sizeLine; decide), _, rfl, rfl, rfl, ?_⟩
                    show if (!inD (.str x) [.str "free", .str "bound"]) = true then _ else _
                    cases e6 : inD (.str x) [.str "free", .str "bound"] with
                    | false => exact itt rfl (no (by rw [e6]; rfl) h)
                    | true =>
                      rw [e6, Bool.true_and] at h
                      refine itf rfl ⟨rfl, hs.lv ?_⟩
                      cases e7 : isNb s with
                      | false => exact no (by rw [e7]; rfl) h
                      | true =>
                        rw [e7, Bool.true_and] at h
                        refine ⟨rfl, hv.lv ?_⟩
                        cases e8 : isNb v with
                        | false => exact no (by
                            cases e : isAb v with
                            | false => rfl
                            | true => rw [(isAb_iff.mp e).1] at e8; cases e8) h
                        | true =>
                          obtain ⟨q, rfl, q0⟩ := isNb_of e8
                          refine ⟨_, _, rfl, rfl, wC_at (eq_noB (n := 1) (m := 1) (x := .int q.num) (y := .int 0) rfl rfl fun b hb => ?_)⟩
                          have ev : isAb (fr q) = !b := by
                            rw [Bool.eq_iff_iff, isAb_iff]
                            constructor
                            · rintro ⟨_, h2⟩
                              cases b with
                              | false => rfl
                              | true => exact absurd (hb.mp rfl) (h2 (.int q.num) (.int (q.den : Int)) rfl)
                            · intro z
                              cases b with
                              | true => cases z
                              | false =>
                                refine ⟨isNb_fr q0, fun a b e z => ?_⟩
                                have e : D.tup [.int q.num, .int (q.den : Int)] = .tup [a, b] := e
                                simp only [D.tup.injEq, List.cons.injEq, and_true] at e
                                rw [z] at e
                                exact Bool.noConfusion (hb.mpr e.1)
                          rw [ev] at h
                          cases b with
                          | true => exact no rfl h
                          | false =>
                            have h : QD (.bl (isSh sh && endB sh m)) M := h
                            refine ⟨rfl, hsh, ?_⟩
                            cases e9 : isSh sh with
                            | false => exact no (by rw [e9]; rfl) h
                            | true =>
                              rw [e9, Bool.true_and] at h
                              cases sh with
                              | tup l =>
                                obtain ⟨s1, s2, s3, s4, s5⟩ := isSh_of e9
                                obtain ⟨C, hC⟩ : ∃ C, C = l.map toC := ⟨_, rfl⟩
                                rw [← hC] at s3
                                have lC : C.length = l.length := by rw [hC, List.length_map]
                                obtain ⟨c0, g0⟩ : ∃ c, C[0]? = some c := ⟨_, List.getElem?_eq_getElem (by omega)⟩
                                obtain ⟨c1, g1⟩ : ∃ c, C[C.length - 1]? = some c := ⟨_, List.getElem?_eq_getElem (by omega)⟩
                                have hE : endB (.tup l) m = (decide (c0.1 = 0) && decide (c1.1 = (valI m : Rat))) := by
                                  show (decide (((l.map toC).getD 0 (0, 0)).1 = 0) && decide (((l.map toC).getD (l.length - 1) (0, 0)).1 = (valI m : Rat))) = _
                                  rw [← hC, ← lC, gd_at g0, gd_at g1]
                                rw [hE] at h
                                obtain ⟨k, rfl, _, _⟩ := frm_i e5
                                have a0 : atI l 0 = some (cnD c0) := by rw [s3]; exact at_map g0 rfl
                                have a1 : atI l (-1) = some (cnD c1) := by rw [s3]; exact at_last g1
                                refine ⟨_, _, rfl, a0, _, _, rfl, rfl, (by show 2 ≤ sizeLine; decide), ?_⟩
                                refine eq_noB (n := 1) (m := 2) (noB_fr 0 _) rfl fun b hb => ?_
                                have eb : b = decide (c0.1 = 0) := by
                                  rw [Bool.eq_iff_iff, hb, decide_eq_true_eq, ← fr0]
                                  exact ⟨fr_inj0, fun z => by rw [z]⟩
                                subst eb
                                cases e10 : decide (c0.1 = 0) with
                                | false => exact no (by rw [e10]; rfl) h
                                | true =>
                                  rw [e10, Bool.true_and] at h
                                  refine ⟨_, _, rfl, a1, _, _, rfl, rfl, (by show 2 ≤ sizeLine; decide), ?_⟩
                                  refine eq_noB (n := 1) (m := 2) (noB_fr 0 _) rfl fun b hb => ?_
                                  have eb : b = decide (c1.1 = (k : Rat)) := by
                                    rw [Bool.eq_iff_iff, hb, decide_eq_true_eq, ← fr_int]
                                    exact ⟨fr_inj0, fun z => by rw [z]⟩
                                  subst eb
                                  exact retQ_pure rfl h
                              | _ => cases e9
                  | _ => exact no rfl h
      · rw [pc_len l8] at h
        refine ⟨_, rfl, ?_⟩
        exact itt (by rw [decide_eq_false (show ¬ (l.length : Int) = 8 by omega)]; rfl) (retQ_pure rfl h)
    | _ => exact retQ_pure rfl h
/-! ### _law_right -/
theorem wts_map_le {α : Type} {f : α → D} {c : Nat} : ∀ {l : List α}, (∀ x ∈ l, wt (f x) ≤ c) → wts (l.map f) ≤ l.length * (c + 2)
  | [], _ => Nat.zero_le _
  | x :: l, h => by
    have h1 := h x List.mem_cons_self
    have h2 := wts_map_le (l := l) fun y hy => h y (List.mem_cons_of_mem _ hy)
    rw [List.map_cons, wts, List.length_cons, Nat.add_mul]
    omega
theorem dps_map_le {α : Type} {f : α → D} {c : Nat} : ∀ {l : List α}, (∀ x ∈ l, dp (f x) ≤ c) → dps (l.map f) ≤ c
  | [], _ => Nat.zero_le _
  | x :: l, h => by
    have h1 := h x List.mem_cons_self
    have h2 := dps_map_le (l := l) fun y hy => h y (List.mem_cons_of_mem _ hy)
    rw [List.map_cons, dps]
    omega
theorem Ps.tk {d : D} (h : Ps d) : TkIn d := ⟨h.ht, fun a b e => by
  subst e
  have ha := h.all a (by simp)
  have hb := h.all b (by simp)
  exact ⟨ha.ht, ha.line, hb.ht, fun l e => by subst e; exact ⟨by have := hb.len; omega, fun x hx => (hb.all x hx).ht⟩⟩⟩
def s_law_right : WF
  | [d], M, Q, _ => (∃ m, m ≤ 5 ∧ Pq m d ∧ dp d ≤ 50 ∧ wt d ≤ 16000000) ∧ Q (.bl true) M
  | _, _, _, _ => False
def w_law_right_t3 : WS := (wRet (wC (.bl true)))
def w_law_right_t2 : WS := (wSeq (wFor (wIR1 (wCons (wC (.int 2)) wNil)) (gSet 3)
  (wSeq (wSet 4 (wFz (wLst (wCons (wCall 1 s_is_take (wCons (wVar 0) wNil)) (wCons (wCall 1 s_is_shape (wCons (wVar 0) wNil)) (wCons (wCall 1 s_is_piece (wCons (wVar 0) wNil)) wNil))))))
  (wIf (wOrT (wB (wBin fNeNil (wFz (wLc (wISq (wVar 4)) (gSet 5) (wNotT (wTr (wIsi .bool (wVar 5)))) (wVar 5) [5])) (wFz (wLst wNil)))) (wOrT (wB (wBin fNe (wVar 4) (wVar 2))) (wB (wBin fNe (wCB fRepr (wCons (wVar 0) wNil)) (wVar 1)))))
  (wRet (wC (.bl false)))
  wNext)))
  (w_law_right_t3))
def w_law_right_t1 : WS := (wSeq (wSet 2 (wFz (wLst (wCons (wCall 1 s_law_is_take (wCons (wVar 0) wNil)) (wCons (wCall 1 s_law_is_shape (wCons (wVar 0) wNil)) (wCons (wCall 1 s_law_is_piece (wCons (wVar 0) wNil)) wNil))))))
  (w_law_right_t2))
def w_law_right : WS := (wSeq (wSet 1 (wCB fRepr (wCons (wVar 0) wNil)))
  (w_law_right_t1))
theorem vc_law_right (ds : List D) (M : Me) (QD : D → Me → Prop) (ED : EX → Me → Prop) (hl : ds.length = 1) (h : s_law_right ds M QD ED) : w_law_right (env0 6 ds) M (retE M QD ED) := by
  match ds, h with
  | [d], ⟨⟨m, hm, pq, hd, hw⟩, h⟩ =>
    have rp := pq.rp hm
    have ps := pq.ps hm
    have hw2 : wt d ≤ sizeLine := Nat.le_trans hw (by decide)
    have s3 : 3 ≤ sizeLine := by decide
    unfold w_law_right wSeq wSet
    refine wRepr_at rfl rp (by omega) hw2 ?_
    refine ⟨rfl, ps, rfl, ps, rfl, ps, s3, ⟨by decide, by decide⟩, ?_⟩
    refine forGo_ix (fun i env M' => M' = M ∧ ∃ y3 y4 y5 : Option D, env = [some d, some (.str (txt d)), some (.lst [.bl (isTk d), .bl (isSh d), .bl (isPcD d)]), y3, y4, y5]) ?_ ?_ ⟨rfl, _, _, _, rfl⟩
    · rintro i e env M' K he ⟨rfl, y3, y4, y5, rfl⟩ hK
      refine ⟨trivial, rfl, ps.tk, rfl, .inr ⟨ps, rfl, .inr ⟨ps, s3, _, _, rfl, ?_⟩⟩⟩
      refine lcGo_ix (fun j acc M1 => M1 = M' ∧ acc = []) ?_ ?_ ⟨rfl, rfl⟩
      · rintro j e2 acc M1 K2 he2 ⟨rfl, rfl⟩ hK2
        have hb : ∃ b : Bool, e2 = .bl b := by
          have := List.mem_of_getElem? he2
          simp only [List.mem_cons, List.not_mem_nil, or_false] at this
          rcases this with rfl | rfl | rfl <;> exact ⟨_, rfl⟩
        obtain ⟨b, rfl⟩ := hb
        refine ⟨trivial, rfl, ?_⟩
        exact hK2 _ _ ⟨rfl, rfl⟩
      · rintro acc M1 ⟨rfl, rfl⟩
        refine ⟨trivial, (by show 0 ≤ sizeLine; decide), ?_⟩
        have e : PyData.eqv (.list [.bool (isTk d), .bool (isSh d), .bool (isPcD d)]) (.list [.bool (isTk d), .bool (isSh d), .bool (isPcD d)]) = true := by
          cases isTk d <;> cases isSh d <;> cases isPcD d <;> simp [PyData.eqv, PyData.eqvAll]
        refine ⟨_, _, rfl, rfl, rfl, rfl, itf (by show (!PyData.eqv (.list [.bool (isTk d), .bool (isSh d), .bool (isPcD d)]) (.list [.bool (isTk d), .bool (isSh d), .bool (isPcD d)])) = false; rw [e]; rfl) ?_⟩
        refine wNeRepr_at rfl rfl rp (by omega) hw2 ?_
        exact hK _ _ ⟨rfl, _, _, _, rfl⟩
    · rintro env M' ⟨rfl, y3, y4, y5, rfl⟩
      exact ⟨trivial, retQ_pure rfl h⟩
/-! ### law -/
theorem sh_isSh {m : Nat} {l : List (Rat × Rat)} (h : ShapeOk m l) : isSh (.tup (l.map cnD)) = true := by
  have e : (l.map cnD).map toC = l := by
    rw [List.map_map]
    refine (List.map_congr_left fun c _ => toC_cn c).trans (List.map_id _)
  show (decide (2 ≤ (l.map cnD).length) && (decide ((l.map cnD).length ≤ 12) && ((l.map cnD).all isCn && (incB ((l.map cnD).map toC) && !strA ((l.map cnD).map toC))))) = true
  have e1 : (l.map cnD).all isCn = true := List.all_eq_true.mpr fun x hx => by
    obtain ⟨c, hc, rfl⟩ := List.mem_map.mp hx
    show (isNb (fr c.1) && isNb (fr c.2)) = true
    rw [isNb_fr (h.cn c hc).x0, isNb_fr (h.cn c hc).y0]; rfl
  have e2 : incB l = true := List.all_eq_true.mpr fun k hk => by
    have hk := List.mem_range.mp hk
    have h1 : l[k]? = some l[k] := List.getElem?_eq_getElem (by omega)
    have h2 : l[k + 1]? = some l[k + 1] := List.getElem?_eq_getElem (by omega)
    rw [gd_at h1, gd_at h2]
    exact decide_eq_true (h.inc k _ _ h1 h2)
  have e3 : strA l = false := List.any_eq_false.mpr fun k hk => by
    have hk := List.mem_range.mp hk
    have h1 : l[k]? = some l[k] := List.getElem?_eq_getElem (by omega)
    have h2 : l[k + 1]? = some l[k + 1] := List.getElem?_eq_getElem (by omega)
    have h3 : l[k + 2]? = some l[k + 2] := List.getElem?_eq_getElem (by omega)
    rw [gd_at h1, gd_at h2, gd_at h3, h.bent k _ _ _ h1 h2 h3]
    exact Bool.false_ne_true
  rw [e, e1, e2, e3, List.length_map, decide_eq_true h.two, decide_eq_true h.few]; rfl
theorem isWy_wayS (b : Bool) : isWy (.str (wayS b)) = true := by cases b <;> decide
theorem pc_isPcD {m : Nat} {p : Pc} (h : PcOk m p) : isPcD (pcD p) = true := by
  show (isFrm (.int p.n) 1 99999 && (nmB p.take && (isLd (.int p.at_) (.int p.many) && (isWy (.str (wayS p.bound)) && (isNb (fr p.start) && (isAb (fr p.speed) && (isSh (.tup (p.shape.map cnD)) && endB (.tup (p.shape.map cnD)) (.int p.many)))))))) = true
  have h1 := h.n1; have h2 := h.n2; have h3 := h.at0; have h4 := h.m1; have h5 := h.fin
  have e1 : isFrm (.int p.n) 1 99999 = true := isFrm_at h1 h2
  have e2 : isLd (.int p.at_) (.int p.many) = true := by
    show (isFrm (.int p.at_) 0 100000 && (isFrm (.int p.many) 1 100000 && decide (p.at_ + p.many ≤ 100000))) = true
    rw [isFrm_at h3 (by omega), isFrm_at h4 (by omega), decide_eq_true h5]; rfl
  have e3 : isAb (fr p.speed) = true := by unfold isAb; rw [frA_fr h.sp0]; rfl
  have e4 : endB (.tup (p.shape.map cnD)) (.int p.many) = true := by
    have e : (p.shape.map cnD).map toC = p.shape := by
      rw [List.map_map]
      refine (List.map_congr_left fun c _ => toC_cn c).trans (List.map_id _)
    have ht := h.sh.two
    show (decide ((((p.shape.map cnD).map toC).getD 0 (0, 0)).1 = 0) && decide ((((p.shape.map cnD).map toC).getD ((p.shape.map cnD).length - 1) (0, 0)).1 = (p.many : Rat))) = true
    have h1 : p.shape[0]? = some p.shape[0] := List.getElem?_eq_getElem (by omega)
    have h2 : p.shape[p.shape.length - 1]? = some p.shape[p.shape.length - 1] := List.getElem?_eq_getElem (by omega)
    rw [e, List.length_map, gd_at h1, gd_at h2, decide_eq_true (h.fst _ h1), decide_eq_true (h.lst _ h2)]; rfl
  rw [e1, h.tk, e2, isWy_wayS, isNb_fr h.st0, e3, sh_isSh h.sh, e4]; rfl
theorem dp_mem : ∀ {l : List D} {x : D}, x ∈ l → dp x ≤ dps l
  | y :: l, x, h => by
    rw [dps]
    rcases List.mem_cons.mp h with rfl | z
    · exact Nat.le_max_left _ _
    · exact Nat.le_trans (dp_mem z) (Nat.le_max_right _ _)
theorem dps_le : ∀ {l : List D} {E : Nat}, (∀ x ∈ l, dp x ≤ E) → dps l ≤ E
  | [], _, _ => Nat.zero_le _
  | y :: l, E, h => by
    rw [dps]
    exact Nat.max_le.mpr ⟨h y List.mem_cons_self, dps_le fun x hx => h x (List.mem_cons_of_mem _ hx)⟩
theorem dp_tup_le {l : List D} {E : Nat} (h : ∀ x ∈ l, dp x ≤ E) : dp (.tup l) ≤ E + 1 := by
  rw [dp]
  have := dps_le h
  omega
theorem pq_l {m : Nat} {l : List D} (h : ∀ d ∈ l, Pq m d) (hl : l.length ≤ 200) : Pq m (.tup l) := .tup h (by omega)
theorem letters_str : (("abcdefghijklmnopqrstuvwxyz" : Str).cps.toList.all (· < 0x110000)) = true := by decide +kernel
theorem in_str {c : Nat} (h : inStr ⟨#[c]⟩ "abcdefghijklmnopqrstuvwxyz" = true) : c < 0x110000 := by
  refine Nat.lt_of_not_le fun z => ?_
  have e : Builtin.Str.occurrences ("abcdefghijklmnopqrstuvwxyz" : Str) ⟨#[c]⟩ 0 ("abcdefghijklmnopqrstuvwxyz" : Str).length 1 = [] := PySem.W.occ_nil_of_no _ _ 1 fun i _ => by
    unfold Builtin.Str.subAt
    cases q : (("abcdefghijklmnopqrstuvwxyz" : Str).cps.extract i (i + (⟨#[c]⟩ : Str).length) == (⟨#[c]⟩ : Str).cps) with
    | false => rfl
    | true =>
      have q := eq_of_beq q
      have q := congrArg Array.toList q
      rw [Array.toList_extract] at q
      have m : c ∈ (("abcdefghijklmnopqrstuvwxyz" : Str).cps.toList.extract i (i + (⟨#[c]⟩ : Str).length)) := by rw [q]; exact List.mem_singleton.mpr rfl
      rw [List.extract_eq_drop_take] at m
      have m := List.mem_of_mem_drop (List.mem_of_mem_take m)
      have := of_decide_eq_true (List.all_eq_true.mp letters_str c m)
      omega
  unfold inStr at h
  rw [e] at h
  cases h
theorem nm_ch {x : Str} (h : nmB x = true) : ∀ c ∈ x.cps.toList, c < 16 ^ 8 := fun c hc => by
  have h3 := (He.ba (He.ba h).2).2
  have := in_str (List.all_eq_true.mp h3 c hc)
  omega
/-- good plain data of such measures -/
structure Pw (W E : Nat) (d : D) : Prop where
  q : Pq 0 d
  w : wt d ≤ W
  e : dp d ≤ E
theorem Pw.mono {W E W' E' : Nat} {d : D} (h : Pw W E d) (h1 : W ≤ W') (h2 : E ≤ E') : Pw W' E' d := ⟨h.q, Nat.le_trans h.w h1, Nat.le_trans h.e h2⟩
theorem pw_int {i : Int} (h : Sm 100 i) : Pw 1921 1 (.int i) := ⟨.int h, Nat.le_refl _, Nat.le_refl _⟩
theorem pw_str {x : Str} (h : ∀ c ∈ x.cps.toList, c < 16 ^ 8) (h8 : x.length ≤ 8) : Pw 90 1 (.str x) := ⟨.str (by omega) h, by simp only [wt]; omega, Nat.le_refl _⟩
theorem pw_nm {x : Str} (h : nmB x = true) : Pw 90 1 (.str x) := pw_str (nm_ch h) (nm_len h).2
theorem pw_tup {l : List D} {W E : Nat} (h : ∀ d ∈ l, Pq 0 d) (hl : l.length ≤ 210) (hw : wts l ≤ W) (he : ∀ d ∈ l, dp d ≤ E) : Pw (4 + W) (E + 1) (.tup l) := ⟨.tup h hl, by simp only [wt]; omega, dp_tup_le he⟩
theorem pw_map {α : Type} {f : α → D} {l : List α} {W E : Nat} (k : Nat) (h : ∀ x ∈ l, Pw W E (f x)) (hl : l.length ≤ k) (hk : k ≤ 210) : Pw (4 + k * (W + 2)) (E + 1) (.tup (l.map f)) := by
  refine pw_tup (fun d hd => ?_) (by rw [List.length_map]; omega) (Nat.le_trans (wts_map_le fun x hx => (h x hx).w) (Nat.mul_le_mul hl (Nat.le_refl _))) fun d hd => ?_
  · obtain ⟨x, hx, rfl⟩ := List.mem_map.mp hd
    exact (h x hx).q
  · obtain ⟨x, hx, rfl⟩ := List.mem_map.mp hd
    exact (h x hx).e
theorem pw_two {x y : D} {W1 W2 E : Nat} (h1 : Pw W1 E x) (h2 : Pw W2 E y) : Pw (8 + W1 + W2) (E + 1) (.tup [x, y]) := by
  have a := h1.w
  have b := h2.w
  refine (pw_tup (W := W1 + W2 + 4) (E := E) (fun d hd => ?_) (by show 2 ≤ 210; decide) (by simp only [wts]; omega) fun d hd => ?_).mono (by omega) (Nat.le_refl _)
  · simp only [List.mem_cons, List.not_mem_nil, or_false] at hd
    rcases hd with rfl | rfl
    · exact h1.q
    · exact h2.q
  · simp only [List.mem_cons, List.not_mem_nil, or_false] at hd
    rcases hd with rfl | rfl
    · exact h1.e
    · exact h2.e
theorem pw_fr {m : Nat} {q : Rat} (h : Fs m q) (hm : m ≤ 42) : Pw 3850 2 (fr q) := pw_two (pw_int ((h.mono hm).1.mono (by decide))) (pw_int ((h.mono hm).2.mono (by decide)))
theorem pw_smi {i : Int} (h : -200000 ≤ i ∧ i ≤ 200000) : Pw 1921 1 (.int i) := pw_int (Sm.mono (show Sm 20 i by unfold Sm; omega) (by decide))
theorem pw_pc {p : Pc} (h : PcOk 42 p) : Pw 106200 5 (pcD p) := by
  have n1 := h.n1
  have n2 := h.n2
  have a0 := h.at0
  have m1 := h.m1
  have fi := h.fin
  have i1 := pw_smi (i := p.n) (by omega)
  have i2 := pw_nm h.tk
  have i3 := pw_smi (i := p.at_) (by omega)
  have i4 := pw_smi (i := p.many) (by omega)
  have i5 : Pw 90 1 (.str (wayS p.bound)) := by cases p.bound <;> exact pw_str (by decide) (by decide)
  have i6 := pw_fr h.fs (by decide)
  have i7 := pw_fr h.fp (by decide)
  have i8 := pw_map (f := cnD) 12 (fun c hc => pw_two (pw_fr (h.sh.cn c hc).fx (by decide)) (pw_fr (h.sh.cn c hc).fy (by decide))) h.sh.few (by decide)
  have a1 := i1.w; have a2 := i2.w; have a3 := i3.w; have a4 := i4.w; have a5 := i5.w; have a6 := i6.w; have a7 := i7.w; have a8 := i8.w
  refine (pw_tup (W := 106196) (E := 4) (fun d hd => ?_) (by show 8 ≤ 210; decide) (by simp only [wts]; omega) fun d hd => ?_).mono (by omega) (Nat.le_refl _)
  · simp only [List.mem_cons, List.not_mem_nil, or_false] at hd
    rcases hd with rfl | rfl | rfl | rfl | rfl | rfl | rfl | rfl
    · exact i1.q
    · exact i2.q
    · exact i3.q
    · exact i4.q
    · exact i5.q
    · exact i6.q
    · exact i7.q
    · exact i8.q
  · simp only [List.mem_cons, List.not_mem_nil, or_false] at hd
    rcases hd with rfl | rfl | rfl | rfl | rfl | rfl | rfl | rfl
    · exact Nat.le_trans i1.e (by decide)
    · exact Nat.le_trans i2.e (by decide)
    · exact Nat.le_trans i3.e (by decide)
    · exact Nat.le_trans i4.e (by decide)
    · exact Nat.le_trans i5.e (by decide)
    · exact Nat.le_trans i6.e (by decide)
    · exact Nat.le_trans i7.e (by decide)
    · exact Nat.le_trans i8.e (by decide)
def s_law : WF
  | [.fls l], M, Q, _ => M = [] ∧ ∃ cs : List Int, l = cs.map .int ∧ cs.length ≤ 63 ∧ Q (.bl true) []
  | _, _, _, _ => False
def w_law_t8 : WS := (wRet (wC (.bl true)))
def w_law_t7 : WS := (wSeq (wFor (wISq (wFz (wBinF fCat (wVar 9) (wFz (wLst (wCons (wTup (wCons (wTup (wCons (wTup (wCons (wC (.int 0)) (wCons (wC (.int 1)) wNil))) (wCons (wTup (wCons (wC (.int 1)) (wCons (wC (.int 1)) wNil))) wNil))) (wCons (wTup (wCons (wTup (wCons (wC (.int 0)) (wCons (wC (.int 1)) wNil))) (wCons (wTup (wCons (wC (.int 1)) (wCons (wC (.int 1)) wNil))) wNil))) wNil))) wNil)))))) (gSet 7)
  (wIf (wNotT (wTr (wCall 1 s_law_right (wCons (wVar 7) wNil))))
  (wRet (wC (.bl false)))
  wNext))
  (w_law_t8))
def w_law_t6 : WS := (wSeq (wSet 9 (wMu (wBinF fCat (wVar 9) (wFz (wLst (wCons (wC .non) (wCons (wC (.int 0)) (wCons (wC (.str "")) (wCons (wTup wNil) (wCons (wFz (wLst wNil)) (wCons wDct0 (wCons (wC (.bl true)) (wCons (wC (.str "free")) (wCons (wTup (wCons (wTup (wCons (wC (.int 0)) (wCons (wC (.int 1)) wNil))) (wCons (wTup (wCons (wC (.int 1)) (wCons (wC (.int 1)) wNil))) wNil))) wNil))))))))))))))
  (w_law_t7))
def w_law_t5 : WS := (wSeq (wFor (wIR2 (wCons (wC (.int 2)) (wCons (wC (.int 12)) wNil))) (gSet 10)
  (wSeq (wSet 11 (wCall 2 s_law_draw (wCons (wVar 1) (wCons (wBin fSub (wVar 10) (wC (.int 1))) wNil))))
  (wSeq (wSet 12 (wBin fAdd (wBin fAdd (wSl (wVar 8) wNo (wPart (wBin fAdd (wVar 11) (wC (.int 1))))) (wTup (wCons (wTup (wCons (wTup (wCons (wBin fAdd (wBin fMul (wC (.int 2)) (wVar 11)) (wC (.int 1))) (wCons (wC (.int 2)) wNil))) (wCons (wTup (wCons (wC (.int 3)) (wCons (wC (.int 2)) wNil))) wNil))) wNil))) (wSl (wVar 8) (wPart (wBin fAdd (wVar 11) (wC (.int 1)))) (wPart (wVar 10)))))
  (wSet 9 (wMu (wBinF fCat (wVar 9) (wFz (wLst (wCons (wVar 12) (wCons (wTup (wCons (wC (.int 5)) (wCons (wC (.str "ab")) (wCons (wC (.int 0)) (wCons (wBin fSub (wVar 10) (wC (.int 1))) (wCons (wC (.str "free")) (wCons (wTup (wCons (wC (.int 0)) (wCons (wC (.int 1)) wNil))) (wCons (wTup (wCons (wC (.int 1)) (wCons (wC (.int 1)) wNil))) (wCons (wVar 12) wNil))))))))) wNil))))))))))
  (w_law_t6))
def w_law_t4 : WS := (wSeq (wDrop (wBM fAppend (wVar 9) (wCons (wTup (wCons (wC (.int 5)) (wCons (wC (.str "ab")) (wCons (wC (.int 0)) (wCons (wC (.int 11)) (wCons (wC (.str "bound")) (wCons (wTup (wCons (wC (.int 0)) (wCons (wC (.int 1)) wNil))) (wCons (wTup (wCons (wC (.int 1)) (wCons (wC (.int 1)) wNil))) (wCons (wSl (wVar 8) wNo (wPart (wC (.int 12)))) wNil))))))))) wNil)))
  (w_law_t5))
def w_law_t3 : WS := (wSeq (wSet 9 (wMu (wLst (wCons (wVar 8) (wCons (wSl (wVar 8) wNo (wPart (wC (.int 12)))) (wCons (wTup (wCons (wC (.int 5)) (wCons (wC (.str "ab")) (wCons (wC (.int 0)) (wCons (wC (.int 12)) (wCons (wC (.str "free")) (wCons (wTup (wCons (wC (.int 0)) (wCons (wC (.int 1)) wNil))) (wCons (wTup (wCons (wC (.int 1)) (wCons (wC (.int 1)) wNil))) (wCons (wVar 8) wNil))))))))) wNil))))))
  (w_law_t4))
def w_law_t2 : WS := (wSeq (wSet 8 (wCB fTuple (wCons (wFz (wLc (wIR1 (wCons (wC (.int 13)) wNil)) (gSet 11) wYes (wTup (wCons (wTup (wCons (wVar 11) (wCons (wC (.int 1)) wNil))) (wCons (wTup (wCons (wBin fAdd (wC (.int 1)) (wBin fMod (wVar 11) (wC (.int 2)))) (wCons (wC (.int 1)) wNil))) wNil))) [11])) wNil)))
  (w_law_t3))
def w_law_t1 : WS := (wSeq (wFor (wIR1 (wCons (wC (.int 5)) wNil)) (gSet 2)
  (wSeq (wSet 3 (wCall 1 s_law_piece (wCons (wVar 1) wNil)))
  (wSeq (wSet 4 (wFz (wLst (wCons (wCall 1 s_law_take (wCons (wVar 1) wNil)) (wCons (wBin fIx (wVar 3) (wC (.int 7))) (wCons (wVar 3) wNil))))))
  (wSeq (wIf (wB (wBin fNe (wFz (wLst (wCons (wCall 1 s_is_take (wCons (wBin fIx (wVar 4) (wC (.int 0))) wNil)) (wCons (wCall 1 s_is_shape (wCons (wBin fIx (wVar 4) (wC (.int 1))) wNil)) (wCons (wCall 1 s_is_piece (wCons (wBin fIx (wVar 4) (wC (.int 2))) wNil)) wNil))))) (wFz (wLst (wCons (wC (.bl true)) (wCons (wC (.bl true)) (wCons (wC (.bl true)) wNil)))))))
  (wRet (wC (.bl false)))
  wNext)
  (wFor (wISq (wVar 4)) (gSet 5)
  (wFor (wIR1 (wCons (wC (.int 4)) wNil)) (gSet 6)
  (wSeq (wSet 7 (wCall 2 s_law_spoilt (wCons (wVar 1) (wCons (wVar 5) wNil))))
  (wSeq (wIf (wB (wBin fEq (wCall 2 s_law_draw (wCons (wVar 1) (wCons (wC (.int 3)) wNil))) (wC (.int 0))))
  (wSet 7 (wCall 2 s_law_spoilt (wCons (wVar 1) (wCons (wVar 7) wNil))))
  wNext)
  (wIf (wOrT (wNotT (wTr (wCall 1 s_law_right (wCons (wVar 7) wNil)))) (wNotT (wTr (wCall 1 s_law_right (wCons (wVar 5) wNil)))))
  (wRet (wC (.bl false)))
  wNext)))))))))
  (w_law_t2))
def w_law : WS := (wSeq (wSet 1 (wCall 1 s_law_feed (wCons (wVar 0) wNil)))
  (w_law_t1))
theorem fin_true {QD : D → Me → Prop} (hQ : QD (.bl true) []) {M : Me} : retQ [] QD (.bl true) M := ⟨fun j ds hj => absurd hj (Nat.not_lt_zero _), .inl ⟨rfl, by simpa using hQ⟩⟩
theorem pw_tk {t : Tk} (h : TkOk t) : Pw 400000 9 (tkD t) := (pw_two ((pw_nm h.nm).mono (Nat.le_refl _) (show 1 ≤ 2 by decide)) (pw_map (f := D.int) 200 (fun i hi => pw_smi (by have := h.tn i hi; omega)) h.few (by decide))).mono (by decide) (by decide)
theorem pw_sh13 {C : List (Rat × Rat)} (h : ShapeOk 42 C) : Pw 400000 9 (.tup (C.map cnD)) := (pw_map (f := cnD) 12 (fun c hc => pw_two (pw_fr (h.cn c hc).fx (by decide)) (pw_fr (h.cn c hc).fy (by decide))) h.few (by decide)).mono (by decide) (by decide)
/-- a corner of the zigzag -/
def zzD (k : Nat) : D := .tup [.tup [.int (k : Int), .int 1], .tup [.int (1 + (k : Int) % 2), .int 1]]
/-- such a thing may be asked -/
def Rg (d : D) : Prop := ∃ m, m ≤ 5 ∧ Pq m d ∧ dp d ≤ 50 ∧ wt d ≤ 16000000
theorem Pw.rg {W E : Nat} {d : D} (h : Pw W E d) (hW : W ≤ 16000000) (hE : E ≤ 50) : Rg d := ⟨0, by decide, h.q, Nat.le_trans h.e hE, Nat.le_trans h.w hW⟩
abbrev zigs : List D := (List.range 13).map zzD
theorem pw_zz (k : Nat) (h : k < 13) : Pw 7708 3 (zzD k) := pw_two (pw_two (pw_smi (by omega)) (pw_smi (by decide))) (pw_two (pw_smi (by omega)) (pw_smi (by decide)))
theorem pw_zig {d : D} (h : d ∈ zigs) : Pw 7708 3 d := by
  obtain ⟨k, hk, rfl⟩ := List.mem_map.mp h
  exact pw_zz k (List.mem_range.mp hk)
theorem pw_zs {l : List D} (h : ∀ d ∈ l, Pw 7708 3 d) (hl : l.length ≤ 30) : Pw 300000 4 (.tup l) := by
  have e : l.map id = l := List.map_id l
  have := pw_map (f := id) (l := l) 30 h hl (by decide)
  rw [e] at this
  exact this.mono (by decide) (by decide)
theorem pw_pl {z : D} {n : Int} {w : Str} (hz : Pw 300000 4 z) (hn : -200000 ≤ n ∧ n ≤ 200000) (hw : w = "free" ∨ w = "bound") : Pw 400000 9 (.tup [.int 5, .str "ab", .int 0, .int n, .str w, .tup [.int 0, .int 1], .tup [.int 1, .int 1], z]) := by
  have i1 := pw_smi (i := 5) (by decide)
  have i2 : Pw 90 1 (.str ("ab" : Str)) := pw_str (by decide) (by decide)
  have i3 := pw_smi (i := 0) (by decide)
  have i4 := pw_smi hn
  have i5 : Pw 90 1 (.str w) := by rcases hw with rfl | rfl <;> exact pw_str (by decide) (by decide)
  have i6 : Pw 3850 2 (.tup [.int 0, .int 1]) := pw_two (pw_smi (by decide)) (pw_smi (by decide))
  have i7 : Pw 3850 2 (.tup [.int 1, .int 1]) := pw_two (pw_smi (by decide)) (pw_smi (by decide))
  have a1 := i1.w; have a2 := i2.w; have a3 := i3.w; have a4 := i4.w; have a5 := i5.w; have a6 := i6.w; have a7 := i7.w; have a8 := hz.w
  refine (pw_tup (W := 390000) (E := 4) (fun d hd => ?_) (by show 8 ≤ 210; decide) (by simp only [wts]; omega) fun d hd => ?_).mono (by omega) (by decide)
  · simp only [List.mem_cons, List.not_mem_nil, or_false] at hd
    rcases hd with rfl | rfl | rfl | rfl | rfl | rfl | rfl | rfl
    · exact i1.q
    · exact i2.q
    · exact i3.q
    · exact i4.q
    · exact i5.q
    · exact i6.q
    · exact i7.q
    · exact hz.q
  · simp only [List.mem_cons, List.not_mem_nil, or_false] at hd
    rcases hd with rfl | rfl | rfl | rfl | rfl | rfl | rfl | rfl
    · exact Nat.le_trans i1.e (by decide)
    · exact Nat.le_trans i2.e (by decide)
    · exact Nat.le_trans i3.e (by decide)
    · exact Nat.le_trans i4.e (by decide)
    · exact Nat.le_trans i5.e (by decide)
    · exact Nat.le_trans i6.e (by decide)
    · exact Nat.le_trans i7.e (by decide)
    · exact hz.e
theorem pq_small : ∀ i : Int, i.natAbs ≤ 1 → Pq 0 (.int i) := fun i hi => .int (show i.natAbs < 2 ^ 100 from Nat.lt_of_le_of_lt hi (by decide))
theorem pw_01 : Pw 3850 2 (.tup [.int 0, .int 1]) := pw_two (pw_smi (by decide)) (pw_smi (by decide))
theorem pw_11 : Pw 3850 2 (.tup [.int 1, .int 1]) := pw_two (pw_smi (by decide)) (pw_smi (by decide))
theorem nines : ∀ d ∈ [D.non, .int 0, .str "", .tup [], .lst [], .dct [] [], .bl true, .str "free", .tup [.tup [.int 0, .int 1], .tup [.int 1, .int 1]]], Pw 400000 9 d := fun d hd => by
  simp only [List.mem_cons, List.not_mem_nil, or_false] at hd
  rcases hd with rfl | rfl | rfl | rfl | rfl | rfl | rfl | rfl | rfl
  · exact ⟨.non, by decide +kernel, by decide +kernel⟩
  · exact ⟨pq_small 0 (by decide), by decide +kernel, by decide +kernel⟩
  · exact ⟨.str (Nat.zero_le _) (fun c hc => nomatch hc), by decide +kernel, by decide +kernel⟩
  · exact ⟨.tup (fun d hd => nomatch hd) (by decide), by decide +kernel, by decide +kernel⟩
  · exact ⟨.lst (fun d hd => nomatch hd) (by decide), by decide +kernel, by decide +kernel⟩
  · exact ⟨.dct, by decide +kernel, by decide +kernel⟩
  · exact ⟨.bl _, by decide +kernel, by decide +kernel⟩
  · exact (pw_str (x := "free") (by decide) (by decide)).mono (by decide) (by decide)
  · exact (pw_two pw_01 pw_11).mono (by decide) (by decide)
theorem nines_x : Pw 400000 9 (.tup [.tup [.tup [.int 0, .int 1], .tup [.int 1, .int 1]], .tup [.tup [.int 0, .int 1], .tup [.int 1, .int 1]]]) := (pw_two (pw_two pw_01 pw_11) (pw_two pw_01 pw_11)).mono (by decide) (by decide)
theorem cut_le (l : List D) (lo hi : Option Int) : (DL.cutD l lo hi).length ≤ l.length := by
  unfold DL.cutD
  rw [List.length_take, List.length_drop]
  omega
section
variable {QD : D → Me → Prop} {ED : EX → Me → Prop} {cs : List Int} {a r : Int}
theorem law_t6 {X : Me} {hh : Nat} {l : List D} {y2 y3 y4 y5 y6 y7 y8 y10 y11 y12 : Option D} (hQ : QD (.bl true) []) (hX : X[hh]? = some l) (hl : ∀ d ∈ l, Pw 400000 9 d) (ll : l.length ≤ 40) :
    w_law_t6 [some (.fls (cs.map .int)), some (.han 0), y2, y3, y4, y5, y6, y7, y8, some (.han (hh + 1)), y10, y11, y12] (pn cs a r :: X) (retE [] QD ED) := by
  have s0 : 0 ≤ sizeLine := by decide
  have s2 : 2 ≤ sizeLine := by decide
  have sz : ∀ n : Nat, n ≤ 1000 → n ≤ sizeLine := fun n hn => Nat.le_trans hn (by decide)
  refine ⟨s0, s0, s2, s2, s2, (by show 9 ≤ sizeLine; decide), _, _, hX, rfl, sz _ (by show l.length + 9 ≤ 1000; omega), ?_⟩
  refine ⟨s2, s2, s2, s2, s2, s2, s2, (by show 1 ≤ sizeLine; decide), _, _, last_get, rfl, sz _ (by rw [List.length_append]; show l.length + 9 + 1 ≤ 1000; omega), _, _, rfl, ?_⟩
  refine forGo_ix (fun j env M' => ∃ y7 : Option D, M' = pn cs a r :: X ++ [l ++ [D.non, .int 0, .str "", .tup [], .lst [], .dct [] [], .bl true, .str "free", .tup [.tup [.int 0, .int 1], .tup [.int 1, .int 1]]]] ∧ env = [some (.fls (cs.map .int)), some (.han 0), y2, y3, y4, y5, y6, y7, y8, some (.han (pn cs a r :: X).length), y10, y11, y12]) ?_ ?_ ⟨_, rfl, rfl⟩
  · rintro j d env M' K hd ⟨y7, rfl, rfl⟩ hK
    have hm := List.mem_of_getElem? hd
    have hp : Pw 400000 9 d := by
      rcases List.mem_append.mp hm with z | z
      · rcases List.mem_append.mp z with z | z
        · exact hl d z
        · exact nines d z
      · rw [List.mem_singleton.mp z]
        exact nines_x
    refine ⟨trivial, rfl, hp.rg (by decide) (by decide), ?_⟩
    exact hK _ _ ⟨_, rfl, rfl⟩
  · rintro env M' ⟨y7, rfl, rfl⟩
    exact ⟨trivial, fin_true hQ⟩
theorem law_t5 {l : List D} {y2 y3 y4 y5 y6 y7 : Option D} (hc : cs.length ≤ 63) (hQ : QD (.bl true) []) (a0 : 0 ≤ a) (a1 : a ≤ 100000) (r0 : 0 ≤ r) (hl : ∀ d ∈ l, Pw 400000 9 d) (ll : l.length ≤ 4) :
    w_law_t5 [some (.fls (cs.map .int)), some (.han 0), y2, y3, y4, y5, y6, y7, some (.tup zigs), some (.han 1), none, none, none] [pn cs a r, l] (retE [] QD ED) := by
  refine ⟨⟨by decide, by decide⟩, ⟨by decide, by decide⟩, ?_⟩
  refine forGo_ix (fun i env M' => ∃ (a' r' : Int) (X : Me) (hh : Nat) (l : List D) (y10 y11 y12 : Option D), M' = pn cs a' r' :: X ∧ X[hh]? = some l ∧ (∀ d ∈ l, Pw 400000 9 d) ∧ l.length ≤ 4 + 2 * i ∧ a ≤ a' ∧ a' ≤ a + i ∧ 0 ≤ r' ∧ env = [some (.fls (cs.map .int)), some (.han 0), y2, y3, y4, y5, y6, y7, some (.tup zigs), some (.han (hh + 1)), y10, y11, y12]) ?_ ?_ ⟨a, r, [l], 0, l, _, _, _, rfl, rfl, hl, by omega, by omega, by omega, r0, rfl⟩
  · rintro i d env M' K hd ⟨a2, r2, X, hh, l, y10, y11, y12, rfl, hX, hl, ll, b0, b1, b2, rfl⟩ hK
    obtain ⟨hi, rfl⟩ := rgD_at hd
    have hi : i < 10 := hi
    refine ⟨trivial, trivial, rfl, drawP (by omega) (by omega) hc b2 (by omega) (by omega) fun v a3 r3 v0 v1 c0 c1 c2 => ?_⟩
    obtain ⟨k, rfl⟩ : ∃ k : Nat, v = (k : Int) := ⟨v.toNat, by omega⟩
    have s2 : 2 ≤ sizeLine := by decide
    have sz : ∀ n : Nat, n ≤ 1000 → n ≤ sizeLine := fun n hn => Nat.le_trans hn (by decide)
    have k1 : (DL.cutD zigs none (some ((k : Int) + 1))).length ≤ k + 1 := cut_len_to zigs (k + 1)
    have k2 : (DL.cutD zigs (some ((k : Int) + 1)) (some (2 + (i : Int)))).length ≤ 13 := cut_le zigs _ _
    refine ⟨Sm.mok (m := 2) (n := 10) (by unfold Sm; decide) (by unfold Sm; omega) (by decide), s2, s2, s2, (by show 1 ≤ sizeLine; decide), sz _ (by rw [List.length_singleton]; omega), sz _ (by rw [List.length_append, List.length_singleton]; omega), ?_⟩
    refine ⟨trivial, s2, s2, (by show 8 ≤ sizeLine; decide), s2, _, _, hX, rfl, sz _ (by show l.length + 2 ≤ 1000; omega), ?_⟩
    have zb := pw_zs (l := DL.cutD zigs none (some ((k : Int) + 1)) ++ [D.tup [.tup [.int (2 * (k : Int) + 1), .int 2], .tup [.int 3, .int 2]]] ++ DL.cutD zigs (some ((k : Int) + 1)) (some (2 + (i : Int)))) (fun d hd => by
      rcases List.mem_append.mp hd with z | z
      · rcases List.mem_append.mp z with z | z
        · exact pw_zig (DL.cut_mem z)
        · rw [List.mem_singleton.mp z]
          exact pw_two (pw_two (pw_smi (by omega)) (pw_smi (by decide))) (pw_two (pw_smi (by decide)) (pw_smi (by decide)))
      · exact pw_zig (DL.cut_mem z)) (by rw [List.length_append, List.length_append, List.length_singleton]; omega)
    have zp := pw_pl (n := 2 + (i : Int) - 1) zb (by omega) (.inl rfl)
    refine hK _ _ ⟨a3, r3, X ++ [_], X.length, _, _, _, _, rfl, last_get, fun d hd => ?_, ?_, by omega, by push_cast; omega, c2, rfl⟩
    · rcases List.mem_append.mp hd with z | z
      · exact hl d z
      · simp only [List.mem_cons, List.not_mem_nil, or_false] at z
        rcases z with rfl | rfl
        · exact zb.mono (by decide) (by decide)
        · exact zp
    · rw [List.length_append]; show l.length + 2 ≤ _; omega
  · rintro env M' ⟨a2, r2, X, hh, l, y10, y11, y12, rfl, hX, hl, ll, b0, b1, b2, rfl⟩
    have ll : l.length ≤ 4 + 2 * 10 := ll
    exact ⟨trivial, law_t6 hQ hX hl (by omega)⟩
end
theorem vc_law (ds : List D) (M : Me) (QD : D → Me → Prop) (ED : EX → Me → Prop) (hl : ds.length = 1) (h : s_law ds M QD ED) : w_law (env0 13 ds) M (retE M QD ED) := by
  match ds, h with
  | [.fls l], ⟨eM, cs, el, hc, hQ⟩ =>
    subst eM el
    refine ⟨rfl, cs, rfl, hc, ⟨by decide, by decide⟩, ?_⟩
    refine forGo_ix (fun i env M' => ∃ (a r : Int) (y2 y3 y4 y5 y6 y7 : Option D), M' = [pn cs a r] ∧ 0 ≤ a ∧ a ≤ 5000 * i ∧ 0 ≤ r ∧ env = [some (.fls (cs.map .int)), some (.han 0), y2, y3, y4, y5, y6, y7, none, none, none, none, none]) ?_ ?_ ⟨0, 0, _, _, _, _, _, _, rfl, by omega, by omega, by omega, rfl⟩
    · rintro i d env M' K hd ⟨a, r, y2, y3, y4, y5, y6, y7, rfl, a0, a1, r0, rfl⟩ hK
      obtain ⟨hi, rfl⟩ := rgD_at hd
      have hi : i < 5 := hi
      refine ⟨trivial, rfl, cs, a, r, [], ⟨rfl, a0, by omega, hc, r0⟩, by omega, fun p a2 r2 pok b1 b2 b3 => ?_⟩
      refine ⟨rfl, cs, a2, r2, [], ⟨rfl, by omega, by omega, hc, b3⟩, by omega, fun t a3 r3 tok c1 c2 c3 => ?_⟩
      have s3 : 3 ≤ sizeLine := by decide
      have g1 := pw_tk tok
      have g3 := pw_pc pok
      have g2 := pw_sh13 pok.sh
      have tin : TkIn (tkD t) := (g1.q.ps (by decide)).tk
      have et := isTk_tk tok
      refine ⟨_, _, rfl, rfl, s3, _, _, rfl, rfl, rfl, tin, ?_⟩
      rw [et]
      have eb : PyData.eqv (.list [.bool true, .bool true, .bool true]) (.list [.bool true, .bool true, .bool true]) = true := by simp [PyData.eqv, PyData.eqvAll]
      refine ⟨_, _, rfl, rfl, rfl, .inl ⟨p.shape, 42, rfl, pok.sh, by decide, _, _, rfl, rfl, rfl, .inl ⟨p, 42, rfl, pok, by decide, s3, s3, ?_⟩⟩⟩
      refine ⟨_, _, rfl, rfl, rfl, rfl, itf (by show (!PyData.eqv (.list [.bool true, .bool true, .bool true]) (.list [.bool true, .bool true, .bool true])) = false; rw [eb]; rfl) ?_⟩
      refine ⟨_, _, rfl, ?_⟩
      have good : ∀ d ∈ [tkD t, D.tup (p.shape.map cnD), pcD p], Pw 400000 9 d := fun d hd => by
        simp only [List.mem_cons, List.not_mem_nil, or_false] at hd
        rcases hd with rfl | rfl | rfl
        · exact g1
        · exact g2
        · exact g3.mono (by decide) (by decide)
      refine forGo_ix (fun j env M' => ∃ (a' r' : Int) (y5 y6 y7 : Option D), M' = [pn cs a' r'] ∧ a3 ≤ a' ∧ a' ≤ a3 + 400 * j ∧ 0 ≤ r' ∧ env = [some (.fls (cs.map .int)), some (.han 0), some (.int (0 + (i : Int))), some (pcD p), some (.lst [tkD t, D.tup (p.shape.map cnD), pcD p]), y5, y6, y7, none, none, none, none, none]) ?_ ?_ ⟨a3, r3, _, _, _, rfl, by omega, by omega, c3, rfl⟩
      · rintro j d env M' K2 hd ⟨a4, r4, y5, y6, y7, rfl, d0, d1, d2, rfl⟩ hK2
        have hj := (List.getElem?_eq_some_iff.mp hd).1
        have hj : j < 3 := hj
        have gd := good d (List.mem_of_getElem? hd)
        refine ⟨trivial, ⟨by decide, by decide⟩, ?_⟩
        refine forGo_ix (fun k env M' => ∃ (a' r' : Int) (y6 y7 : Option D), M' = [pn cs a' r'] ∧ a4 ≤ a' ∧ a' ≤ a4 + 80 * k ∧ 0 ≤ r' ∧ env = [some (.fls (cs.map .int)), some (.han 0), some (.int (0 + (i : Int))), some (pcD p), some (.lst [tkD t, D.tup (p.shape.map cnD), pcD p]), some d, y6, y7, none, none, none, none, none]) ?_ ?_ ⟨a4, r4, _, _, rfl, by omega, by omega, d2, rfl⟩
        · rintro k e env M' K3 hd ⟨a5, r5, y6, y7, rfl, e0, e1, e2, rfl⟩ hK3
          obtain ⟨hk, rfl⟩ := rgD_at hd
          have hk : k < 4 := hk
          refine ⟨trivial, rfl, cs, a5, r5, [], 0, ⟨rfl, by omega, by omega, hc, e2⟩, by omega, by decide, gd.q, fun x a6 r6 px w1 w2 f1 f2 f3 => ?_⟩
          refine ⟨rfl, drawP (by omega) (by omega) hc f3 (by decide) (by decide) fun v a7 r7 v0 v1 h1 h2 h3 => ?_⟩
          have gw := gd.w
          have ge := gd.e
          have gr : Rg d := gd.rg (by decide) (by decide)
          by_cases ev : v = 0
          · refine itt (decide_eq_true ev) ?_
            refine ⟨rfl, cs, a7, r7, [], 1, ⟨rfl, by omega, by omega, hc, h3⟩, by omega, by decide, px, fun x2 a8 r8 px2 w3 w4 k1 k2 k3 => ?_⟩
            refine ⟨rfl, ⟨2, by decide, px2, by omega, by omega⟩, rfl, gr, ?_⟩
            exact hK3 _ _ ⟨a8, r8, _, _, rfl, by omega, by push_cast; omega, k3, rfl⟩
          · refine itf (decide_eq_false ev) ?_
            refine ⟨rfl, ⟨1, by decide, px, by omega, by omega⟩, rfl, gr, ?_⟩
            exact hK3 _ _ ⟨a7, r7, _, _, rfl, by omega, by push_cast; omega, h3, rfl⟩
        · rintro env M' ⟨a5, r5, y6, y7, rfl, e0, e1, e2, rfl⟩
          have e1 : a5 ≤ a4 + 80 * (4 : Nat) := e1
          refine ⟨trivial, ?_⟩
          exact hK2 _ _ ⟨a5, r5, _, _, _, rfl, by omega, by push_cast; omega, e2, rfl⟩
      · rintro env M' ⟨a4, r4, y5, y6, y7, rfl, d0, d1, d2, rfl⟩
        have d1 : a4 ≤ a3 + 400 * (3 : Nat) := d1
        refine ⟨trivial, ?_⟩
        exact hK _ _ ⟨a4, r4, _, _, _, _, _, _, rfl, by omega, by push_cast; omega, d2, rfl⟩
    · rintro env M' ⟨a, r, y2, y3, y4, y5, y6, y7, rfl, a0, a1, r0, rfl⟩
      refine ⟨trivial, ⟨by decide, by decide⟩, ?_⟩
      refine lcGo_ix (fun i acc M1 => M1 = [pn cs a r] ∧ acc = (List.range i).map zzD) ?_ ?_ ⟨rfl, rfl⟩
      · rintro i e acc M1 K he ⟨rfl, rfl⟩ hK
        obtain ⟨hi, rfl⟩ := rgD_at he
        have hi : i < 13 := hi
        have s2 : 2 ≤ sizeLine := by decide
        refine ⟨trivial, s2, nz rfl, s2, s2, ?_, hK _ _ ⟨rfl, ?_⟩⟩
        · rw [List.length_map, List.length_range]; exact Nat.lt_of_lt_of_le hi (by decide)
        · rw [List.range_succ, List.map_append, Int.zero_add, Int.fmod_eq_emod_of_nonneg _ (by decide)]; rfl
      · rintro acc M1 ⟨rfl, rfl⟩
        refine ⟨trivial, _, rfl, (by show 2 ≤ sizeLine; decide), (by show 2 ≤ sizeLine; decide), (by show 8 ≤ sizeLine; decide), (by show 3 ≤ sizeLine; decide), rfl, (by show 2 ≤ sizeLine; decide), (by show 2 ≤ sizeLine; decide), (by show 8 ≤ sizeLine; decide), _, rfl, (by decide), ?_⟩
        have a1 : a ≤ 5000 * (5 : Nat) := a1
        have ez : DL.cutD zigs none (some 12) = zigs.take 12 := cut_to zigs 12 (by decide)
        refine law_t5 (l := _) hc hQ a0 (by omega) r0 (fun d hd => ?_) (by decide)
        have hd : d ∈ [D.tup zigs, .tup (DL.cutD zigs none (some 12)), .tup [.int 5, .str "ab", .int 0, .int 12, .str "free", .tup [.int 0, .int 1], .tup [.int 1, .int 1], .tup zigs]] ++ [D.tup [.int 5, .str "ab", .int 0, .int 11, .str "bound", .tup [.int 0, .int 1], .tup [.int 1, .int 1], .tup (DL.cutD zigs none (some 12))]] := hd
        rw [ez] at hd
        have z1 := pw_zs (l := zigs) (fun d hd => pw_zig hd) (by decide)
        have z2 := pw_zs (l := zigs.take 12) (fun d hd => pw_zig (List.mem_of_mem_take hd)) (by decide)
        simp only [List.cons_append, List.nil_append, List.mem_cons, List.not_mem_nil, or_false] at hd
        rcases hd with rfl | rfl | rfl | rfl
        · exact z1.mono (by decide) (by decide)
        · exact z2.mono (by decide) (by decide)
        · exact pw_pl z1 (by decide) (.inl rfl)
        · exact pw_pl z2 (by decide) (.inr rfl)
end K13


namespace K13
open PySem PySem.Spec PyProof.Rows L2 DL
structure Bt (w : World) (K : PySem.W.Frag) (mg : Str → Option Value) : Prop where
  abs : mg "abs" = none
  all : mg "all" = none
  any : mg "any" = none
  bool : mg "bool" = none
  int : mg "int" = none
  isinstance : mg "isinstance" = none
  len : mg "len" = none
  list : mg "list" = none
  min : mg "min" = none
  range : mg "range" = none
  repr : mg "repr" = none
  str : mg "str" = none
  sum : mg "sum" = none
  tuple : mg "tuple" = none
  zip : mg "zip" = none
  k_LETTERS : GlD K mg "LETTERS" (.str "abcdefghijklmnopqrstuvwxyz")
  k_LONGEST_NAME : GlD K mg "LONGEST_NAME" (.int 8)
  k_MOST_TONES : GlD K mg "MOST_TONES" (.int 200)
  k_LOUDEST_TONE : GlD K mg "LOUDEST_TONE" (.int 100000)
  k_MOST_CORNERS : GlD K mg "MOST_CORNERS" (.int 12)
  k_MOST_NUMBER : GlD K mg "MOST_NUMBER" (.int 99999)
  k_LAST_STEP : GlD K mg "LAST_STEP" (.int 100000)
  k_PIECE_PARTS : GlD K mg "PIECE_PARTS" (.int 8)
  xl : exOk LX K = true
  sm : smOk K = true
  lam : lamOk [] K = true
  k_NOUGHT : GlD K mg "NOUGHT" (.tup [(.int 0), (.int 1)])
  k_WAYS : GlD K mg "WAYS" (.tup [(.str "free"), (.str "bound")])
section
variable {P : Program} {w : World} {K : PySem.W.Frag} {mg : Str → Option Value} {base : Heap}
abbrev N_is_whole : List Str := ["thing"]
theorem sc_is_whole : FnScope N_is_whole ["thing"] (defScope st_is_whole) := ⟨rfl, rfl, rfl, by decide +kernel, rfl, by decide +kernel, by decide +kernel⟩
theorem b_is_whole (B : Bt w K mg) {f : Addr} : ∀ (cdv : Value) (A : Around) (outer : List Env) (s : Shared) (H : Hp) (E : XK), Room 0 (A.deeper (envOfC "is_whole" (defScope st_is_whole) s.heap.objs.size f cdv)) →
    DB (cxOf (L2N.CX P w) P w K mg base N_is_whole "is_whole" (defScope st_is_whole) f cdv A outer s H E) (WXo E) (defBody st_is_whole) (w_is_whole) := by
  intro cdv A outer s H E hr
  have nd : N_is_whole.Nodup := sc_is_whole.nd
  exact (db_one (ds_ret (de_and (de_isi (T := .int) (by rfl) B.isinstance (by rfl) B.int rfl (dv (i := 0) ⟨rfl, (Or.inl rfl), rfl, rfl⟩)) (de_one (de_not (de_isi (T := .bool) (by rfl) B.isinstance (by rfl) B.bool rfl (dv (i := 0) ⟨rfl, (Or.inl rfl), rfl, rfl⟩)))))))
abbrev N_is_from : List Str := ["thing", "least", "most"]
theorem sc_is_from : FnScope N_is_from ["thing", "least", "most"] (defScope st_is_from) := ⟨rfl, rfl, rfl, by decide +kernel, rfl, by decide +kernel, by decide +kernel⟩
theorem b_is_from (B : Bt w K mg) (c_is_whole : DCal P w K mg base 1 "is_whole" 1 s_is_whole) {f : Addr} : ∀ (cdv : Value) (A : Around) (outer : List Env) (s : Shared) (H : Hp) (E : XK), Room 1 (A.deeper (envOfC "is_from" (defScope st_is_from) s.heap.objs.size f cdv)) →
    DB (cxOf (L2N.CX P w) P w K mg base N_is_from "is_from" (defScope st_is_from) f cdv A outer s H E) (WXo E) (defBody st_is_from) (w_is_from) := by
  intro cdv A outer s H E hr
  have nd : N_is_from.Nodup := sc_is_from.nd
  exact (db_one (ds_ret (de_and (de_call c_is_whole hr (by decide) (by rfl) tko (da_cons (dv (i := 0) ⟨rfl, (Or.inl rfl), rfl, rfl⟩) da_nil) (by rfl)) (de_one (de_chain o_le (ok_I k_b) o_le (ok_I k_b) (dv (i := 1) ⟨rfl, (Or.inl rfl), rfl, rfl⟩) (dv (i := 0) ⟨rfl, (Or.inl rfl), rfl, rfl⟩) (dv (i := 2) ⟨rfl, (Or.inl rfl), rfl, rfl⟩))))))
abbrev N_divisor : List Str := ["one", "other"]
theorem sc_divisor : FnScope N_divisor ["one", "other"] (defScope st_divisor) := ⟨rfl, rfl, rfl, by decide +kernel, rfl, by decide +kernel, by decide +kernel⟩
theorem b_divisor (B : Bt w K mg) {f : Addr} : ∀ (cdv : Value) (A : Around) (outer : List Env) (s : Shared) (H : Hp) (E : XK), Room 0 (A.deeper (envOfC "divisor" (defScope st_divisor) s.heap.objs.size f cdv)) →
    DB (cxOf (L2N.CX P w) P w K mg base N_divisor "divisor" (defScope st_divisor) f cdv A outer s H E) (WXo E) (defBody st_divisor) (w_divisor) := by
  intro cdv A outer s H E hr
  have nd : N_divisor.Nodup := sc_divisor.nd
  exact (db_cons (ds_par (i := 0) (j := 1) rfl nd rfl rfl (by decide) rfl rfl (da_cons (bi_abs (by rfl) B.abs (da_cons (dv (i := 0) ⟨rfl, (Or.inl rfl), rfl, rfl⟩) da_nil)) (da_cons (bi_abs (by rfl) B.abs (da_cons (dv (i := 1) ⟨rfl, (Or.inl rfl), rfl, rfl⟩) da_nil)) da_nil)) (by rfl))
  (db_cons (ds_while pso (dt_gt (dv (i := 1) ⟨rfl, (Or.inl rfl), rfl, rfl⟩) de_int)
  (db_one (ds_par (i := 0) (j := 1) rfl nd rfl rfl (by decide) rfl rfl (da_cons (dv (i := 1) ⟨rfl, (Or.inl rfl), rfl, rfl⟩) (da_cons (de_mod (dv (i := 0) ⟨rfl, (Or.inl rfl), rfl, rfl⟩) (dv (i := 1) ⟨rfl, (Or.inl rfl), rfl, rfl⟩)) da_nil)) (by rfl))))
  (db_one (ds_ret (dv (i := 0) ⟨rfl, (Or.inl rfl), rfl, rfl⟩)))))
abbrev N_is_fraction : List Str := ["thing"]
theorem sc_is_fraction : FnScope N_is_fraction ["thing"] (defScope st_is_fraction) := ⟨rfl, rfl, rfl, by decide +kernel, rfl, by decide +kernel, by decide +kernel⟩
theorem b_is_fraction (B : Bt w K mg) (c_is_whole : DCal P w K mg base 1 "is_whole" 1 s_is_whole) (c_divisor : DCal P w K mg base 1 "divisor" 2 s_divisor) {f : Addr} : ∀ (cdv : Value) (A : Around) (outer : List Env) (s : Shared) (H : Hp) (E : XK), Room 1 (A.deeper (envOfC "is_fraction" (defScope st_is_fraction) s.heap.objs.size f cdv)) →
    DB (cxOf (L2N.CX P w) P w K mg base N_is_fraction "is_fraction" (defScope st_is_fraction) f cdv A outer s H E) (WXo E) (defBody st_is_fraction) (w_is_fraction) := by
  intro cdv A outer s H E hr
  have nd : N_is_fraction.Nodup := sc_is_fraction.nd
  exact (db_cons (ds_if (DW.dt (dw_or (dt_not (dt_tru (de_isi (T := .tuple) (by rfl) B.isinstance (by rfl) B.tuple rfl (dv (i := 0) ⟨rfl, (Or.inl rfl), rfl, rfl⟩)))) (dw_or (dt_ne (room64 hr) (bi_len (by rfl) B.len (da_cons (dv (i := 0) ⟨rfl, (Or.inl rfl), rfl, rfl⟩) da_nil)) de_int) (dw_or (dt_not (dt_tru (de_call c_is_whole hr (by decide) (by rfl) tko (da_cons (de_ix (dv (i := 0) ⟨rfl, (Or.inl rfl), rfl, rfl⟩) de_int) da_nil) (by rfl)))) (dw_or1 (dt_not (dt_tru (de_call c_is_whole hr (by decide) (by rfl) tko (da_cons (de_ix (dv (i := 0) ⟨rfl, (Or.inl rfl), rfl, rfl⟩) de_int) da_nil) (by rfl)))))))))
  (db_one (ds_ret de_bl))
  db_nil)
  (db_one (ds_ret (de_and (de_gt (de_ix (dv (i := 0) ⟨rfl, (Or.inl rfl), rfl, rfl⟩) de_int) de_int) (de_one (de_eq (room64 hr) (de_call c_divisor hr (by decide) (by rfl) tko (da_cons (de_ix (dv (i := 0) ⟨rfl, (Or.inl rfl), rfl, rfl⟩) de_int) (da_cons (de_ix (dv (i := 0) ⟨rfl, (Or.inl rfl), rfl, rfl⟩) de_int) da_nil)) (by rfl)) de_int))))))
abbrev N_is_not_below : List Str := ["thing"]
theorem sc_is_not_below : FnScope N_is_not_below ["thing"] (defScope st_is_not_below) := ⟨rfl, rfl, rfl, by decide +kernel, rfl, by decide +kernel, by decide +kernel⟩
theorem b_is_not_below (B : Bt w K mg) (c_is_fraction : DCal P w K mg base 2 "is_fraction" 1 s_is_fraction) {f : Addr} : ∀ (cdv : Value) (A : Around) (outer : List Env) (s : Shared) (H : Hp) (E : XK), Room 2 (A.deeper (envOfC "is_not_below" (defScope st_is_not_below) s.heap.objs.size f cdv)) →
    DB (cxOf (L2N.CX P w) P w K mg base N_is_not_below "is_not_below" (defScope st_is_not_below) f cdv A outer s H E) (WXo E) (defBody st_is_not_below) (w_is_not_below) := by
  intro cdv A outer s H E hr
  have nd : N_is_not_below.Nodup := sc_is_not_below.nd
  exact (db_one (ds_ret (de_and (de_call c_is_fraction hr (by decide) (by rfl) tko (da_cons (dv (i := 0) ⟨rfl, (Or.inl rfl), rfl, rfl⟩) da_nil) (by rfl)) (de_one (de_ge (de_ix (dv (i := 0) ⟨rfl, (Or.inl rfl), rfl, rfl⟩) de_int) de_int)))))
abbrev N_is_above : List Str := ["thing"]
theorem sc_is_above : FnScope N_is_above ["thing"] (defScope st_is_above) := ⟨rfl, rfl, rfl, by decide +kernel, rfl, by decide +kernel, by decide +kernel⟩
theorem b_is_above (B : Bt w K mg) (c_is_fraction : DCal P w K mg base 2 "is_fraction" 1 s_is_fraction) {f : Addr} : ∀ (cdv : Value) (A : Around) (outer : List Env) (s : Shared) (H : Hp) (E : XK), Room 2 (A.deeper (envOfC "is_above" (defScope st_is_above) s.heap.objs.size f cdv)) →
    DB (cxOf (L2N.CX P w) P w K mg base N_is_above "is_above" (defScope st_is_above) f cdv A outer s H E) (WXo E) (defBody st_is_above) (w_is_above) := by
  intro cdv A outer s H E hr
  have nd : N_is_above.Nodup := sc_is_above.nd
  exact (db_one (ds_ret (de_and (de_call c_is_fraction hr (by decide) (by rfl) tko (da_cons (dv (i := 0) ⟨rfl, (Or.inl rfl), rfl, rfl⟩) da_nil) (by rfl)) (de_one (de_gt (de_ix (dv (i := 0) ⟨rfl, (Or.inl rfl), rfl, rfl⟩) de_int) de_int)))))
abbrev N_is_less : List Str := ["one", "other"]
theorem sc_is_less : FnScope N_is_less ["one", "other"] (defScope st_is_less) := ⟨rfl, rfl, rfl, by decide +kernel, rfl, by decide +kernel, by decide +kernel⟩
theorem b_is_less (B : Bt w K mg) {f : Addr} : ∀ (cdv : Value) (A : Around) (outer : List Env) (s : Shared) (H : Hp) (E : XK), Room 0 (A.deeper (envOfC "is_less" (defScope st_is_less) s.heap.objs.size f cdv)) →
    DB (cxOf (L2N.CX P w) P w K mg base N_is_less "is_less" (defScope st_is_less) f cdv A outer s H E) (WXo E) (defBody st_is_less) (w_is_less) := by
  intro cdv A outer s H E hr
  have nd : N_is_less.Nodup := sc_is_less.nd
  exact (db_one (ds_ret (de_lt (de_mul (de_ix (dv (i := 0) ⟨rfl, (Or.inl rfl), rfl, rfl⟩) de_int) (de_ix (dv (i := 1) ⟨rfl, (Or.inl rfl), rfl, rfl⟩) de_int)) (de_mul (de_ix (dv (i := 1) ⟨rfl, (Or.inl rfl), rfl, rfl⟩) de_int) (de_ix (dv (i := 0) ⟨rfl, (Or.inl rfl), rfl, rfl⟩) de_int)))))
abbrev N_as_fraction : List Str := ["number"]
theorem sc_as_fraction : FnScope N_as_fraction ["number"] (defScope st_as_fraction) := ⟨rfl, rfl, rfl, by decide +kernel, rfl, by decide +kernel, by decide +kernel⟩
theorem b_as_fraction (B : Bt w K mg) {f : Addr} : ∀ (cdv : Value) (A : Around) (outer : List Env) (s : Shared) (H : Hp) (E : XK), Room 0 (A.deeper (envOfC "as_fraction" (defScope st_as_fraction) s.heap.objs.size f cdv)) →
    DB (cxOf (L2N.CX P w) P w K mg base N_as_fraction "as_fraction" (defScope st_as_fraction) f cdv A outer s H E) (WXo E) (defBody st_as_fraction) (w_as_fraction) := by
  intro cdv A outer s H E hr
  have nd : N_as_fraction.Nodup := sc_as_fraction.nd
  exact (db_one (ds_ret (de_tup (da_cons (dv (i := 0) ⟨rfl, (Or.inl rfl), rfl, rfl⟩) (da_cons de_int da_nil)))))
abbrev N_is_name : List Str := ["thing", "letter"]
theorem sc_is_name : FnScope N_is_name ["thing"] (defScope st_is_name) := ⟨rfl, rfl, rfl, by decide +kernel, rfl, by decide +kernel, by decide +kernel⟩
theorem b_is_name (B : Bt w K mg) {f : Addr} : ∀ (cdv : Value) (A : Around) (outer : List Env) (s : Shared) (H : Hp) (E : XK), Room 0 (A.deeper (envOfC "is_name" (defScope st_is_name) s.heap.objs.size f cdv)) →
    DB (cxOf (L2N.CX P w) P w K mg base N_is_name "is_name" (defScope st_is_name) f cdv A outer s H E) (WXo E) (defBody st_is_name) (w_is_name) := by
  intro cdv A outer s H E hr
  have nd : N_is_name.Nodup := sc_is_name.nd
  exact (db_cons (ds_if (DW.dt (dw_or (dt_not (dt_tru (de_isi (T := .str) (by rfl) B.isinstance (by rfl) B.str rfl (dv (i := 0) ⟨rfl, (Or.inl rfl), rfl, rfl⟩)))) (dw_or1 (dt_not (dt_chain o_le (ok_I k_b) o_le (ok_I k_b) de_int (bi_len (by rfl) B.len (da_cons (dv (i := 0) ⟨rfl, (Or.inl rfl), rfl, rfl⟩) da_nil)) (de_glob (by rfl) B.k_LONGEST_NAME (by rfl)))))))
  (db_one (ds_ret de_bl))
  db_nil)
  (db_one (ds_ret (bi_all (by rfl) B.all rfl (da_cons (df_fz (df_lc rfl nd (di_str (dv (i := 0) ⟨rfl, (Or.inl rfl), rfl, rfl⟩)) (blkOk_by (own := [("letter", 1)]) (by rfl)) (fun _ _ _ _ _ => (dg_name nd (i := 1) rfl (Or.inl rfl))) (fun _ _ _ _ _ => dts_nil) (fun _ _ _ _ _ => (de_in (dv (i := 1) ⟨rfl, (Or.inl rfl), rfl, rfl⟩) (de_glob (by rfl) B.k_LETTERS (by rfl)))) (by decide))) da_nil)))))
abbrev N_are_tones : List Str := ["thing", "one"]
theorem sc_are_tones : FnScope N_are_tones ["thing"] (defScope st_are_tones) := ⟨rfl, rfl, rfl, by decide +kernel, rfl, by decide +kernel, by decide +kernel⟩
theorem b_are_tones (B : Bt w K mg) (c_is_from : DCal P w K mg base 2 "is_from" 3 s_is_from) {f : Addr} : ∀ (cdv : Value) (A : Around) (outer : List Env) (s : Shared) (H : Hp) (E : XK), Room 2 (A.deeper (envOfC "are_tones" (defScope st_are_tones) s.heap.objs.size f cdv)) →
    DB (cxOf (L2N.CX P w) P w K mg base N_are_tones "are_tones" (defScope st_are_tones) f cdv A outer s H E) (WXo E) (defBody st_are_tones) (w_are_tones) := by
  intro cdv A outer s H E hr
  have nd : N_are_tones.Nodup := sc_are_tones.nd
  exact (db_cons (ds_if (DW.dt (dw_or (dt_not (dt_tru (de_isi (T := .tuple) (by rfl) B.isinstance (by rfl) B.tuple rfl (dv (i := 0) ⟨rfl, (Or.inl rfl), rfl, rfl⟩)))) (dw_or1 (dt_not (dt_chain o_le (ok_I k_b) o_le (ok_I k_b) de_int (bi_len (by rfl) B.len (da_cons (dv (i := 0) ⟨rfl, (Or.inl rfl), rfl, rfl⟩) da_nil)) (de_glob (by rfl) B.k_MOST_TONES (by rfl)))))))
  (db_one (ds_ret de_bl))
  db_nil)
  (db_one (ds_ret (bi_all (by rfl) B.all rfl (da_cons (df_fz (df_lc rfl nd (di_sq (dv (i := 0) ⟨rfl, (Or.inl rfl), rfl, rfl⟩)) (blkOk_by (own := [("one", 1)]) (by rfl)) (fun _ _ _ _ _ => (dg_name nd (i := 1) rfl (Or.inl rfl))) (fun _ _ _ _ _ => dts_nil) (fun _ _ _ _ _ => (de_call c_is_from hr (by decide) (by rfl) takes0N (da_cons (dv (i := 1) ⟨rfl, (Or.inl rfl), rfl, rfl⟩) (da_cons (de_sub de_int (de_glob (by rfl) B.k_LOUDEST_TONE (by rfl))) (da_cons (de_glob (by rfl) B.k_LOUDEST_TONE (by rfl)) da_nil))) (by rfl))) (by decide))) da_nil)))))
abbrev N_is_take : List Str := ["thing"]
theorem sc_is_take : FnScope N_is_take ["thing"] (defScope st_is_take) := ⟨rfl, rfl, rfl, by decide +kernel, rfl, by decide +kernel, by decide +kernel⟩
theorem b_is_take (B : Bt w K mg) (c_is_name : DCal P w K mg base 1 "is_name" 1 s_is_name) (c_are_tones : DCal P w K mg base 3 "are_tones" 1 s_are_tones) {f : Addr} : ∀ (cdv : Value) (A : Around) (outer : List Env) (s : Shared) (H : Hp) (E : XK), Room 3 (A.deeper (envOfC "is_take" (defScope st_is_take) s.heap.objs.size f cdv)) →
    DB (cxOf (L2N.CX P w) P w K mg base N_is_take "is_take" (defScope st_is_take) f cdv A outer s H E) (WXo E) (defBody st_is_take) (w_is_take) := by
  intro cdv A outer s H E hr
  have nd : N_is_take.Nodup := sc_is_take.nd
  exact (db_one (ds_ret (de_and (de_isi (T := .tuple) (by rfl) B.isinstance (by rfl) B.tuple rfl (dv (i := 0) ⟨rfl, (Or.inl rfl), rfl, rfl⟩)) (de_and (de_eq (room64 hr) (bi_len (by rfl) B.len (da_cons (dv (i := 0) ⟨rfl, (Or.inl rfl), rfl, rfl⟩) da_nil)) de_int) (de_and (de_call c_is_name hr (by decide) (by rfl) tko (da_cons (de_ix (dv (i := 0) ⟨rfl, (Or.inl rfl), rfl, rfl⟩) de_int) da_nil) (by rfl)) (de_one (de_call c_are_tones hr (by decide) (by rfl) tko (da_cons (de_ix (dv (i := 0) ⟨rfl, (Or.inl rfl), rfl, rfl⟩) de_int) da_nil) (by rfl))))))))
abbrev N_is_corner : List Str := ["thing"]
theorem sc_is_corner : FnScope N_is_corner ["thing"] (defScope st_is_corner) := ⟨rfl, rfl, rfl, by decide +kernel, rfl, by decide +kernel, by decide +kernel⟩
theorem b_is_corner (B : Bt w K mg) (c_is_not_below : DCal P w K mg base 3 "is_not_below" 1 s_is_not_below) {f : Addr} : ∀ (cdv : Value) (A : Around) (outer : List Env) (s : Shared) (H : Hp) (E : XK), Room 3 (A.deeper (envOfC "is_corner" (defScope st_is_corner) s.heap.objs.size f cdv)) →
    DB (cxOf (L2N.CX P w) P w K mg base N_is_corner "is_corner" (defScope st_is_corner) f cdv A outer s H E) (WXo E) (defBody st_is_corner) (w_is_corner) := by
  intro cdv A outer s H E hr
  have nd : N_is_corner.Nodup := sc_is_corner.nd
  exact (db_one (ds_ret (de_and (de_isi (T := .tuple) (by rfl) B.isinstance (by rfl) B.tuple rfl (dv (i := 0) ⟨rfl, (Or.inl rfl), rfl, rfl⟩)) (de_and (de_eq (room64 hr) (bi_len (by rfl) B.len (da_cons (dv (i := 0) ⟨rfl, (Or.inl rfl), rfl, rfl⟩) da_nil)) de_int) (de_and (de_call c_is_not_below hr (by decide) (by rfl) tko (da_cons (de_ix (dv (i := 0) ⟨rfl, (Or.inl rfl), rfl, rfl⟩) de_int) da_nil) (by rfl)) (de_one (de_call c_is_not_below hr (by decide) (by rfl) tko (da_cons (de_ix (dv (i := 0) ⟨rfl, (Or.inl rfl), rfl, rfl⟩) de_int) da_nil) (by rfl))))))))
abbrev N_far_between : List Str := ["one", "other"]
theorem sc_far_between : FnScope N_far_between ["one", "other"] (defScope st_far_between) := ⟨rfl, rfl, rfl, by decide +kernel, rfl, by decide +kernel, by decide +kernel⟩
theorem b_far_between (B : Bt w K mg) {f : Addr} : ∀ (cdv : Value) (A : Around) (outer : List Env) (s : Shared) (H : Hp) (E : XK), Room 0 (A.deeper (envOfC "far_between" (defScope st_far_between) s.heap.objs.size f cdv)) →
    DB (cxOf (L2N.CX P w) P w K mg base N_far_between "far_between" (defScope st_far_between) f cdv A outer s H E) (WXo E) (defBody st_far_between) (w_far_between) := by
  intro cdv A outer s H E hr
  have nd : N_far_between.Nodup := sc_far_between.nd
  exact (db_one (ds_ret (de_tup (da_cons (de_sub (de_mul (de_ix (dv (i := 1) ⟨rfl, (Or.inl rfl), rfl, rfl⟩) de_int) (de_ix (dv (i := 0) ⟨rfl, (Or.inl rfl), rfl, rfl⟩) de_int)) (de_mul (de_ix (dv (i := 0) ⟨rfl, (Or.inl rfl), rfl, rfl⟩) de_int) (de_ix (dv (i := 1) ⟨rfl, (Or.inl rfl), rfl, rfl⟩) de_int))) (da_cons (de_mul (de_ix (dv (i := 0) ⟨rfl, (Or.inl rfl), rfl, rfl⟩) de_int) (de_ix (dv (i := 1) ⟨rfl, (Or.inl rfl), rfl, rfl⟩) de_int)) da_nil)))))
abbrev N_lies_straight : List Str := ["one", "middle", "other", "rise", "run", "more", "far"]
theorem sc_lies_straight : FnScope N_lies_straight ["one", "middle", "other"] (defScope st_lies_straight) := ⟨rfl, rfl, rfl, by decide +kernel, rfl, by decide +kernel, by decide +kernel⟩
theorem b_lies_straight (B : Bt w K mg) (c_far_between : DCal P w K mg base 1 "far_between" 2 s_far_between) {f : Addr} : ∀ (cdv : Value) (A : Around) (outer : List Env) (s : Shared) (H : Hp) (E : XK), Room 1 (A.deeper (envOfC "lies_straight" (defScope st_lies_straight) s.heap.objs.size f cdv)) →
    DB (cxOf (L2N.CX P w) P w K mg base N_lies_straight "lies_straight" (defScope st_lies_straight) f cdv A outer s H E) (WXo E) (defBody st_lies_straight) (w_lies_straight) := by
  intro cdv A outer s H E hr
  have nd : N_lies_straight.Nodup := sc_lies_straight.nd
  exact (db_cons (ds_par (i := 3) (j := 4) rfl nd rfl rfl (by decide) rfl rfl (da_cons (de_call c_far_between hr (by decide) (by rfl) tko (da_cons (de_ix (dv (i := 0) ⟨rfl, (Or.inl rfl), rfl, rfl⟩) de_int) (da_cons (de_ix (dv (i := 1) ⟨rfl, (Or.inl rfl), rfl, rfl⟩) de_int) da_nil)) (by rfl)) (da_cons (de_call c_far_between hr (by decide) (by rfl) tko (da_cons (de_ix (dv (i := 0) ⟨rfl, (Or.inl rfl), rfl, rfl⟩) de_int) (da_cons (de_ix (dv (i := 1) ⟨rfl, (Or.inl rfl), rfl, rfl⟩) de_int) da_nil)) (by rfl)) da_nil)) (by rfl))
  (db_cons (ds_par (i := 5) (j := 6) rfl nd rfl rfl (by decide) rfl rfl (da_cons (de_call c_far_between hr (by decide) (by rfl) tko (da_cons (de_ix (dv (i := 1) ⟨rfl, (Or.inl rfl), rfl, rfl⟩) de_int) (da_cons (de_ix (dv (i := 2) ⟨rfl, (Or.inl rfl), rfl, rfl⟩) de_int) da_nil)) (by rfl)) (da_cons (de_call c_far_between hr (by decide) (by rfl) tko (da_cons (de_ix (dv (i := 1) ⟨rfl, (Or.inl rfl), rfl, rfl⟩) de_int) (da_cons (de_ix (dv (i := 2) ⟨rfl, (Or.inl rfl), rfl, rfl⟩) de_int) da_nil)) (by rfl)) da_nil)) (by rfl))
  (db_one (ds_ret (de_eq (room64 hr) (de_mul (de_mul (de_mul (de_ix (dv (i := 3) ⟨rfl, (Or.inl rfl), rfl, rfl⟩) de_int) (de_ix (dv (i := 6) ⟨rfl, (Or.inl rfl), rfl, rfl⟩) de_int)) (de_ix (dv (i := 4) ⟨rfl, (Or.inl rfl), rfl, rfl⟩) de_int)) (de_ix (dv (i := 5) ⟨rfl, (Or.inl rfl), rfl, rfl⟩) de_int)) (de_mul (de_mul (de_mul (de_ix (dv (i := 5) ⟨rfl, (Or.inl rfl), rfl, rfl⟩) de_int) (de_ix (dv (i := 4) ⟨rfl, (Or.inl rfl), rfl, rfl⟩) de_int)) (de_ix (dv (i := 6) ⟨rfl, (Or.inl rfl), rfl, rfl⟩) de_int)) (de_ix (dv (i := 3) ⟨rfl, (Or.inl rfl), rfl, rfl⟩) de_int)))))))
abbrev N_is_shape : List Str := ["thing", "one", "k"]
theorem sc_is_shape : FnScope N_is_shape ["thing"] (defScope st_is_shape) := ⟨rfl, rfl, rfl, by decide +kernel, rfl, by decide +kernel, by decide +kernel⟩
theorem b_is_shape (B : Bt w K mg) (c_is_corner : DCal P w K mg base 4 "is_corner" 1 s_is_corner) (c_is_less : DCal P w K mg base 1 "is_less" 2 s_is_less) (c_lies_straight : DCal P w K mg base 2 "lies_straight" 3 s_lies_straight) {f : Addr} : ∀ (cdv : Value) (A : Around) (outer : List Env) (s : Shared) (H : Hp) (E : XK), Room 4 (A.deeper (envOfC "is_shape" (defScope st_is_shape) s.heap.objs.size f cdv)) →
    DB (cxOf (L2N.CX P w) P w K mg base N_is_shape "is_shape" (defScope st_is_shape) f cdv A outer s H E) (WXo E) (defBody st_is_shape) (w_is_shape) := by
  intro cdv A outer s H E hr
  have nd : N_is_shape.Nodup := sc_is_shape.nd
  exact (db_cons (ds_if (DW.dt (dw_or (dt_not (dt_tru (de_isi (T := .tuple) (by rfl) B.isinstance (by rfl) B.tuple rfl (dv (i := 0) ⟨rfl, (Or.inr (Or.inl rfl)), rfl, rfl⟩)))) (dw_or1 (dt_not (dt_chain o_le (ok_I k_b) o_le (ok_I k_b) de_int (bi_len (by rfl) B.len (da_cons (dv (i := 0) ⟨rfl, (Or.inr (Or.inl rfl)), rfl, rfl⟩) da_nil)) (de_glob (by rfl) B.k_MOST_CORNERS (by rfl)))))))
  (db_one (ds_ret de_bl))
  db_nil)
  (db_cons (ds_if (dt_not (dt_tru (bi_all (by rfl) B.all rfl (da_cons (df_fz (df_lc rfl nd (di_sq (dv (i := 0) ⟨rfl, (Or.inr (Or.inl rfl)), rfl, rfl⟩)) (blkOk_by (own := [("one", 1)]) (by rfl)) (fun _ _ _ _ _ => (dg_name nd (i := 1) rfl (Or.inl rfl))) (fun _ _ _ _ _ => dts_nil) (fun _ _ _ _ _ => (de_call c_is_corner hr (by decide) (by rfl) takes0N (da_cons (dv (i := 1) ⟨rfl, (Or.inl rfl), rfl, rfl⟩) da_nil) (by rfl))) (by decide))) da_nil))))
  (db_one (ds_ret de_bl))
  db_nil)
  (db_cons (ds_if (dt_not (dt_tru (bi_all (by rfl) B.all rfl (da_cons (df_fz (df_lc rfl nd (by exact (di_range2 (by rfl) B.range (da_cons de_int (da_cons (bi_len (by rfl) B.len (da_cons (dv (i := 0) ⟨rfl, (Or.inr (Or.inl rfl)), rfl, rfl⟩) da_nil)) da_nil)))) (blkOk_by (own := [("k", 2)]) (by rfl)) (fun _ _ _ _ _ => (dg_name nd (i := 2) rfl (Or.inl rfl))) (fun _ _ _ _ _ => dts_nil) (fun _ _ _ _ _ => (de_call c_is_less hr (by decide) (by rfl) takes0N (da_cons (de_ix (de_ix (dv (i := 0) ⟨rfl, (Or.inr (Or.inl rfl)), rfl, rfl⟩) (de_sub (dv (i := 2) ⟨rfl, (Or.inl rfl), rfl, rfl⟩) de_int)) de_int) (da_cons (de_ix (de_ix (dv (i := 0) ⟨rfl, (Or.inr (Or.inl rfl)), rfl, rfl⟩) (dv (i := 2) ⟨rfl, (Or.inl rfl), rfl, rfl⟩)) de_int) da_nil)) (by rfl))) (by decide))) da_nil))))
  (db_one (ds_ret de_bl))
  db_nil)
  (db_one (ds_ret (de_not (bi_any (by rfl) B.any rfl (da_cons (df_fz (df_lc rfl nd (by exact (di_range2 (by rfl) B.range (da_cons de_int (da_cons (de_sub (bi_len (by rfl) B.len (da_cons (dv (i := 0) ⟨rfl, (Or.inr (Or.inl rfl)), rfl, rfl⟩) da_nil)) de_int) da_nil)))) (blkOk_by (own := [("k", 2)]) (by rfl)) (fun _ _ _ _ _ => (dg_name nd (i := 2) rfl (Or.inl rfl))) (fun _ _ _ _ _ => dts_nil) (fun _ _ _ _ _ => (de_call c_lies_straight hr (by decide) (by rfl) takes0N (da_cons (de_ix (dv (i := 0) ⟨rfl, (Or.inr (Or.inl rfl)), rfl, rfl⟩) (de_sub (dv (i := 2) ⟨rfl, (Or.inl rfl), rfl, rfl⟩) de_int)) (da_cons (de_ix (dv (i := 0) ⟨rfl, (Or.inr (Or.inl rfl)), rfl, rfl⟩) (dv (i := 2) ⟨rfl, (Or.inl rfl), rfl, rfl⟩)) (da_cons (de_ix (dv (i := 0) ⟨rfl, (Or.inr (Or.inl rfl)), rfl, rfl⟩) (de_add (dv (i := 2) ⟨rfl, (Or.inl rfl), rfl, rfl⟩) de_int)) da_nil))) (by rfl))) (by decide))) da_nil))))))))
abbrev N_is_laid : List Str := ["at", "many"]
theorem sc_is_laid : FnScope N_is_laid ["at", "many"] (defScope st_is_laid) := ⟨rfl, rfl, rfl, by decide +kernel, rfl, by decide +kernel, by decide +kernel⟩
theorem b_is_laid (B : Bt w K mg) (c_is_from : DCal P w K mg base 2 "is_from" 3 s_is_from) {f : Addr} : ∀ (cdv : Value) (A : Around) (outer : List Env) (s : Shared) (H : Hp) (E : XK), Room 2 (A.deeper (envOfC "is_laid" (defScope st_is_laid) s.heap.objs.size f cdv)) →
    DB (cxOf (L2N.CX P w) P w K mg base N_is_laid "is_laid" (defScope st_is_laid) f cdv A outer s H E) (WXo E) (defBody st_is_laid) (w_is_laid) := by
  intro cdv A outer s H E hr
  have nd : N_is_laid.Nodup := sc_is_laid.nd
  exact (db_one (ds_ret (de_and (de_call c_is_from hr (by decide) (by rfl) tko (da_cons (dv (i := 0) ⟨rfl, (Or.inl rfl), rfl, rfl⟩) (da_cons de_int (da_cons (de_glob (by rfl) B.k_LAST_STEP (by rfl)) da_nil))) (by rfl)) (de_and (de_call c_is_from hr (by decide) (by rfl) tko (da_cons (dv (i := 1) ⟨rfl, (Or.inl rfl), rfl, rfl⟩) (da_cons de_int (da_cons (de_glob (by rfl) B.k_LAST_STEP (by rfl)) da_nil))) (by rfl)) (de_one (de_le (de_add (dv (i := 0) ⟨rfl, (Or.inl rfl), rfl, rfl⟩) (dv (i := 1) ⟨rfl, (Or.inl rfl), rfl, rfl⟩)) (de_glob (by rfl) B.k_LAST_STEP (by rfl))))))))
abbrev N_is_piece : List Str := ["thing", "n", "take", "at", "many", "way", "start", "speed", "shape"]
theorem sc_is_piece : FnScope N_is_piece ["thing"] (defScope st_is_piece) := ⟨rfl, rfl, rfl, by decide +kernel, rfl, by decide +kernel, by decide +kernel⟩
theorem b_is_piece (B : Bt w K mg) (c_is_shape : DCal P w K mg base 5 "is_shape" 1 s_is_shape) (c_is_from : DCal P w K mg base 2 "is_from" 3 s_is_from) (c_is_name : DCal P w K mg base 1 "is_name" 1 s_is_name) (c_is_laid : DCal P w K mg base 3 "is_laid" 2 s_is_laid) (c_is_not_below : DCal P w K mg base 3 "is_not_below" 1 s_is_not_below) (c_is_above : DCal P w K mg base 3 "is_above" 1 s_is_above) (c_as_fraction : DCal P w K mg base 1 "as_fraction" 1 s_as_fraction) {f : Addr} : ∀ (cdv : Value) (A : Around) (outer : List Env) (s : Shared) (H : Hp) (E : XK), Room 5 (A.deeper (envOfC "is_piece" (defScope st_is_piece) s.heap.objs.size f cdv)) →
    DB (cxOf (L2N.CX P w) P w K mg base N_is_piece "is_piece" (defScope st_is_piece) f cdv A outer s H E) (WXo E) (defBody st_is_piece) (w_is_piece) := by
  intro cdv A outer s H E hr
  have nd : N_is_piece.Nodup := sc_is_piece.nd
  exact (db_cons (ds_if (DW.dt (dw_or (dt_not (dt_tru (de_isi (T := .tuple) (by rfl) B.isinstance (by rfl) B.tuple rfl (dv (i := 0) ⟨rfl, (Or.inl rfl), rfl, rfl⟩)))) (dw_or1 (dt_ne (room64 hr) (bi_len (by rfl) B.len (da_cons (dv (i := 0) ⟨rfl, (Or.inl rfl), rfl, rfl⟩) da_nil)) (de_glob (by rfl) B.k_PIECE_PARTS (by rfl))))))
  (db_one (ds_ret de_bl))
  db_nil)
  (db_cons (ds_asg (dv (i := 0) ⟨rfl, (Or.inl rfl), rfl, rfl⟩) (dg_tup rfl (dgs_cons (dg_name nd (i := 1) rfl (Or.inl rfl)) (dgs_cons (dg_name nd (i := 2) rfl (Or.inl rfl)) (dgs_cons (dg_name nd (i := 3) rfl (Or.inl rfl)) (dgs_cons (dg_name nd (i := 4) rfl (Or.inl rfl)) (dgs_cons (dg_name nd (i := 5) rfl (Or.inl rfl)) (dgs_cons (dg_name nd (i := 6) rfl (Or.inl rfl)) (dgs_cons (dg_name nd (i := 7) rfl (Or.inl rfl)) (dgs_cons (dg_name nd (i := 8) rfl (Or.inl rfl)) dgs_nil))))))))))
  (db_cons (ds_if (DW.dt (dw_or (dt_not (dt_tru (de_call c_is_from hr (by decide) (by rfl) tko (da_cons (dv (i := 1) ⟨rfl, (Or.inl rfl), rfl, rfl⟩) (da_cons de_int (da_cons (de_glob (by rfl) B.k_MOST_NUMBER (by rfl)) da_nil))) (by rfl)))) (dw_or (dt_not (dt_tru (de_call c_is_name hr (by decide) (by rfl) tko (da_cons (dv (i := 2) ⟨rfl, (Or.inl rfl), rfl, rfl⟩) da_nil) (by rfl)))) (dw_or1 (dt_not (dt_tru (de_call c_is_laid hr (by decide) (by rfl) tko (da_cons (dv (i := 3) ⟨rfl, (Or.inl rfl), rfl, rfl⟩) (da_cons (dv (i := 4) ⟨rfl, (Or.inl rfl), rfl, rfl⟩) da_nil)) (by rfl))))))))
  (db_one (ds_ret de_bl))
  db_nil)
  (db_cons (ds_if (DW.dt (dw_or (dt_not (dt_tru (de_isi (T := .str) (by rfl) B.isinstance (by rfl) B.str rfl (dv (i := 5) ⟨rfl, (Or.inl rfl), rfl, rfl⟩)))) (dw_or (dt_notIn (dv (i := 5) ⟨rfl, (Or.inl rfl), rfl, rfl⟩) (de_glob (by rfl) B.k_WAYS (by rfl))) (dw_or (dt_not (dt_tru (de_call c_is_not_below hr (by decide) (by rfl) tko (da_cons (dv (i := 6) ⟨rfl, (Or.inl rfl), rfl, rfl⟩) da_nil) (by rfl)))) (dw_or1 (dt_not (dt_tru (de_call c_is_above hr (by decide) (by rfl) tko (da_cons (dv (i := 7) ⟨rfl, (Or.inl rfl), rfl, rfl⟩) da_nil) (by rfl)))))))))
  (db_one (ds_ret de_bl))
  db_nil)
  (db_one (ds_ret (de_and (de_call c_is_shape hr (by decide) (by rfl) tko (da_cons (dv (i := 8) ⟨rfl, (Or.inl rfl), rfl, rfl⟩) da_nil) (by rfl)) (de_and (de_eq (room64 hr) (de_ix (de_ix (dv (i := 8) ⟨rfl, (Or.inl rfl), rfl, rfl⟩) de_int) de_int) (de_glob (by rfl) B.k_NOUGHT (by rfl))) (de_one (de_eq (room64 hr) (de_ix (de_ix (dv (i := 8) ⟨rfl, (Or.inl rfl), rfl, rfl⟩) (de_neg de_int)) de_int) (de_call c_as_fraction hr (by decide) (by rfl) tko (da_cons (dv (i := 4) ⟨rfl, (Or.inl rfl), rfl, rfl⟩) da_nil) (by rfl))))))))))))
abbrev N_law_feed : List Str := ["_law_script"]
theorem sc_law_feed : FnScope N_law_feed ["_law_script"] (defScope st_law_feed) := ⟨rfl, rfl, rfl, by decide +kernel, rfl, by decide +kernel, by decide +kernel⟩
theorem b_law_feed (B : Bt w K mg) {f : Addr} : ∀ (cdv : Value) (A : Around) (outer : List Env) (s : Shared) (H : Hp) (E : XK), Room 0 (A.deeper (envOfC "_law_feed" (defScope st_law_feed) s.heap.objs.size f cdv)) →
    DB (cxOf (L2N.CX P w) P w K mg base N_law_feed "_law_feed" (defScope st_law_feed) f cdv A outer s H E) (WXo E) (defBody st_law_feed) (w_law_feed) := by
  intro cdv A outer s H E hr
  have nd : N_law_feed.Nodup := sc_law_feed.nd
  exact (db_one (ds_ret (df_mu (df_lst (da_cons (df_fz (bi_list (by rfl) B.list (da_cons (df_fz (df_sl (dv (i := 0) ⟨rfl, (Or.inl rfl), rfl, rfl⟩) do_no (do_at de_int))) da_nil))) (da_cons de_int (da_cons de_int da_nil)))))))
abbrev N_law_draw : List Str := ["_law_feed_here", "_law_many", "_law_got", "_law_at", "_law_cell", "_law_number"]
theorem sc_law_draw : FnScope N_law_draw ["_law_feed_here", "_law_many"] (defScope st_law_draw) := ⟨rfl, rfl, rfl, by decide +kernel, rfl, by decide +kernel, by decide +kernel⟩
theorem b_law_draw (B : Bt w K mg) {f : Addr} : ∀ (cdv : Value) (A : Around) (outer : List Env) (s : Shared) (H : Hp) (E : XK), Room 0 (A.deeper (envOfC "_law_draw" (defScope st_law_draw) s.heap.objs.size f cdv)) →
    DB (cxOf (L2N.CX P w) P w K mg base N_law_draw "_law_draw" (defScope st_law_draw) f cdv A outer s H E) (WXo E) (defBody st_law_draw) (w_law_draw) := by
  intro cdv A outer s H E hr
  have nd : N_law_draw.Nodup := sc_law_draw.nd
  exact (db_cons (ds_if (dt_gt (de_ix (dv (i := 0) ⟨rfl, (Or.inl rfl), rfl, rfl⟩) de_int) de_int)
  (db_cons (ds_set (i := 2) nd ⟨rfl, (Or.inl rfl)⟩ (de_mod (de_ix (dv (i := 0) ⟨rfl, (Or.inl rfl), rfl, rfl⟩) de_int) (dv (i := 1) ⟨rfl, (Or.inl rfl), rfl, rfl⟩)))
  (db_cons (ds_setI (de_div (de_ix (dv (i := 0) ⟨rfl, (Or.inl rfl), rfl, rfl⟩) de_int) (dv (i := 1) ⟨rfl, (Or.inl rfl), rfl, rfl⟩)) (dv (i := 0) ⟨rfl, (Or.inl rfl), rfl, rfl⟩) de_int)
  (db_one (ds_ret (dv (i := 2) ⟨rfl, (Or.inl rfl), rfl, rfl⟩)))))
  db_nil)
  (db_cons (ds_set (i := 3) nd ⟨rfl, (Or.inl rfl)⟩ (de_ix (dv (i := 0) ⟨rfl, (Or.inl rfl), rfl, rfl⟩) de_int))
  (db_cons (ds_setI (de_add (dv (i := 3) ⟨rfl, (Or.inl rfl), rfl, rfl⟩) de_int) (dv (i := 0) ⟨rfl, (Or.inl rfl), rfl, rfl⟩) de_int)
  (db_cons (ds_set (i := 4) nd ⟨rfl, (Or.inl rfl)⟩ (dv (i := 3) ⟨rfl, (Or.inl rfl), rfl, rfl⟩))
  (db_cons (ds_if (dt_gt (bi_len (by rfl) B.len (da_cons (de_ix (dv (i := 0) ⟨rfl, (Or.inl rfl), rfl, rfl⟩) de_int) da_nil)) de_int)
  (db_one (ds_set (i := 4) nd ⟨rfl, (Or.inl rfl)⟩ (de_ix (de_ix (dv (i := 0) ⟨rfl, (Or.inl rfl), rfl, rfl⟩) de_int) (de_mod (dv (i := 3) ⟨rfl, (Or.inl rfl), rfl, rfl⟩) (bi_len (by rfl) B.len (da_cons (de_ix (dv (i := 0) ⟨rfl, (Or.inl rfl), rfl, rfl⟩) de_int) da_nil))))))
  db_nil)
  (db_cons (ds_if (DW.dt (dw_and (dt_ge (dv (i := 4) ⟨rfl, (Or.inl rfl), rfl, rfl⟩) (de_pow de_int de_int)) (dw_and1 (dt_lt (dv (i := 3) ⟨rfl, (Or.inl rfl), rfl, rfl⟩) (bi_len (by rfl) B.len (da_cons (de_ix (dv (i := 0) ⟨rfl, (Or.inl rfl), rfl, rfl⟩) de_int) da_nil))))))
  (db_cons (ds_setI (de_div (dv (i := 4) ⟨rfl, (Or.inl rfl), rfl, rfl⟩) (dv (i := 1) ⟨rfl, (Or.inl rfl), rfl, rfl⟩)) (dv (i := 0) ⟨rfl, (Or.inl rfl), rfl, rfl⟩) de_int)
  (db_one (ds_ret (de_mod (dv (i := 4) ⟨rfl, (Or.inl rfl), rfl, rfl⟩) (dv (i := 1) ⟨rfl, (Or.inl rfl), rfl, rfl⟩)))))
  db_nil)
  (db_cons (ds_set (i := 5) nd ⟨rfl, (Or.inl rfl)⟩ (de_mod (de_mul (de_add (de_add (de_mod (dv (i := 4) ⟨rfl, (Or.inl rfl), rfl, rfl⟩) de_int) (de_mul (de_mul de_int (dv (i := 3) ⟨rfl, (Or.inl rfl), rfl, rfl⟩)) (dv (i := 3) ⟨rfl, (Or.inl rfl), rfl, rfl⟩))) de_int) de_int) de_int))
  (db_cons (ds_set (i := 5) nd ⟨rfl, (Or.inl rfl)⟩ (de_mod (de_add (de_mul (dv (i := 5) ⟨rfl, (Or.inl rfl), rfl, rfl⟩) (dv (i := 5) ⟨rfl, (Or.inl rfl), rfl, rfl⟩)) (de_mul de_int (dv (i := 3) ⟨rfl, (Or.inl rfl), rfl, rfl⟩))) de_int))
  (db_one (ds_ret (de_mod (de_div (de_mod (de_mul (dv (i := 5) ⟨rfl, (Or.inl rfl), rfl, rfl⟩) (de_add (de_mod (dv (i := 5) ⟨rfl, (Or.inl rfl), rfl, rfl⟩) de_int) de_int)) de_int) de_int) (dv (i := 1) ⟨rfl, (Or.inl rfl), rfl, rfl⟩))))))))))))
abbrev N_law_low : List Str := ["_law_top", "_law_bottom", "_law_one", "_law_other_here"]
theorem sc_law_low : FnScope N_law_low ["_law_top", "_law_bottom"] (defScope st_law_low) := ⟨rfl, rfl, rfl, by decide +kernel, rfl, by decide +kernel, by decide +kernel⟩
theorem b_law_low (B : Bt w K mg) {f : Addr} : ∀ (cdv : Value) (A : Around) (outer : List Env) (s : Shared) (H : Hp) (E : XK), Room 0 (A.deeper (envOfC "_law_low" (defScope st_law_low) s.heap.objs.size f cdv)) →
    DB (cxOf (L2N.CX P w) P w K mg base N_law_low "_law_low" (defScope st_law_low) f cdv A outer s H E) (WXo E) (defBody st_law_low) (w_law_low) := by
  intro cdv A outer s H E hr
  have nd : N_law_low.Nodup := sc_law_low.nd
  exact (db_cons (ds_par (i := 2) (j := 3) rfl nd rfl rfl (by decide) rfl rfl (da_cons (bi_abs (by rfl) B.abs (da_cons (dv (i := 0) ⟨rfl, (Or.inl rfl), rfl, rfl⟩) da_nil)) (da_cons (dv (i := 1) ⟨rfl, (Or.inl rfl), rfl, rfl⟩) da_nil)) (by rfl))
  (db_cons (ds_while pso (dt_gt (dv (i := 3) ⟨rfl, (Or.inl rfl), rfl, rfl⟩) de_int)
  (db_one (ds_par (i := 2) (j := 3) rfl nd rfl rfl (by decide) rfl rfl (da_cons (dv (i := 3) ⟨rfl, (Or.inl rfl), rfl, rfl⟩) (da_cons (de_mod (dv (i := 2) ⟨rfl, (Or.inl rfl), rfl, rfl⟩) (dv (i := 3) ⟨rfl, (Or.inl rfl), rfl, rfl⟩)) da_nil)) (by rfl))))
  (db_one (ds_ret (de_tup (da_cons (de_div (dv (i := 0) ⟨rfl, (Or.inl rfl), rfl, rfl⟩) (dv (i := 2) ⟨rfl, (Or.inl rfl), rfl, rfl⟩)) (da_cons (de_div (dv (i := 1) ⟨rfl, (Or.inl rfl), rfl, rfl⟩) (dv (i := 2) ⟨rfl, (Or.inl rfl), rfl, rfl⟩)) da_nil)))))))
abbrev N_law_less_by : List Str := ["_law_one", "_law_other_here"]
theorem sc_law_less_by : FnScope N_law_less_by ["_law_one", "_law_other_here"] (defScope st_law_less_by) := ⟨rfl, rfl, rfl, by decide +kernel, rfl, by decide +kernel, by decide +kernel⟩
theorem b_law_less_by (B : Bt w K mg) (c_law_low : DCal P w K mg base 1 "_law_low" 2 s_law_low) {f : Addr} : ∀ (cdv : Value) (A : Around) (outer : List Env) (s : Shared) (H : Hp) (E : XK), Room 1 (A.deeper (envOfC "_law_less_by" (defScope st_law_less_by) s.heap.objs.size f cdv)) →
    DB (cxOf (L2N.CX P w) P w K mg base N_law_less_by "_law_less_by" (defScope st_law_less_by) f cdv A outer s H E) (WXo E) (defBody st_law_less_by) (w_law_less_by) := by
  intro cdv A outer s H E hr
  have nd : N_law_less_by.Nodup := sc_law_less_by.nd
  exact (db_one (ds_ret (de_call c_law_low hr (by decide) (by rfl) tko (da_cons (de_sub (de_mul (de_ix (dv (i := 0) ⟨rfl, (Or.inl rfl), rfl, rfl⟩) de_int) (de_ix (dv (i := 1) ⟨rfl, (Or.inl rfl), rfl, rfl⟩) de_int)) (de_mul (de_ix (dv (i := 1) ⟨rfl, (Or.inl rfl), rfl, rfl⟩) de_int) (de_ix (dv (i := 0) ⟨rfl, (Or.inl rfl), rfl, rfl⟩) de_int))) (da_cons (de_mul (de_ix (dv (i := 0) ⟨rfl, (Or.inl rfl), rfl, rfl⟩) de_int) (de_ix (dv (i := 1) ⟨rfl, (Or.inl rfl), rfl, rfl⟩) de_int)) da_nil)) (by rfl))))
abbrev N_law_fraction : List Str := ["_law_feed_here", "_law_far", "_law_top", "_law_bottom"]
theorem sc_law_fraction : FnScope N_law_fraction ["_law_feed_here"] (defScope st_law_fraction) := ⟨rfl, rfl, rfl, by decide +kernel, rfl, by decide +kernel, by decide +kernel⟩
theorem b_law_fraction (B : Bt w K mg) (c_law_low : DCal P w K mg base 1 "_law_low" 2 s_law_low) (c_law_draw : DCal P w K mg base 1 "_law_draw" 2 s_law_draw) {f : Addr} : ∀ (cdv : Value) (A : Around) (outer : List Env) (s : Shared) (H : Hp) (E : XK), Room 1 (A.deeper (envOfC "_law_fraction" (defScope st_law_fraction) s.heap.objs.size f cdv)) →
    DB (cxOf (L2N.CX P w) P w K mg base N_law_fraction "_law_fraction" (defScope st_law_fraction) f cdv A outer s H E) (WXo E) (defBody st_law_fraction) (w_law_fraction) := by
  intro cdv A outer s H E hr
  have nd : N_law_fraction.Nodup := sc_law_fraction.nd
  exact (db_cons (ds_set (i := 1) nd ⟨rfl, (Or.inl rfl)⟩ (de_add (de_mul (de_call c_law_draw hr (by decide) (by rfl) tko (da_cons (dv (i := 0) ⟨rfl, (Or.inl rfl), rfl, rfl⟩) (da_cons de_int da_nil)) (by rfl)) (de_pow de_int de_int)) (de_call c_law_draw hr (by decide) (by rfl) tko (da_cons (dv (i := 0) ⟨rfl, (Or.inl rfl), rfl, rfl⟩) (da_cons (de_pow de_int de_int) da_nil)) (by rfl))))
  (db_cons (ds_set (i := 2) nd ⟨rfl, (Or.inl rfl)⟩ (de_ix (df_fz (df_lst (da_cons (de_call c_law_draw hr (by decide) (by rfl) tko (da_cons (dv (i := 0) ⟨rfl, (Or.inl rfl), rfl, rfl⟩) (da_cons de_int da_nil)) (by rfl)) (da_cons (de_call c_law_draw hr (by decide) (by rfl) tko (da_cons (dv (i := 0) ⟨rfl, (Or.inl rfl), rfl, rfl⟩) (da_cons de_int da_nil)) (by rfl)) (da_cons (de_call c_law_draw hr (by decide) (by rfl) tko (da_cons (dv (i := 0) ⟨rfl, (Or.inl rfl), rfl, rfl⟩) (da_cons (de_pow de_int de_int) da_nil)) (by rfl)) (da_cons (dv (i := 1) ⟨rfl, (Or.inl rfl), rfl, rfl⟩) da_nil)))))) (de_call c_law_draw hr (by decide) (by rfl) tko (da_cons (dv (i := 0) ⟨rfl, (Or.inl rfl), rfl, rfl⟩) (da_cons de_int da_nil)) (by rfl))))
  (db_cons (ds_set (i := 3) nd ⟨rfl, (Or.inl rfl)⟩ (df_fz (df_lst (da_cons de_int (da_cons (de_add de_int (de_call c_law_draw hr (by decide) (by rfl) tko (da_cons (dv (i := 0) ⟨rfl, (Or.inl rfl), rfl, rfl⟩) (da_cons de_int da_nil)) (by rfl))) (da_cons (de_add de_int (de_call c_law_draw hr (by decide) (by rfl) tko (da_cons (dv (i := 0) ⟨rfl, (Or.inl rfl), rfl, rfl⟩) (da_cons (de_pow de_int de_int) da_nil)) (by rfl))) (da_cons (de_sub (de_sub (de_pow de_int de_int) de_int) (de_call c_law_draw hr (by decide) (by rfl) tko (da_cons (dv (i := 0) ⟨rfl, (Or.inl rfl), rfl, rfl⟩) (da_cons de_int da_nil)) (by rfl))) da_nil)))))))
  (db_one (ds_ret (de_call c_law_low hr (by decide) (by rfl) tko (da_cons (dv (i := 2) ⟨rfl, (Or.inl rfl), rfl, rfl⟩) (da_cons (de_ix (dv (i := 3) ⟨rfl, (Or.inl rfl), rfl, rfl⟩) (de_call c_law_draw hr (by decide) (by rfl) tko (da_cons (dv (i := 0) ⟨rfl, (Or.inl rfl), rfl, rfl⟩) (da_cons de_int da_nil)) (by rfl))) da_nil)) (by rfl)))))))
abbrev N_law_name : List Str := ["_law_feed_here", "_law_letters", "_law_words", "_law_k"]
theorem sc_law_name : FnScope N_law_name ["_law_feed_here"] (defScope st_law_name) := ⟨rfl, rfl, rfl, by decide +kernel, rfl, by decide +kernel, by decide +kernel⟩
theorem b_law_name (B : Bt w K mg) (c_law_draw : DCal P w K mg base 1 "_law_draw" 2 s_law_draw) {f : Addr} : ∀ (cdv : Value) (A : Around) (outer : List Env) (s : Shared) (H : Hp) (E : XK), Room 1 (A.deeper (envOfC "_law_name" (defScope st_law_name) s.heap.objs.size f cdv)) →
    DB (cxOf (L2N.CX P w) P w K mg base N_law_name "_law_name" (defScope st_law_name) f cdv A outer s H E) (WXo E) (defBody st_law_name) (w_law_name) := by
  intro cdv A outer s H E hr
  have nd : N_law_name.Nodup := sc_law_name.nd
  exact (db_cons (ds_set (i := 1) nd ⟨rfl, (Or.inr rfl)⟩ de_str)
  (db_cons (ds_set (i := 2) nd ⟨rfl, (Or.inl rfl)⟩ (df_fz (df_split de_str de_str)))
  (db_cons (ds_if (dt_eq (room64 hr) (de_call c_law_draw hr (by decide) (by rfl) tko (da_cons (dv (i := 0) ⟨rfl, (Or.inr (Or.inl rfl)), rfl, rfl⟩) (da_cons de_int da_nil)) (by rfl)) de_int)
  (db_one (ds_ret (de_ix (dv (i := 2) ⟨rfl, (Or.inl rfl), rfl, rfl⟩) (de_call c_law_draw hr (by decide) (by rfl) tko (da_cons (dv (i := 0) ⟨rfl, (Or.inr (Or.inl rfl)), rfl, rfl⟩) (da_cons de_int da_nil)) (by rfl)))))
  db_nil)
  (db_one (ds_ret (de_join de_str (df_fz (df_lc rfl nd (by exact (di_range1 (by rfl) B.range (da_cons (de_add de_int (de_call c_law_draw hr (by decide) (by rfl) tko (da_cons (dv (i := 0) ⟨rfl, (Or.inr (Or.inl rfl)), rfl, rfl⟩) (da_cons de_int da_nil)) (by rfl))) da_nil))) (blkOk_by (own := [("_law_k", 3)]) (by rfl)) (fun _ _ _ _ _ => (dg_name nd (i := 3) rfl (Or.inl rfl))) (fun _ _ _ _ _ => dts_nil) (fun _ _ _ _ _ => (de_ix (dv (i := 1) ⟨rfl, (Or.inr (Or.inl rfl)), rfl, rfl⟩) (de_call c_law_draw hr (by decide) (by rfl) takes0N (da_cons (dv (i := 0) ⟨rfl, (Or.inr (Or.inl rfl)), rfl, rfl⟩) (da_cons de_int da_nil)) (by rfl)))) (by decide)))))))))
abbrev N_law_take : List Str := ["_law_feed_here", "_law_many", "_law_tones", "_law_k"]
theorem sc_law_take : FnScope N_law_take ["_law_feed_here"] (defScope st_law_take) := ⟨rfl, rfl, rfl, by decide +kernel, rfl, by decide +kernel, by decide +kernel⟩
theorem b_law_take (B : Bt w K mg) (c_law_draw : DCal P w K mg base 1 "_law_draw" 2 s_law_draw) (c_law_name : DCal P w K mg base 2 "_law_name" 1 s_law_name) {f : Addr} : ∀ (cdv : Value) (A : Around) (outer : List Env) (s : Shared) (H : Hp) (E : XK), Room 2 (A.deeper (envOfC "_law_take" (defScope st_law_take) s.heap.objs.size f cdv)) →
    DB (cxOf (L2N.CX P w) P w K mg base N_law_take "_law_take" (defScope st_law_take) f cdv A outer s H E) (WXo E) (defBody st_law_take) (w_law_take) := by
  intro cdv A outer s H E hr
  have nd : N_law_take.Nodup := sc_law_take.nd
  exact (db_cons (ds_set (i := 1) nd ⟨rfl, (Or.inl rfl)⟩ (de_ix (df_fz (df_lst (da_cons (de_add de_int (de_call c_law_draw hr (by decide) (by rfl) tko (da_cons (dv (i := 0) ⟨rfl, (Or.inr (Or.inl rfl)), rfl, rfl⟩) (da_cons de_int da_nil)) (by rfl))) (da_cons de_int da_nil)))) (bi_int (by rfl) B.int (da_cons (de_eq (room64 hr) (de_call c_law_draw hr (by decide) (by rfl) tko (da_cons (dv (i := 0) ⟨rfl, (Or.inr (Or.inl rfl)), rfl, rfl⟩) (da_cons de_int da_nil)) (by rfl)) de_int) da_nil))))
  (db_cons (ds_setLc (i := 2) rfl nd rfl rfl (sw_true rfl rfl rfl (by decide +kernel)) (by exact (di_range1 (by rfl) B.range (da_cons (dv (i := 1) ⟨rfl, (Or.inl rfl), rfl, rfl⟩) da_nil))) (blkOk_by (own := [("_law_k", 3)]) (by rfl)) (fun _ _ _ _ _ => (dg_name nd (i := 3) rfl (Or.inl rfl))) (fun _ _ _ _ _ => dts_nil) (fun _ _ _ _ _ => (de_sub (de_call c_law_draw hr (by decide) (by rfl) takes0N (da_cons (dv (i := 0) ⟨rfl, (Or.inr (Or.inl rfl)), rfl, rfl⟩) (da_cons de_int da_nil)) (by rfl)) de_int)) (by decide) (conv := fun _ _ _ h => conv_mu h))
  (db_cons (ds_setI (de_ix (df_fz (df_lst (da_cons de_int (da_cons (de_neg de_int) (da_cons de_int da_nil))))) (de_call c_law_draw hr (by decide) (by rfl) tko (da_cons (dv (i := 0) ⟨rfl, (Or.inr (Or.inl rfl)), rfl, rfl⟩) (da_cons de_int da_nil)) (by rfl))) (dv (i := 2) ⟨rfl, (Or.inl rfl), rfl, rfl⟩) (de_call c_law_draw hr (by decide) (by rfl) tko (da_cons (dv (i := 0) ⟨rfl, (Or.inr (Or.inl rfl)), rfl, rfl⟩) (da_cons (dv (i := 1) ⟨rfl, (Or.inl rfl), rfl, rfl⟩) da_nil)) (by rfl)))
  (db_one (ds_ret (de_tup (da_cons (de_call c_law_name hr (by decide) (by rfl) tko (da_cons (dv (i := 0) ⟨rfl, (Or.inr (Or.inl rfl)), rfl, rfl⟩) da_nil) (by rfl)) (da_cons (bi_tuple (by rfl) B.tuple (da_cons (dv (i := 2) ⟨rfl, (Or.inl rfl), rfl, rfl⟩) da_nil)) da_nil))))))))
abbrev N_law_is_straight : List Str := ["_law_one", "_law_middle", "_law_other_here", "_law_rise", "_law_run", "_law_up", "_law_on"]
theorem sc_law_is_straight : FnScope N_law_is_straight ["_law_one", "_law_middle", "_law_other_here"] (defScope st_law_is_straight) := ⟨rfl, rfl, rfl, by decide +kernel, rfl, by decide +kernel, by decide +kernel⟩
theorem b_law_is_straight (B : Bt w K mg) (c_law_less_by : DCal P w K mg base 2 "_law_less_by" 2 s_law_less_by) {f : Addr} : ∀ (cdv : Value) (A : Around) (outer : List Env) (s : Shared) (H : Hp) (E : XK), Room 2 (A.deeper (envOfC "_law_is_straight" (defScope st_law_is_straight) s.heap.objs.size f cdv)) →
    DB (cxOf (L2N.CX P w) P w K mg base N_law_is_straight "_law_is_straight" (defScope st_law_is_straight) f cdv A outer s H E) (WXo E) (defBody st_law_is_straight) (w_law_is_straight) := by
  intro cdv A outer s H E hr
  have nd : N_law_is_straight.Nodup := sc_law_is_straight.nd
  exact (db_cons (ds_par (i := 3) (j := 4) rfl nd rfl rfl (by decide) rfl rfl (da_cons (de_call c_law_less_by hr (by decide) (by rfl) tko (da_cons (de_ix (dv (i := 1) ⟨rfl, (Or.inl rfl), rfl, rfl⟩) de_int) (da_cons (de_ix (dv (i := 0) ⟨rfl, (Or.inl rfl), rfl, rfl⟩) de_int) da_nil)) (by rfl)) (da_cons (de_call c_law_less_by hr (by decide) (by rfl) tko (da_cons (de_ix (dv (i := 1) ⟨rfl, (Or.inl rfl), rfl, rfl⟩) de_int) (da_cons (de_ix (dv (i := 0) ⟨rfl, (Or.inl rfl), rfl, rfl⟩) de_int) da_nil)) (by rfl)) da_nil)) (by rfl))
  (db_cons (ds_par (i := 5) (j := 6) rfl nd rfl rfl (by decide) rfl rfl (da_cons (de_call c_law_less_by hr (by decide) (by rfl) tko (da_cons (de_ix (dv (i := 2) ⟨rfl, (Or.inl rfl), rfl, rfl⟩) de_int) (da_cons (de_ix (dv (i := 0) ⟨rfl, (Or.inl rfl), rfl, rfl⟩) de_int) da_nil)) (by rfl)) (da_cons (de_call c_law_less_by hr (by decide) (by rfl) tko (da_cons (de_ix (dv (i := 2) ⟨rfl, (Or.inl rfl), rfl, rfl⟩) de_int) (da_cons (de_ix (dv (i := 0) ⟨rfl, (Or.inl rfl), rfl, rfl⟩) de_int) da_nil)) (by rfl)) da_nil)) (by rfl))
  (db_one (ds_ret (de_eq (room64 hr) (de_mul (de_mul (de_mul (de_ix (dv (i := 3) ⟨rfl, (Or.inl rfl), rfl, rfl⟩) de_int) (de_ix (dv (i := 6) ⟨rfl, (Or.inl rfl), rfl, rfl⟩) de_int)) (de_ix (dv (i := 5) ⟨rfl, (Or.inl rfl), rfl, rfl⟩) de_int)) (de_ix (dv (i := 4) ⟨rfl, (Or.inl rfl), rfl, rfl⟩) de_int)) (de_mul (de_mul (de_mul (de_ix (dv (i := 5) ⟨rfl, (Or.inl rfl), rfl, rfl⟩) de_int) (de_ix (dv (i := 4) ⟨rfl, (Or.inl rfl), rfl, rfl⟩) de_int)) (de_ix (dv (i := 3) ⟨rfl, (Or.inl rfl), rfl, rfl⟩) de_int)) (de_ix (dv (i := 6) ⟨rfl, (Or.inl rfl), rfl, rfl⟩) de_int)))))))
abbrev N_law_shape : List Str := ["_law_feed_here", "_law_many", "_law_inner", "_law_parts", "_law_found", "_law_k"]
theorem sc_law_shape : FnScope N_law_shape ["_law_feed_here", "_law_many"] (defScope st_law_shape) := ⟨rfl, rfl, rfl, by decide +kernel, rfl, by decide +kernel, by decide +kernel⟩
theorem b_law_shape (B : Bt w K mg) (c_law_draw : DCal P w K mg base 1 "_law_draw" 2 s_law_draw) (c_law_is_straight : DCal P w K mg base 3 "_law_is_straight" 3 s_law_is_straight) (c_law_low : DCal P w K mg base 1 "_law_low" 2 s_law_low) (c_law_fraction : DCal P w K mg base 2 "_law_fraction" 1 s_law_fraction) {f : Addr} : ∀ (cdv : Value) (A : Around) (outer : List Env) (s : Shared) (H : Hp) (E : XK), Room 3 (A.deeper (envOfC "_law_shape" (defScope st_law_shape) s.heap.objs.size f cdv)) →
    DB (cxOf (L2N.CX P w) P w K mg base N_law_shape "_law_shape" (defScope st_law_shape) f cdv A outer s H E) (WXo E) (defBody st_law_shape) (w_law_shape) := by
  intro cdv A outer s H E hr
  have nd : N_law_shape.Nodup := sc_law_shape.nd
  exact (db_cons (ds_set (i := 2) nd ⟨rfl, (Or.inl rfl)⟩ (de_ix (df_fz (df_lst (da_cons (de_call c_law_draw hr (by decide) (by rfl) tko (da_cons (dv (i := 0) ⟨rfl, (Or.inr (Or.inl rfl)), rfl, rfl⟩) (da_cons de_int da_nil)) (by rfl)) (da_cons (de_call c_law_draw hr (by decide) (by rfl) tko (da_cons (dv (i := 0) ⟨rfl, (Or.inr (Or.inl rfl)), rfl, rfl⟩) (da_cons de_int da_nil)) (by rfl)) da_nil)))) (bi_int (by rfl) B.int (da_cons (de_eq (room64 hr) (de_call c_law_draw hr (by decide) (by rfl) tko (da_cons (dv (i := 0) ⟨rfl, (Or.inr (Or.inl rfl)), rfl, rfl⟩) (da_cons de_int da_nil)) (by rfl)) de_int) da_nil))))
  (db_cons (ds_setLc (i := 3) rfl nd rfl rfl (sw_true rfl rfl rfl (by decide +kernel)) (by exact (di_range1 (by rfl) B.range (da_cons (de_add (dv (i := 2) ⟨rfl, (Or.inl rfl), rfl, rfl⟩) de_int) da_nil))) (blkOk_by (own := [("_law_k", 5)]) (by rfl)) (fun _ _ _ _ _ => (dg_name nd (i := 5) rfl (Or.inl rfl))) (fun _ _ _ _ _ => dts_nil) (fun _ _ _ _ _ => (de_add de_int (de_call c_law_draw hr (by decide) (by rfl) takes0N (da_cons (dv (i := 0) ⟨rfl, (Or.inr (Or.inl rfl)), rfl, rfl⟩) (da_cons de_int da_nil)) (by rfl)))) (by decide) (conv := fun _ _ _ h => conv_fz h))
  (db_cons (ds_set (i := 4) nd ⟨rfl, (Or.inl rfl)⟩ (df_mu (df_lst da_nil)))
  (db_cons (ds_for pso rfl (by exact (di_range1 (by rfl) B.range (da_cons (de_add (dv (i := 2) ⟨rfl, (Or.inl rfl), rfl, rfl⟩) de_int) da_nil))) (dg_name nd (i := 5) rfl (Or.inl rfl))
  (db_cons (ds_expr (de_append (dv (i := 4) ⟨rfl, (Or.inl rfl), rfl, rfl⟩) (de_tup (da_cons (de_call c_law_low hr (by decide) (by rfl) tko (da_cons (de_mul (dv (i := 1) ⟨rfl, (Or.inl rfl), rfl, rfl⟩) (bi_sum (by rfl) B.sum rfl (da_cons (df_fz (df_sl (dv (i := 3) ⟨rfl, (Or.inl rfl), rfl, rfl⟩) do_no (do_at (dv (i := 5) ⟨rfl, (Or.inl rfl), rfl, rfl⟩)))) da_nil))) (da_cons (bi_sum (by rfl) B.sum rfl (da_cons (dv (i := 3) ⟨rfl, (Or.inl rfl), rfl, rfl⟩) da_nil)) da_nil)) (by rfl)) (da_cons (de_call c_law_fraction hr (by decide) (by rfl) tko (da_cons (dv (i := 0) ⟨rfl, (Or.inr (Or.inl rfl)), rfl, rfl⟩) da_nil) (by rfl)) da_nil)))))
  (db_one (ds_if (DW.dt (dw_and (dt_gt (bi_len (by rfl) B.len (da_cons (dv (i := 4) ⟨rfl, (Or.inl rfl), rfl, rfl⟩) da_nil)) de_int) (dw_and1 (dt_tru (de_call c_law_is_straight hr (by decide) (by rfl) tko (da_cons (de_ix (dv (i := 4) ⟨rfl, (Or.inl rfl), rfl, rfl⟩) (de_neg de_int)) (da_cons (de_ix (dv (i := 4) ⟨rfl, (Or.inl rfl), rfl, rfl⟩) (de_neg de_int)) (da_cons (de_ix (dv (i := 4) ⟨rfl, (Or.inl rfl), rfl, rfl⟩) (de_neg de_int)) da_nil))) (by rfl))))))
  (db_one (ds_expr (de_popAt (dv (i := 4) ⟨rfl, (Or.inl rfl), rfl, rfl⟩) (de_neg de_int))))
  db_nil))))
  (db_one (ds_ret (bi_tuple (by rfl) B.tuple (da_cons (dv (i := 4) ⟨rfl, (Or.inl rfl), rfl, rfl⟩) da_nil))))))))
abbrev N_law_piece : List Str := ["_law_feed_here", "_law_many", "_law_at", "_law_edge", "_law_n", "_law_speed", "_law_way"]
theorem sc_law_piece : FnScope N_law_piece ["_law_feed_here"] (defScope st_law_piece) := ⟨rfl, rfl, rfl, by decide +kernel, rfl, by decide +kernel, by decide +kernel⟩
theorem b_law_piece (B : Bt w K mg) (c_law_draw : DCal P w K mg base 1 "_law_draw" 2 s_law_draw) (c_law_fraction : DCal P w K mg base 2 "_law_fraction" 1 s_law_fraction) (c_law_name : DCal P w K mg base 2 "_law_name" 1 s_law_name) (c_law_shape : DCal P w K mg base 4 "_law_shape" 2 s_law_shape) {f : Addr} : ∀ (cdv : Value) (A : Around) (outer : List Env) (s : Shared) (H : Hp) (E : XK), Room 4 (A.deeper (envOfC "_law_piece" (defScope st_law_piece) s.heap.objs.size f cdv)) →
    DB (cxOf (L2N.CX P w) P w K mg base N_law_piece "_law_piece" (defScope st_law_piece) f cdv A outer s H E) (WXo E) (defBody st_law_piece) (w_law_piece) := by
  intro cdv A outer s H E hr
  have nd : N_law_piece.Nodup := sc_law_piece.nd
  exact (db_cons (ds_set (i := 1) nd ⟨rfl, (Or.inl rfl)⟩ (de_add de_int (de_call c_law_draw hr (by decide) (by rfl) tko (da_cons (dv (i := 0) ⟨rfl, (Or.inl rfl), rfl, rfl⟩) (da_cons de_int da_nil)) (by rfl))))
  (db_cons (ds_set (i := 2) nd ⟨rfl, (Or.inl rfl)⟩ (de_call c_law_draw hr (by decide) (by rfl) tko (da_cons (dv (i := 0) ⟨rfl, (Or.inl rfl), rfl, rfl⟩) (da_cons de_int da_nil)) (by rfl)))
  (db_cons (ds_set (i := 3) nd ⟨rfl, (Or.inl rfl)⟩ (de_call c_law_draw hr (by decide) (by rfl) tko (da_cons (dv (i := 0) ⟨rfl, (Or.inl rfl), rfl, rfl⟩) (da_cons de_int da_nil)) (by rfl)))
  (db_cons (ds_if (dt_eq (room64 hr) (dv (i := 3) ⟨rfl, (Or.inl rfl), rfl, rfl⟩) de_int)
  (db_one (ds_set (i := 2) nd ⟨rfl, (Or.inl rfl)⟩ (de_sub de_int (dv (i := 1) ⟨rfl, (Or.inl rfl), rfl, rfl⟩))))
  db_nil)
  (db_cons (ds_if (dt_eq (room64 hr) (dv (i := 3) ⟨rfl, (Or.inl rfl), rfl, rfl⟩) de_int)
  (db_cons (ds_par (i := 2) (j := 1) rfl nd rfl rfl (by decide) rfl rfl (da_cons (de_ix (df_fz (df_lst (da_cons de_int (da_cons de_int da_nil)))) (de_call c_law_draw hr (by decide) (by rfl) tko (da_cons (dv (i := 0) ⟨rfl, (Or.inl rfl), rfl, rfl⟩) (da_cons de_int da_nil)) (by rfl))) (da_cons (de_ix (df_fz (df_lst (da_cons de_int (da_cons de_int da_nil)))) (de_call c_law_draw hr (by decide) (by rfl) tko (da_cons (dv (i := 0) ⟨rfl, (Or.inl rfl), rfl, rfl⟩) (da_cons de_int da_nil)) (by rfl))) da_nil)) (by rfl))
  (db_one (ds_set (i := 1) nd ⟨rfl, (Or.inl rfl)⟩ (bi_min2 (by rfl) B.min rfl (da_cons (dv (i := 1) ⟨rfl, (Or.inl rfl), rfl, rfl⟩) (da_cons (de_sub de_int (dv (i := 2) ⟨rfl, (Or.inl rfl), rfl, rfl⟩)) da_nil))))))
  db_nil)
  (db_cons (ds_set (i := 4) nd ⟨rfl, (Or.inl rfl)⟩ (de_ix (df_fz (df_lst (da_cons (de_add de_int (de_call c_law_draw hr (by decide) (by rfl) tko (da_cons (dv (i := 0) ⟨rfl, (Or.inl rfl), rfl, rfl⟩) (da_cons de_int da_nil)) (by rfl))) (da_cons de_int (da_cons de_int da_nil))))) (de_call c_law_draw hr (by decide) (by rfl) tko (da_cons (dv (i := 0) ⟨rfl, (Or.inl rfl), rfl, rfl⟩) (da_cons de_int da_nil)) (by rfl))))
  (db_cons (ds_set (i := 5) nd ⟨rfl, (Or.inl rfl)⟩ (de_call c_law_fraction hr (by decide) (by rfl) tko (da_cons (dv (i := 0) ⟨rfl, (Or.inl rfl), rfl, rfl⟩) da_nil) (by rfl)))
  (db_cons (ds_set (i := 5) nd ⟨rfl, (Or.inl rfl)⟩ (de_ix (df_fz (df_lst (da_cons (dv (i := 5) ⟨rfl, (Or.inl rfl), rfl, rfl⟩) (da_cons (de_tup (da_cons de_int (da_cons de_int da_nil))) da_nil)))) (bi_int (by rfl) B.int (da_cons (de_eq (room64 hr) (de_ix (dv (i := 5) ⟨rfl, (Or.inl rfl), rfl, rfl⟩) de_int) de_int) da_nil))))
  (db_cons (ds_set (i := 6) nd ⟨rfl, (Or.inl rfl)⟩ (de_ix (df_fz (df_lst (da_cons de_str (da_cons de_str da_nil)))) (de_call c_law_draw hr (by decide) (by rfl) tko (da_cons (dv (i := 0) ⟨rfl, (Or.inl rfl), rfl, rfl⟩) (da_cons de_int da_nil)) (by rfl))))
  (db_one (ds_ret (de_tup (da_cons (dv (i := 4) ⟨rfl, (Or.inl rfl), rfl, rfl⟩) (da_cons (de_call c_law_name hr (by decide) (by rfl) tko (da_cons (dv (i := 0) ⟨rfl, (Or.inl rfl), rfl, rfl⟩) da_nil) (by rfl)) (da_cons (dv (i := 2) ⟨rfl, (Or.inl rfl), rfl, rfl⟩) (da_cons (dv (i := 1) ⟨rfl, (Or.inl rfl), rfl, rfl⟩) (da_cons (dv (i := 6) ⟨rfl, (Or.inl rfl), rfl, rfl⟩) (da_cons (de_call c_law_fraction hr (by decide) (by rfl) tko (da_cons (dv (i := 0) ⟨rfl, (Or.inl rfl), rfl, rfl⟩) da_nil) (by rfl)) (da_cons (dv (i := 5) ⟨rfl, (Or.inl rfl), rfl, rfl⟩) (da_cons (de_call c_law_shape hr (by decide) (by rfl) tko (da_cons (dv (i := 0) ⟨rfl, (Or.inl rfl), rfl, rfl⟩) (da_cons (dv (i := 1) ⟨rfl, (Or.inl rfl), rfl, rfl⟩) da_nil)) (by rfl)) da_nil))))))))))))))))))))
abbrev N_law_other : List Str := ["_law_feed_here", "_law_thing", "_law_way", "_law_at", "_law_some", "_law_signs", "_law_sign"]
theorem sc_law_other : FnScope N_law_other ["_law_feed_here", "_law_thing"] (defScope st_law_other) := ⟨rfl, rfl, rfl, by decide +kernel, rfl, by decide +kernel, by decide +kernel⟩
theorem b_law_other (B : Bt w K mg) (c_law_draw : DCal P w K mg base 1 "_law_draw" 2 s_law_draw) {f : Addr} : ∀ (cdv : Value) (A : Around) (outer : List Env) (s : Shared) (H : Hp) (E : XK), Room 1 (A.deeper (envOfC "_law_other" (defScope st_law_other) s.heap.objs.size f cdv)) →
    DB (cxOf (L2N.CX P w) P w K mg base N_law_other "_law_other" (defScope st_law_other) f cdv A outer s H E) (WXo E) (defBody st_law_other) (w_law_other) := by
  intro cdv A outer s H E hr
  have nd : N_law_other.Nodup := sc_law_other.nd
  exact (db_cons (ds_set (i := 2) nd ⟨rfl, (Or.inl rfl)⟩ (de_call c_law_draw hr (by decide) (by rfl) tko (da_cons (dv (i := 0) ⟨rfl, (Or.inl rfl), rfl, rfl⟩) (da_cons de_int da_nil)) (by rfl)))
  (db_cons (ds_if (dt_eq (room64 hr) (dv (i := 2) ⟨rfl, (Or.inl rfl), rfl, rfl⟩) de_int)
  (db_one (ds_ret (de_ix (df_fz (df_lst (da_cons de_non (da_cons de_bl (da_cons (de_tup da_nil) (da_cons de_str (da_cons (df_fz (df_lst (da_cons (dv (i := 1) ⟨rfl, (Or.inl rfl), rfl, rfl⟩) da_nil))) (da_cons de_dict0 (da_cons (de_pow de_int de_int) (da_cons (de_neg de_int) da_nil)))))))))) (de_call c_law_draw hr (by decide) (by rfl) tko (da_cons (dv (i := 0) ⟨rfl, (Or.inl rfl), rfl, rfl⟩) (da_cons de_int da_nil)) (by rfl)))))
  db_nil)
  (db_cons (ds_if (dt_tru (de_isi (T := .tuple) (by rfl) B.isinstance (by rfl) B.tuple rfl (dv (i := 1) ⟨rfl, (Or.inl rfl), rfl, rfl⟩)))
  (db_cons (ds_set (i := 3) nd ⟨rfl, (Or.inl rfl)⟩ (de_call c_law_draw hr (by decide) (by rfl) tko (da_cons (dv (i := 0) ⟨rfl, (Or.inl rfl), rfl, rfl⟩) (da_cons (de_addB (bi_len (by rfl) B.len (da_cons (dv (i := 1) ⟨rfl, (Or.inl rfl), rfl, rfl⟩) da_nil)) de_int) da_nil)) (by rfl)))
  (db_cons (ds_set (i := 4) nd ⟨rfl, (Or.inl rfl)⟩ (df_fz (df_lst (da_cons (de_addB (de_sl (dv (i := 1) ⟨rfl, (Or.inl rfl), rfl, rfl⟩) do_no (do_at (dv (i := 3) ⟨rfl, (Or.inl rfl), rfl, rfl⟩))) (de_sl (dv (i := 1) ⟨rfl, (Or.inl rfl), rfl, rfl⟩) (do_at (de_addB (dv (i := 3) ⟨rfl, (Or.inl rfl), rfl, rfl⟩) de_int)) do_no)) (da_cons (de_addB (de_addB (de_sl (dv (i := 1) ⟨rfl, (Or.inl rfl), rfl, rfl⟩) do_no (do_at (dv (i := 3) ⟨rfl, (Or.inl rfl), rfl, rfl⟩))) (de_sl (dv (i := 1) ⟨rfl, (Or.inl rfl), rfl, rfl⟩) (do_at (dv (i := 3) ⟨rfl, (Or.inl rfl), rfl, rfl⟩)) (do_at (de_addB (dv (i := 3) ⟨rfl, (Or.inl rfl), rfl, rfl⟩) de_int)))) (de_sl (dv (i := 1) ⟨rfl, (Or.inl rfl), rfl, rfl⟩) (do_at (dv (i := 3) ⟨rfl, (Or.inl rfl), rfl, rfl⟩)) do_no)) (da_cons (de_revT (dv (i := 1) ⟨rfl, (Or.inl rfl), rfl, rfl⟩)) (da_cons (df_fz (bi_list (by rfl) B.list (da_cons (dv (i := 1) ⟨rfl, (Or.inl rfl), rfl, rfl⟩) da_nil))) da_nil)))))))
  (db_cons (ds_set (i := 4) nd ⟨rfl, (Or.inl rfl)⟩ (df_fz (df_cat (dv (i := 4) ⟨rfl, (Or.inl rfl), rfl, rfl⟩) (df_fz (df_lst (da_cons (de_addB (dv (i := 1) ⟨rfl, (Or.inl rfl), rfl, rfl⟩) (de_tup (da_cons de_int da_nil))) da_nil))))))
  (db_cons (ds_if (DW.dt (dw_and (dt_eq (room64 hr) (bi_len (by rfl) B.len (da_cons (dv (i := 1) ⟨rfl, (Or.inl rfl), rfl, rfl⟩) da_nil)) de_int) (dw_and (dt_tru (de_isi (T := .int) (by rfl) B.isinstance (by rfl) B.int rfl (de_ix (dv (i := 1) ⟨rfl, (Or.inl rfl), rfl, rfl⟩) de_int))) (dw_and1 (dt_tru (de_isi (T := .int) (by rfl) B.isinstance (by rfl) B.int rfl (de_ix (dv (i := 1) ⟨rfl, (Or.inl rfl), rfl, rfl⟩) de_int)))))))
  (db_one (ds_set (i := 4) nd ⟨rfl, (Or.inl rfl)⟩ (df_fz (df_cat (dv (i := 4) ⟨rfl, (Or.inl rfl), rfl, rfl⟩) (df_fz (df_lst (da_cons (de_tup (da_cons (de_mulB de_int (de_ix (dv (i := 1) ⟨rfl, (Or.inl rfl), rfl, rfl⟩) de_int)) (da_cons (de_mulB de_int (de_ix (dv (i := 1) ⟨rfl, (Or.inl rfl), rfl, rfl⟩) de_int)) da_nil))) (da_cons (de_tup (da_cons (de_subB de_int (de_ix (dv (i := 1) ⟨rfl, (Or.inl rfl), rfl, rfl⟩) de_int)) (da_cons (de_ix (dv (i := 1) ⟨rfl, (Or.inl rfl), rfl, rfl⟩) de_int) da_nil))) (da_cons (de_tup (da_cons (de_subB de_int (de_ix (dv (i := 1) ⟨rfl, (Or.inl rfl), rfl, rfl⟩) de_int)) (da_cons (de_subB de_int (de_ix (dv (i := 1) ⟨rfl, (Or.inl rfl), rfl, rfl⟩) de_int)) da_nil))) da_nil)))))))))
  db_nil)
  (db_one (ds_ret (de_ix (dv (i := 4) ⟨rfl, (Or.inl rfl), rfl, rfl⟩) (de_call c_law_draw hr (by decide) (by rfl) tko (da_cons (dv (i := 0) ⟨rfl, (Or.inl rfl), rfl, rfl⟩) (da_cons (bi_len (by rfl) B.len (da_cons (dv (i := 4) ⟨rfl, (Or.inl rfl), rfl, rfl⟩) da_nil)) da_nil)) (by rfl)))))))))
  db_nil)
  (db_cons (ds_if (dt_tru (de_isi (T := .str) (by rfl) B.isinstance (by rfl) B.str rfl (dv (i := 1) ⟨rfl, (Or.inl rfl), rfl, rfl⟩)))
  (db_cons (ds_set (i := 3) nd ⟨rfl, (Or.inl rfl)⟩ (de_call c_law_draw hr (by decide) (by rfl) tko (da_cons (dv (i := 0) ⟨rfl, (Or.inl rfl), rfl, rfl⟩) (da_cons (de_addB (bi_len (by rfl) B.len (da_cons (dv (i := 1) ⟨rfl, (Or.inl rfl), rfl, rfl⟩) da_nil)) de_int) da_nil)) (by rfl)))
  (db_cons (ds_set (i := 5) nd ⟨rfl, (Or.inl rfl)⟩ de_str)
  (db_cons (ds_set (i := 6) nd ⟨rfl, (Or.inl rfl)⟩ (de_ix (dv (i := 5) ⟨rfl, (Or.inl rfl), rfl, rfl⟩) (de_call c_law_draw hr (by decide) (by rfl) tko (da_cons (dv (i := 0) ⟨rfl, (Or.inl rfl), rfl, rfl⟩) (da_cons de_int da_nil)) (by rfl))))
  (db_one (ds_ret (de_addB (de_addB (de_sl (dv (i := 1) ⟨rfl, (Or.inl rfl), rfl, rfl⟩) do_no (do_at (dv (i := 3) ⟨rfl, (Or.inl rfl), rfl, rfl⟩))) (de_ix (df_fz (df_lst (da_cons de_str (da_cons (dv (i := 6) ⟨rfl, (Or.inl rfl), rfl, rfl⟩) da_nil)))) (de_call c_law_draw hr (by decide) (by rfl) tko (da_cons (dv (i := 0) ⟨rfl, (Or.inl rfl), rfl, rfl⟩) (da_cons de_int da_nil)) (by rfl)))) (de_sl (dv (i := 1) ⟨rfl, (Or.inl rfl), rfl, rfl⟩) (do_at (de_addB (dv (i := 3) ⟨rfl, (Or.inl rfl), rfl, rfl⟩) (de_call c_law_draw hr (by decide) (by rfl) tko (da_cons (dv (i := 0) ⟨rfl, (Or.inl rfl), rfl, rfl⟩) (da_cons de_int da_nil)) (by rfl)))) do_no)))))))
  db_nil)
  (db_cons (ds_if (dt_tru (de_isi (T := .int) (by rfl) B.isinstance (by rfl) B.int rfl (dv (i := 1) ⟨rfl, (Or.inl rfl), rfl, rfl⟩)))
  (db_cons (ds_set (i := 4) nd ⟨rfl, (Or.inl rfl)⟩ (df_fz (df_lst (da_cons (de_addB (dv (i := 1) ⟨rfl, (Or.inl rfl), rfl, rfl⟩) de_int) (da_cons (de_subB (dv (i := 1) ⟨rfl, (Or.inl rfl), rfl, rfl⟩) de_int) (da_cons (de_subB de_int (dv (i := 1) ⟨rfl, (Or.inl rfl), rfl, rfl⟩)) (da_cons de_int (da_cons de_int (da_cons de_int (da_cons (de_neg de_int) (da_cons (bi_strB (by rfl) B.str (da_cons (dv (i := 1) ⟨rfl, (Or.inl rfl), rfl, rfl⟩) da_nil)) (da_cons (de_gtB (dv (i := 1) ⟨rfl, (Or.inl rfl), rfl, rfl⟩) de_int) (da_cons de_int da_nil)))))))))))))
  (db_one (ds_ret (de_ix (df_fz (df_cat (dv (i := 4) ⟨rfl, (Or.inl rfl), rfl, rfl⟩) (df_fz (df_lst (da_cons (de_mulB (dv (i := 1) ⟨rfl, (Or.inl rfl), rfl, rfl⟩) de_int) da_nil))))) (de_call c_law_draw hr (by decide) (by rfl) tko (da_cons (dv (i := 0) ⟨rfl, (Or.inl rfl), rfl, rfl⟩) (da_cons de_int da_nil)) (by rfl))))))
  db_nil)
  (db_one (ds_ret de_int)))))))
abbrev N_law_spoilt : List Str := ["_law_feed_here", "_law_thing", "_law_deep", "_law_path", "_law_here", "_law_found", "_law_at", "_law_k"]
theorem sc_law_spoilt : FnScope N_law_spoilt ["_law_feed_here", "_law_thing"] (defScope st_law_spoilt) := ⟨rfl, rfl, rfl, by decide +kernel, rfl, by decide +kernel, by decide +kernel⟩
theorem b_law_spoilt (B : Bt w K mg) (c_law_draw : DCal P w K mg base 1 "_law_draw" 2 s_law_draw) (c_law_other : DCal P w K mg base 2 "_law_other" 2 s_law_other) {f : Addr} : ∀ (cdv : Value) (A : Around) (outer : List Env) (s : Shared) (H : Hp) (E : XK), Room 2 (A.deeper (envOfC "_law_spoilt" (defScope st_law_spoilt) s.heap.objs.size f cdv)) →
    DB (cxOf (L2N.CX P w) P w K mg base N_law_spoilt "_law_spoilt" (defScope st_law_spoilt) f cdv A outer s H E) (WXo E) (defBody st_law_spoilt) (w_law_spoilt) := by
  intro cdv A outer s H E hr
  have nd : N_law_spoilt.Nodup := sc_law_spoilt.nd
  exact (db_cons (ds_set (i := 2) nd ⟨rfl, (Or.inl rfl)⟩ (de_call c_law_draw hr (by decide) (by rfl) tko (da_cons (dv (i := 0) ⟨rfl, (Or.inl rfl), rfl, rfl⟩) (da_cons de_int da_nil)) (by rfl)))
  (db_cons (ds_set (i := 3) nd ⟨rfl, (Or.inl rfl)⟩ (df_mu (df_lst da_nil)))
  (db_cons (ds_set (i := 4) nd ⟨rfl, (Or.inl rfl)⟩ (dv (i := 1) ⟨rfl, (Or.inl rfl), rfl, rfl⟩))
  (db_cons (ds_while pso (DW.dt (dw_and (dt_tru (de_isi (T := .tuple) (by rfl) B.isinstance (by rfl) B.tuple rfl (dv (i := 4) ⟨rfl, (Or.inl rfl), rfl, rfl⟩))) (dw_and (dt_neNil (room64 hr) (dv (i := 4) ⟨rfl, (Or.inl rfl), rfl, rfl⟩) (de_tup da_nil)) (dw_and1 (dt_lt (bi_len (by rfl) B.len (da_cons (dv (i := 3) ⟨rfl, (Or.inl rfl), rfl, rfl⟩) da_nil)) (dv (i := 2) ⟨rfl, (Or.inl rfl), rfl, rfl⟩))))))
  (db_cons (ds_expr (de_append (dv (i := 3) ⟨rfl, (Or.inl rfl), rfl, rfl⟩) (de_call c_law_draw hr (by decide) (by rfl) tko (da_cons (dv (i := 0) ⟨rfl, (Or.inl rfl), rfl, rfl⟩) (da_cons (bi_len (by rfl) B.len (da_cons (dv (i := 4) ⟨rfl, (Or.inl rfl), rfl, rfl⟩) da_nil)) da_nil)) (by rfl))))
  (db_one (ds_set (i := 4) nd ⟨rfl, (Or.inl rfl)⟩ (de_ix (dv (i := 4) ⟨rfl, (Or.inl rfl), rfl, rfl⟩) (de_ix (dv (i := 3) ⟨rfl, (Or.inl rfl), rfl, rfl⟩) (de_neg de_int)))))))
  (db_cons (ds_set (i := 5) nd ⟨rfl, (Or.inl rfl)⟩ (de_call c_law_other hr (by decide) (by rfl) tko (da_cons (dv (i := 0) ⟨rfl, (Or.inl rfl), rfl, rfl⟩) (da_cons (dv (i := 4) ⟨rfl, (Or.inl rfl), rfl, rfl⟩) da_nil)) (by rfl)))
  (db_cons (ds_while pso (dt_ne (room64 hr) (dv (i := 3) ⟨rfl, (Or.inl rfl), rfl, rfl⟩) (df_fz (df_lst da_nil)))
  (db_cons (ds_set (i := 6) nd ⟨rfl, (Or.inl rfl)⟩ (de_pop (dv (i := 3) ⟨rfl, (Or.inl rfl), rfl, rfl⟩)))
  (db_cons (ds_set (i := 4) nd ⟨rfl, (Or.inl rfl)⟩ (dv (i := 1) ⟨rfl, (Or.inl rfl), rfl, rfl⟩))
  (db_cons (ds_for pso rfl (di_sq (dv (i := 3) ⟨rfl, (Or.inl rfl), rfl, rfl⟩)) (dg_name nd (i := 7) rfl (Or.inl rfl))
  (db_one (ds_set (i := 4) nd ⟨rfl, (Or.inl rfl)⟩ (de_ix (dv (i := 4) ⟨rfl, (Or.inl rfl), rfl, rfl⟩) (dv (i := 7) ⟨rfl, (Or.inl rfl), rfl, rfl⟩)))))
  (db_one (ds_set (i := 5) nd ⟨rfl, (Or.inl rfl)⟩ (de_add (de_add (de_sl (dv (i := 4) ⟨rfl, (Or.inl rfl), rfl, rfl⟩) do_no (do_at (dv (i := 6) ⟨rfl, (Or.inl rfl), rfl, rfl⟩))) (de_tup (da_cons (dv (i := 5) ⟨rfl, (Or.inl rfl), rfl, rfl⟩) da_nil))) (de_sl (dv (i := 4) ⟨rfl, (Or.inl rfl), rfl, rfl⟩) (do_at (de_add (dv (i := 6) ⟨rfl, (Or.inl rfl), rfl, rfl⟩) de_int)) do_no))))))))
  (db_one (ds_ret (dv (i := 5) ⟨rfl, (Or.inl rfl), rfl, rfl⟩)))))))))
abbrev N_law_is_from : List Str := ["_law_thing", "_law_least", "_law_most"]
theorem sc_law_is_from : FnScope N_law_is_from ["_law_thing", "_law_least", "_law_most"] (defScope st_law_is_from) := ⟨rfl, rfl, rfl, by decide +kernel, rfl, by decide +kernel, by decide +kernel⟩
theorem b_law_is_from (B : Bt w K mg) {f : Addr} : ∀ (cdv : Value) (A : Around) (outer : List Env) (s : Shared) (H : Hp) (E : XK), Room 0 (A.deeper (envOfC "_law_is_from" (defScope st_law_is_from) s.heap.objs.size f cdv)) →
    DB (cxOf (L2N.CX P w) P w K mg base N_law_is_from "_law_is_from" (defScope st_law_is_from) f cdv A outer s H E) (WXo E) (defBody st_law_is_from) (w_law_is_from) := by
  intro cdv A outer s H E hr
  have nd : N_law_is_from.Nodup := sc_law_is_from.nd
  exact (db_one (ds_ret (de_and (de_isi (T := .int) (by rfl) B.isinstance (by rfl) B.int rfl (dv (i := 0) ⟨rfl, (Or.inl rfl), rfl, rfl⟩)) (de_and (de_not (de_isi (T := .bool) (by rfl) B.isinstance (by rfl) B.bool rfl (dv (i := 0) ⟨rfl, (Or.inl rfl), rfl, rfl⟩))) (de_one (de_chain o_le (ok_I k_b) o_le (ok_I k_b) (dv (i := 1) ⟨rfl, (Or.inl rfl), rfl, rfl⟩) (dv (i := 0) ⟨rfl, (Or.inl rfl), rfl, rfl⟩) (dv (i := 2) ⟨rfl, (Or.inl rfl), rfl, rfl⟩)))))))
abbrev N_law_is_name : List Str := ["_law_thing", "_law_sign"]
theorem sc_law_is_name : FnScope N_law_is_name ["_law_thing"] (defScope st_law_is_name) := ⟨rfl, rfl, rfl, by decide +kernel, rfl, by decide +kernel, by decide +kernel⟩
theorem b_law_is_name (B : Bt w K mg) {f : Addr} : ∀ (cdv : Value) (A : Around) (outer : List Env) (s : Shared) (H : Hp) (E : XK), Room 0 (A.deeper (envOfC "_law_is_name" (defScope st_law_is_name) s.heap.objs.size f cdv)) →
    DB (cxOf (L2N.CX P w) P w K mg base N_law_is_name "_law_is_name" (defScope st_law_is_name) f cdv A outer s H E) (WXo E) (defBody st_law_is_name) (w_law_is_name) := by
  intro cdv A outer s H E hr
  have nd : N_law_is_name.Nodup := sc_law_is_name.nd
  exact (db_cons (ds_if (DW.dt (dw_or (dt_not (dt_tru (de_isi (T := .str) (by rfl) B.isinstance (by rfl) B.str rfl (dv (i := 0) ⟨rfl, (Or.inl rfl), rfl, rfl⟩)))) (dw_or1 (dt_not (dt_chain o_lt (ok_I k_b) o_lt (ok_I k_b) de_int (bi_len (by rfl) B.len (da_cons (dv (i := 0) ⟨rfl, (Or.inl rfl), rfl, rfl⟩) da_nil)) de_int)))))
  (db_one (ds_ret de_bl))
  db_nil)
  (db_one (ds_ret (de_eqNil (room64 hr) (df_fz (df_lc rfl nd (di_str (dv (i := 0) ⟨rfl, (Or.inl rfl), rfl, rfl⟩)) (blkOk_by (own := [("_law_sign", 1)]) (by rfl)) (fun _ _ _ _ _ => (dg_name nd (i := 1) rfl (Or.inl rfl))) (fun _ _ _ _ _ => (dts_one (dt_notIn (dv (i := 1) ⟨rfl, (Or.inl rfl), rfl, rfl⟩) de_str))) (fun _ _ _ _ _ => (dv (i := 1) ⟨rfl, (Or.inl rfl), rfl, rfl⟩)) (by decide))) (df_fz (df_lst da_nil))))))
abbrev N_law_is_take : List Str := ["_law_thing", "_law_one"]
theorem sc_law_is_take : FnScope N_law_is_take ["_law_thing"] (defScope st_law_is_take) := ⟨rfl, rfl, rfl, by decide +kernel, rfl, by decide +kernel, by decide +kernel⟩
theorem b_law_is_take (B : Bt w K mg) (c_law_is_name : DCal P w K mg base 1 "_law_is_name" 1 s_law_is_name) (c_law_is_from : DCal P w K mg base 1 "_law_is_from" 3 s_law_is_from) {f : Addr} : ∀ (cdv : Value) (A : Around) (outer : List Env) (s : Shared) (H : Hp) (E : XK), Room 1 (A.deeper (envOfC "_law_is_take" (defScope st_law_is_take) s.heap.objs.size f cdv)) →
    DB (cxOf (L2N.CX P w) P w K mg base N_law_is_take "_law_is_take" (defScope st_law_is_take) f cdv A outer s H E) (WXo E) (defBody st_law_is_take) (w_law_is_take) := by
  intro cdv A outer s H E hr
  have nd : N_law_is_take.Nodup := sc_law_is_take.nd
  exact (db_cons (ds_if (DW.dt (dw_or (dt_not (dt_tru (de_isi (T := .tuple) (by rfl) B.isinstance (by rfl) B.tuple rfl (dv (i := 0) ⟨rfl, (Or.inl rfl), rfl, rfl⟩)))) (dw_or (dt_ne (room64 hr) (bi_len (by rfl) B.len (da_cons (dv (i := 0) ⟨rfl, (Or.inl rfl), rfl, rfl⟩) da_nil)) de_int) (dw_or (dt_not (dt_tru (de_call c_law_is_name hr (by decide) (by rfl) tko (da_cons (de_ix (dv (i := 0) ⟨rfl, (Or.inl rfl), rfl, rfl⟩) de_int) da_nil) (by rfl)))) (dw_or1 (dt_not (dt_tru (de_isi (T := .tuple) (by rfl) B.isinstance (by rfl) B.tuple rfl (de_ix (dv (i := 0) ⟨rfl, (Or.inl rfl), rfl, rfl⟩) de_int)))))))))
  (db_one (ds_ret de_bl))
  db_nil)
  (db_one (ds_ret (de_and (de_chain o_lt (ok_I k_b) o_lt (ok_I k_b) de_int (bi_len (by rfl) B.len (da_cons (de_ix (dv (i := 0) ⟨rfl, (Or.inl rfl), rfl, rfl⟩) de_int) da_nil)) de_int) (de_one (de_eqNil (room64 hr) (df_fz (df_lc rfl nd (di_sq (de_ix (dv (i := 0) ⟨rfl, (Or.inl rfl), rfl, rfl⟩) de_int)) (blkOk_by (own := [("_law_one", 1)]) (by rfl)) (fun _ _ _ _ _ => (dg_name nd (i := 1) rfl (Or.inl rfl))) (fun _ _ _ _ _ => (dts_one (dt_not (dt_tru (de_call c_law_is_from hr (by decide) (by rfl) takes0N (da_cons (dv (i := 1) ⟨rfl, (Or.inl rfl), rfl, rfl⟩) (da_cons (de_neg de_int) (da_cons de_int da_nil))) (by rfl)))))) (fun _ _ _ _ _ => (dv (i := 1) ⟨rfl, (Or.inl rfl), rfl, rfl⟩)) (by decide))) (df_fz (df_lst da_nil))))))))
abbrev N_law_is_fraction : List Str := ["_law_thing"]
theorem sc_law_is_fraction : FnScope N_law_is_fraction ["_law_thing"] (defScope st_law_is_fraction) := ⟨rfl, rfl, rfl, by decide +kernel, rfl, by decide +kernel, by decide +kernel⟩
theorem b_law_is_fraction (B : Bt w K mg) (c_law_is_from : DCal P w K mg base 1 "_law_is_from" 3 s_law_is_from) (c_law_low : DCal P w K mg base 1 "_law_low" 2 s_law_low) {f : Addr} : ∀ (cdv : Value) (A : Around) (outer : List Env) (s : Shared) (H : Hp) (E : XK), Room 1 (A.deeper (envOfC "_law_is_fraction" (defScope st_law_is_fraction) s.heap.objs.size f cdv)) →
    DB (cxOf (L2N.CX P w) P w K mg base N_law_is_fraction "_law_is_fraction" (defScope st_law_is_fraction) f cdv A outer s H E) (WXo E) (defBody st_law_is_fraction) (w_law_is_fraction) := by
  intro cdv A outer s H E hr
  have nd : N_law_is_fraction.Nodup := sc_law_is_fraction.nd
  exact (db_cons (ds_if (DW.dt (dw_or (dt_not (dt_tru (de_isi (T := .tuple) (by rfl) B.isinstance (by rfl) B.tuple rfl (dv (i := 0) ⟨rfl, (Or.inl rfl), rfl, rfl⟩)))) (dw_or (dt_ne (room64 hr) (bi_len (by rfl) B.len (da_cons (dv (i := 0) ⟨rfl, (Or.inl rfl), rfl, rfl⟩) da_nil)) de_int) (dw_or1 (dt_not (dt_tru (de_call c_law_is_from hr (by decide) (by rfl) tko (da_cons (de_ix (dv (i := 0) ⟨rfl, (Or.inl rfl), rfl, rfl⟩) de_int) (da_cons de_int (da_cons (de_pow de_int de_int) da_nil))) (by rfl))))))))
  (db_one (ds_ret de_bl))
  db_nil)
  (db_one (ds_ret (de_and (de_call c_law_is_from hr (by decide) (by rfl) tko (da_cons (de_ix (dv (i := 0) ⟨rfl, (Or.inl rfl), rfl, rfl⟩) de_int) (da_cons de_int (da_cons (de_pow de_int de_int) da_nil))) (by rfl)) (de_one (de_eq (room64 hr) (de_call c_law_low hr (by decide) (by rfl) tko (da_cons (de_ix (dv (i := 0) ⟨rfl, (Or.inl rfl), rfl, rfl⟩) de_int) (da_cons (de_ix (dv (i := 0) ⟨rfl, (Or.inl rfl), rfl, rfl⟩) de_int) da_nil)) (by rfl)) (dv (i := 0) ⟨rfl, (Or.inl rfl), rfl, rfl⟩)))))))
abbrev N_law_is_shape : List Str := ["_law_thing", "_law_one", "_law_other_here", "_law_k"]
theorem sc_law_is_shape : FnScope N_law_is_shape ["_law_thing"] (defScope st_law_is_shape) := ⟨rfl, rfl, rfl, by decide +kernel, rfl, by decide +kernel, by decide +kernel⟩
theorem b_law_is_shape (B : Bt w K mg) (c_law_is_fraction : DCal P w K mg base 2 "_law_is_fraction" 1 s_law_is_fraction) (c_law_is_straight : DCal P w K mg base 3 "_law_is_straight" 3 s_law_is_straight) {f : Addr} : ∀ (cdv : Value) (A : Around) (outer : List Env) (s : Shared) (H : Hp) (E : XK), Room 3 (A.deeper (envOfC "_law_is_shape" (defScope st_law_is_shape) s.heap.objs.size f cdv)) →
    DB (cxOf (L2N.CX P w) P w K mg base N_law_is_shape "_law_is_shape" (defScope st_law_is_shape) f cdv A outer s H E) (WXo E) (defBody st_law_is_shape) (w_law_is_shape) := by
  intro cdv A outer s H E hr
  have nd : N_law_is_shape.Nodup := sc_law_is_shape.nd
  exact (db_cons (ds_if (DW.dt (dw_or (dt_not (dt_tru (de_isi (T := .tuple) (by rfl) B.isinstance (by rfl) B.tuple rfl (dv (i := 0) ⟨rfl, (Or.inr (Or.inl rfl)), rfl, rfl⟩)))) (dw_or1 (dt_not (dt_chain o_lt (ok_I k_b) o_lt (ok_I k_b) de_int (bi_len (by rfl) B.len (da_cons (dv (i := 0) ⟨rfl, (Or.inr (Or.inl rfl)), rfl, rfl⟩) da_nil)) de_int)))))
  (db_one (ds_ret de_bl))
  db_nil)
  (db_cons (ds_for pso rfl (di_sq (dv (i := 0) ⟨rfl, (Or.inr (Or.inl rfl)), rfl, rfl⟩)) (dg_name nd (i := 1) rfl (Or.inl rfl))
  (db_one (ds_if (DW.dt (dw_or (dt_not (dt_tru (de_isi (T := .tuple) (by rfl) B.isinstance (by rfl) B.tuple rfl (dv (i := 1) ⟨rfl, (Or.inl rfl), rfl, rfl⟩)))) (dw_or (dt_ne (room64 hr) (bi_len (by rfl) B.len (da_cons (dv (i := 1) ⟨rfl, (Or.inl rfl), rfl, rfl⟩) da_nil)) de_int) (dw_or (dt_not (dt_tru (de_call c_law_is_fraction hr (by decide) (by rfl) tko (da_cons (de_ix (dv (i := 1) ⟨rfl, (Or.inl rfl), rfl, rfl⟩) de_int) da_nil) (by rfl)))) (dw_or1 (dt_not (dt_tru (de_call c_law_is_fraction hr (by decide) (by rfl) tko (da_cons (de_ix (dv (i := 1) ⟨rfl, (Or.inl rfl), rfl, rfl⟩) de_int) da_nil) (by rfl)))))))))
  (db_one (ds_ret de_bl))
  db_nil)))
  (db_cons (ds_for pso rfl (di_zip (by rfl) B.zip (da_cons (dv (i := 0) ⟨rfl, (Or.inr (Or.inl rfl)), rfl, rfl⟩) (da_cons (de_sl (dv (i := 0) ⟨rfl, (Or.inr (Or.inl rfl)), rfl, rfl⟩) (do_at de_int) do_no) da_nil))) (dg_tup rfl (dgs_cons (dg_name nd (i := 1) rfl (Or.inl rfl)) (dgs_cons (dg_name nd (i := 2) rfl (Or.inl rfl)) dgs_nil)))
  (db_one (ds_if (dt_ge (de_mul (de_ix (de_ix (dv (i := 1) ⟨rfl, (Or.inl rfl), rfl, rfl⟩) de_int) de_int) (de_ix (de_ix (dv (i := 2) ⟨rfl, (Or.inl rfl), rfl, rfl⟩) de_int) de_int)) (de_mul (de_ix (de_ix (dv (i := 2) ⟨rfl, (Or.inl rfl), rfl, rfl⟩) de_int) de_int) (de_ix (de_ix (dv (i := 1) ⟨rfl, (Or.inl rfl), rfl, rfl⟩) de_int) de_int)))
  (db_one (ds_ret de_bl))
  db_nil)))
  (db_one (ds_ret (de_eqNil (room64 hr) (df_fz (df_lc rfl nd (by exact (di_range2 (by rfl) B.range (da_cons de_int (da_cons (bi_len (by rfl) B.len (da_cons (dv (i := 0) ⟨rfl, (Or.inr (Or.inl rfl)), rfl, rfl⟩) da_nil)) da_nil)))) (blkOk_by (own := [("_law_k", 3)]) (by rfl)) (fun _ _ _ _ _ => (dg_name nd (i := 3) rfl (Or.inl rfl))) (fun _ _ _ _ _ => (dts_one (dt_tru (de_call c_law_is_straight hr (by decide) (by rfl) takes0N (da_cons (de_ix (dv (i := 0) ⟨rfl, (Or.inr (Or.inl rfl)), rfl, rfl⟩) (de_sub (dv (i := 3) ⟨rfl, (Or.inl rfl), rfl, rfl⟩) de_int)) (da_cons (de_ix (dv (i := 0) ⟨rfl, (Or.inr (Or.inl rfl)), rfl, rfl⟩) (de_sub (dv (i := 3) ⟨rfl, (Or.inl rfl), rfl, rfl⟩) de_int)) (da_cons (de_ix (dv (i := 0) ⟨rfl, (Or.inr (Or.inl rfl)), rfl, rfl⟩) (dv (i := 3) ⟨rfl, (Or.inl rfl), rfl, rfl⟩)) da_nil))) (by rfl))))) (fun _ _ _ _ _ => (dv (i := 3) ⟨rfl, (Or.inl rfl), rfl, rfl⟩)) (by decide))) (df_fz (df_lst da_nil))))))))
abbrev N_law_is_piece : List Str := ["_law_thing", "_law_n", "_law_take_here", "_law_at", "_law_many", "_law_way", "_law_start", "_law_speed", "_law_shape_here"]
theorem sc_law_is_piece : FnScope N_law_is_piece ["_law_thing"] (defScope st_law_is_piece) := ⟨rfl, rfl, rfl, by decide +kernel, rfl, by decide +kernel, by decide +kernel⟩
theorem b_law_is_piece (B : Bt w K mg) (c_law_is_from : DCal P w K mg base 1 "_law_is_from" 3 s_law_is_from) (c_law_is_name : DCal P w K mg base 1 "_law_is_name" 1 s_law_is_name) (c_law_is_fraction : DCal P w K mg base 2 "_law_is_fraction" 1 s_law_is_fraction) (c_law_is_shape : DCal P w K mg base 4 "_law_is_shape" 1 s_law_is_shape) {f : Addr} : ∀ (cdv : Value) (A : Around) (outer : List Env) (s : Shared) (H : Hp) (E : XK), Room 4 (A.deeper (envOfC "_law_is_piece" (defScope st_law_is_piece) s.heap.objs.size f cdv)) →
    DB (cxOf (L2N.CX P w) P w K mg base N_law_is_piece "_law_is_piece" (defScope st_law_is_piece) f cdv A outer s H E) (WXo E) (defBody st_law_is_piece) (w_law_is_piece) := by
  intro cdv A outer s H E hr
  have nd : N_law_is_piece.Nodup := sc_law_is_piece.nd
  exact (db_cons (ds_if (DW.dt (dw_or (dt_not (dt_tru (de_isi (T := .tuple) (by rfl) B.isinstance (by rfl) B.tuple rfl (dv (i := 0) ⟨rfl, (Or.inl rfl), rfl, rfl⟩)))) (dw_or1 (dt_ne (room64 hr) (bi_len (by rfl) B.len (da_cons (dv (i := 0) ⟨rfl, (Or.inl rfl), rfl, rfl⟩) da_nil)) de_int))))
  (db_one (ds_ret de_bl))
  db_nil)
  (db_cons (ds_asg (dv (i := 0) ⟨rfl, (Or.inl rfl), rfl, rfl⟩) (dg_tup rfl (dgs_cons (dg_name nd (i := 1) rfl (Or.inl rfl)) (dgs_cons (dg_name nd (i := 2) rfl (Or.inl rfl)) (dgs_cons (dg_name nd (i := 3) rfl (Or.inl rfl)) (dgs_cons (dg_name nd (i := 4) rfl (Or.inl rfl)) (dgs_cons (dg_name nd (i := 5) rfl (Or.inl rfl)) (dgs_cons (dg_name nd (i := 6) rfl (Or.inl rfl)) (dgs_cons (dg_name nd (i := 7) rfl (Or.inl rfl)) (dgs_cons (dg_name nd (i := 8) rfl (Or.inl rfl)) dgs_nil))))))))))
  (db_cons (ds_if (DW.dt (dw_or (dt_not (dt_tru (de_call c_law_is_from hr (by decide) (by rfl) tko (da_cons (dv (i := 1) ⟨rfl, (Or.inl rfl), rfl, rfl⟩) (da_cons de_int (da_cons de_int da_nil))) (by rfl)))) (dw_or (dt_not (dt_tru (de_call c_law_is_name hr (by decide) (by rfl) tko (da_cons (dv (i := 2) ⟨rfl, (Or.inl rfl), rfl, rfl⟩) da_nil) (by rfl)))) (dw_or1 (dt_not (dt_tru (de_call c_law_is_from hr (by decide) (by rfl) tko (da_cons (dv (i := 3) ⟨rfl, (Or.inl rfl), rfl, rfl⟩) (da_cons de_int (da_cons de_int da_nil))) (by rfl))))))))
  (db_one (ds_ret de_bl))
  db_nil)
  (db_cons (ds_if (DW.dt (dw_or (dt_not (dt_tru (de_call c_law_is_from hr (by decide) (by rfl) tko (da_cons (dv (i := 4) ⟨rfl, (Or.inl rfl), rfl, rfl⟩) (da_cons de_int (da_cons (de_sub de_int (dv (i := 3) ⟨rfl, (Or.inl rfl), rfl, rfl⟩)) da_nil))) (by rfl)))) (dw_or (dt_not (dt_tru (de_isi (T := .str) (by rfl) B.isinstance (by rfl) B.str rfl (dv (i := 5) ⟨rfl, (Or.inl rfl), rfl, rfl⟩)))) (dw_or1 (dt_notIn (dv (i := 5) ⟨rfl, (Or.inl rfl), rfl, rfl⟩) (df_fz (df_lst (da_cons de_str (da_cons de_str da_nil)))))))))
  (db_one (ds_ret de_bl))
  db_nil)
  (db_cons (ds_if (DW.dt (dw_or (dt_not (dt_tru (de_call c_law_is_fraction hr (by decide) (by rfl) tko (da_cons (dv (i := 6) ⟨rfl, (Or.inl rfl), rfl, rfl⟩) da_nil) (by rfl)))) (dw_or (dt_not (dt_tru (de_call c_law_is_fraction hr (by decide) (by rfl) tko (da_cons (dv (i := 7) ⟨rfl, (Or.inl rfl), rfl, rfl⟩) da_nil) (by rfl)))) (dw_or (dt_eq (room64 hr) (de_ix (dv (i := 7) ⟨rfl, (Or.inl rfl), rfl, rfl⟩) de_int) de_int) (dw_or1 (dt_not (dt_tru (de_call c_law_is_shape hr (by decide) (by rfl) tko (da_cons (dv (i := 8) ⟨rfl, (Or.inl rfl), rfl, rfl⟩) da_nil) (by rfl)))))))))
  (db_one (ds_ret de_bl))
  db_nil)
  (db_one (ds_ret (de_and (de_eq (room64 hr) (de_ix (de_ix (dv (i := 8) ⟨rfl, (Or.inl rfl), rfl, rfl⟩) de_int) de_int) (de_tup (da_cons de_int (da_cons de_int da_nil)))) (de_one (de_eq (room64 hr) (de_ix (de_ix (dv (i := 8) ⟨rfl, (Or.inl rfl), rfl, rfl⟩) (de_neg de_int)) de_int) (de_tup (da_cons (dv (i := 4) ⟨rfl, (Or.inl rfl), rfl, rfl⟩) (da_cons de_int da_nil)))))))))))))
abbrev N_law_right : List Str := ["_law_thing", "_law_kept", "_law_due", "_law_again", "_law_found", "_law_one"]
theorem sc_law_right : FnScope N_law_right ["_law_thing"] (defScope st_law_right) := ⟨rfl, rfl, rfl, by decide +kernel, rfl, by decide +kernel, by decide +kernel⟩
theorem b_law_right (B : Bt w K mg) (c_law_is_take : DCal P w K mg base 2 "_law_is_take" 1 s_law_is_take) (c_law_is_shape : DCal P w K mg base 4 "_law_is_shape" 1 s_law_is_shape) (c_law_is_piece : DCal P w K mg base 5 "_law_is_piece" 1 s_law_is_piece) (c_is_take : DCal P w K mg base 4 "is_take" 1 s_is_take) (c_is_shape : DCal P w K mg base 5 "is_shape" 1 s_is_shape) (c_is_piece : DCal P w K mg base 6 "is_piece" 1 s_is_piece) {f : Addr} : ∀ (cdv : Value) (A : Around) (outer : List Env) (s : Shared) (H : Hp) (E : XK), Room 6 (A.deeper (envOfC "_law_right" (defScope st_law_right) s.heap.objs.size f cdv)) → NoGd (A.deeper (envOfC "_law_right" (defScope st_law_right) s.heap.objs.size f cdv)) →
    DB (cxOf (L2N.CX P w) P w K mg base N_law_right "_law_right" (defScope st_law_right) f cdv A outer s H E) (WXo E) (defBody st_law_right) (w_law_right) := by
  intro cdv A outer s H E hr hgd
  have nd : N_law_right.Nodup := sc_law_right.nd
  exact (db_cons (ds_set (i := 1) nd ⟨rfl, (Or.inl rfl)⟩ (bi_repr B.sm hgd (room64 hr) (by rfl) B.repr (da_cons (dv (i := 0) ⟨rfl, (Or.inl rfl), rfl, rfl⟩) da_nil)))
  (db_cons (ds_set (i := 2) nd ⟨rfl, (Or.inl rfl)⟩ (df_fz (df_lst (da_cons (de_call c_law_is_take hr (by decide) (by rfl) tko (da_cons (dv (i := 0) ⟨rfl, (Or.inl rfl), rfl, rfl⟩) da_nil) (by rfl)) (da_cons (de_call c_law_is_shape hr (by decide) (by rfl) tko (da_cons (dv (i := 0) ⟨rfl, (Or.inl rfl), rfl, rfl⟩) da_nil) (by rfl)) (da_cons (de_call c_law_is_piece hr (by decide) (by rfl) tko (da_cons (dv (i := 0) ⟨rfl, (Or.inl rfl), rfl, rfl⟩) da_nil) (by rfl)) da_nil))))))
  (db_cons (ds_for pso rfl (by exact (di_range1 (by rfl) B.range (da_cons de_int da_nil))) (dg_name nd (i := 3) rfl (Or.inl rfl))
  (db_cons (ds_set (i := 4) nd ⟨rfl, (Or.inl rfl)⟩ (df_fz (df_lst (da_cons (de_call c_is_take hr (by decide) (by rfl) tko (da_cons (dv (i := 0) ⟨rfl, (Or.inl rfl), rfl, rfl⟩) da_nil) (by rfl)) (da_cons (de_call c_is_shape hr (by decide) (by rfl) tko (da_cons (dv (i := 0) ⟨rfl, (Or.inl rfl), rfl, rfl⟩) da_nil) (by rfl)) (da_cons (de_call c_is_piece hr (by decide) (by rfl) tko (da_cons (dv (i := 0) ⟨rfl, (Or.inl rfl), rfl, rfl⟩) da_nil) (by rfl)) da_nil))))))
  (db_one (ds_if (DW.dt (dw_or (dt_neNil (room64 hr) (df_fz (df_lc rfl nd (di_sq (dv (i := 4) ⟨rfl, (Or.inl rfl), rfl, rfl⟩)) (blkOk_by (own := [("_law_one", 5)]) (by rfl)) (fun _ _ _ _ _ => (dg_name nd (i := 5) rfl (Or.inl rfl))) (fun _ _ _ _ _ => (dts_one (dt_not (dt_tru (de_isi (T := .bool) (by rfl) B.isinstance (by rfl) B.bool rfl (dv (i := 5) ⟨rfl, (Or.inl rfl), rfl, rfl⟩)))))) (fun _ _ _ _ _ => (dv (i := 5) ⟨rfl, (Or.inl rfl), rfl, rfl⟩)) (by decide))) (df_fz (df_lst da_nil))) (dw_or (dt_ne (room64 hr) (dv (i := 4) ⟨rfl, (Or.inl rfl), rfl, rfl⟩) (dv (i := 2) ⟨rfl, (Or.inl rfl), rfl, rfl⟩)) (dw_or1 (dt_ne (room64 hr) (bi_repr B.sm hgd (room64 hr) (by rfl) B.repr (da_cons (dv (i := 0) ⟨rfl, (Or.inl rfl), rfl, rfl⟩) da_nil)) (dv (i := 1) ⟨rfl, (Or.inl rfl), rfl, rfl⟩))))))
  (db_one (ds_ret de_bl))
  db_nil))))
  (db_one (ds_ret de_bl)))))
abbrev N_law : List Str := ["_law_script", "_law_feed_here", "_law_bout", "_law_piece_here", "_law_some", "_law_good", "_law_turn", "_law_thing", "_law_zigzag", "_law_things", "_law_size", "_law_k", "_law_bent"]
theorem sc_law : FnScope N_law ["_law_script"] (defScope st_law) := ⟨rfl, rfl, rfl, by decide +kernel, rfl, by decide +kernel, by decide +kernel⟩
theorem b_law (B : Bt w K mg) (c_law_feed : DCal P w K mg base 1 "_law_feed" 1 s_law_feed) (c_law_piece : DCal P w K mg base 5 "_law_piece" 1 s_law_piece) (c_law_draw : DCal P w K mg base 1 "_law_draw" 2 s_law_draw) (c_law_take : DCal P w K mg base 3 "_law_take" 1 s_law_take) (c_law_right : DCalG P w K mg base 7 "_law_right" 1 s_law_right) (c_is_take : DCal P w K mg base 4 "is_take" 1 s_is_take) (c_is_shape : DCal P w K mg base 5 "is_shape" 1 s_is_shape) (c_is_piece : DCal P w K mg base 6 "is_piece" 1 s_is_piece) (c_law_spoilt : DCal P w K mg base 3 "_law_spoilt" 2 s_law_spoilt) {f : Addr} : ∀ (cdv : Value) (A : Around) (outer : List Env) (s : Shared) (H : Hp) (E : XK), Room 7 (A.deeper (envOfC "law" (defScope st_law) s.heap.objs.size f cdv)) → NoGd (A.deeper (envOfC "law" (defScope st_law) s.heap.objs.size f cdv)) →
    DB (cxOf (L2N.CX P w) P w K mg base N_law "law" (defScope st_law) f cdv A outer s H E) (WXo E) (defBody st_law) (w_law) := by
  intro cdv A outer s H E hr hgd
  have nd : N_law.Nodup := sc_law.nd
  exact (db_cons (ds_set (i := 1) nd ⟨rfl, (Or.inl rfl)⟩ (de_call c_law_feed hr (by decide) (by rfl) tko (da_cons (dv (i := 0) ⟨rfl, (Or.inl rfl), rfl, rfl⟩) da_nil) (by rfl)))
  (db_cons (ds_for pso rfl (by exact (di_range1 (by rfl) B.range (da_cons de_int da_nil))) (dg_name nd (i := 2) rfl (Or.inl rfl))
  (db_cons (ds_set (i := 3) nd ⟨rfl, (Or.inl rfl)⟩ (de_call c_law_piece hr (by decide) (by rfl) tko (da_cons (dv (i := 1) ⟨rfl, (Or.inl rfl), rfl, rfl⟩) da_nil) (by rfl)))
  (db_cons (ds_set (i := 4) nd ⟨rfl, (Or.inl rfl)⟩ (df_fz (df_lst (da_cons (de_call c_law_take hr (by decide) (by rfl) tko (da_cons (dv (i := 1) ⟨rfl, (Or.inl rfl), rfl, rfl⟩) da_nil) (by rfl)) (da_cons (de_ix (dv (i := 3) ⟨rfl, (Or.inl rfl), rfl, rfl⟩) de_int) (da_cons (dv (i := 3) ⟨rfl, (Or.inl rfl), rfl, rfl⟩) da_nil))))))
  (db_cons (ds_if (dt_ne (room64 hr) (df_fz (df_lst (da_cons (de_call c_is_take hr (by decide) (by rfl) tko (da_cons (de_ix (dv (i := 4) ⟨rfl, (Or.inl rfl), rfl, rfl⟩) de_int) da_nil) (by rfl)) (da_cons (de_call c_is_shape hr (by decide) (by rfl) tko (da_cons (de_ix (dv (i := 4) ⟨rfl, (Or.inl rfl), rfl, rfl⟩) de_int) da_nil) (by rfl)) (da_cons (de_call c_is_piece hr (by decide) (by rfl) tko (da_cons (de_ix (dv (i := 4) ⟨rfl, (Or.inl rfl), rfl, rfl⟩) de_int) da_nil) (by rfl)) da_nil))))) (df_fz (df_lst (da_cons de_bl (da_cons de_bl (da_cons de_bl da_nil))))))
  (db_one (ds_ret de_bl))
  db_nil)
  (db_one (ds_for pso rfl (di_sq (dv (i := 4) ⟨rfl, (Or.inl rfl), rfl, rfl⟩)) (dg_name nd (i := 5) rfl (Or.inl rfl))
  (db_one (ds_for pso rfl (by exact (di_range1 (by rfl) B.range (da_cons de_int da_nil))) (dg_name nd (i := 6) rfl (Or.inl rfl))
  (db_cons (ds_set (i := 7) nd ⟨rfl, (Or.inl rfl)⟩ (de_call c_law_spoilt hr (by decide) (by rfl) tko (da_cons (dv (i := 1) ⟨rfl, (Or.inl rfl), rfl, rfl⟩) (da_cons (dv (i := 5) ⟨rfl, (Or.inl rfl), rfl, rfl⟩) da_nil)) (by rfl)))
  (db_cons (ds_if (dt_eq (room64 hr) (de_call c_law_draw hr (by decide) (by rfl) tko (da_cons (dv (i := 1) ⟨rfl, (Or.inl rfl), rfl, rfl⟩) (da_cons de_int da_nil)) (by rfl)) de_int)
  (db_one (ds_set (i := 7) nd ⟨rfl, (Or.inl rfl)⟩ (de_call c_law_spoilt hr (by decide) (by rfl) tko (da_cons (dv (i := 1) ⟨rfl, (Or.inl rfl), rfl, rfl⟩) (da_cons (dv (i := 7) ⟨rfl, (Or.inl rfl), rfl, rfl⟩) da_nil)) (by rfl))))
  db_nil)
  (db_one (ds_if (DW.dt (dw_or (dt_not (dt_tru (de_callG c_law_right hr (by decide) hgd (by rfl) tko (da_cons (dv (i := 7) ⟨rfl, (Or.inl rfl), rfl, rfl⟩) da_nil) (by rfl)))) (dw_or1 (dt_not (dt_tru (de_callG c_law_right hr (by decide) hgd (by rfl) tko (da_cons (dv (i := 5) ⟨rfl, (Or.inl rfl), rfl, rfl⟩) da_nil) (by rfl)))))))
  (db_one (ds_ret de_bl))
  db_nil))))))))))))
  (db_cons (ds_set (i := 8) nd ⟨rfl, (Or.inl rfl)⟩ (bi_tuple (by rfl) B.tuple (da_cons (df_fz (df_lc rfl nd (by exact (di_range1 (by rfl) B.range (da_cons de_int da_nil))) (blkOk_by (own := [("_law_k", 11)]) (by rfl)) (fun _ _ _ _ _ => (dg_name nd (i := 11) rfl (Or.inl rfl))) (fun _ _ _ _ _ => dts_nil) (fun _ _ _ _ _ => (de_tup (da_cons (de_tup (da_cons (dv (i := 11) ⟨rfl, (Or.inl rfl), rfl, rfl⟩) (da_cons de_int da_nil))) (da_cons (de_tup (da_cons (de_add de_int (de_mod (dv (i := 11) ⟨rfl, (Or.inl rfl), rfl, rfl⟩) de_int)) (da_cons de_int da_nil))) da_nil)))) (by decide))) da_nil)))
  (db_cons (ds_set (i := 9) nd ⟨rfl, (Or.inl rfl)⟩ (df_mu (df_lst (da_cons (dv (i := 8) ⟨rfl, (Or.inl rfl), rfl, rfl⟩) (da_cons (de_sl (dv (i := 8) ⟨rfl, (Or.inl rfl), rfl, rfl⟩) do_no (do_at de_int)) (da_cons (de_tup (da_cons de_int (da_cons de_str (da_cons de_int (da_cons de_int (da_cons de_str (da_cons (de_tup (da_cons de_int (da_cons de_int da_nil))) (da_cons (de_tup (da_cons de_int (da_cons de_int da_nil))) (da_cons (dv (i := 8) ⟨rfl, (Or.inl rfl), rfl, rfl⟩) da_nil))))))))) da_nil))))))
  (db_cons (ds_expr (de_append (dv (i := 9) ⟨rfl, (Or.inl rfl), rfl, rfl⟩) (de_tup (da_cons de_int (da_cons de_str (da_cons de_int (da_cons de_int (da_cons de_str (da_cons (de_tup (da_cons de_int (da_cons de_int da_nil))) (da_cons (de_tup (da_cons de_int (da_cons de_int da_nil))) (da_cons (de_sl (dv (i := 8) ⟨rfl, (Or.inl rfl), rfl, rfl⟩) do_no (do_at de_int)) da_nil)))))))))))
  (db_cons (ds_for pso rfl (by exact (di_range2 (by rfl) B.range (da_cons de_int (da_cons de_int da_nil)))) (dg_name nd (i := 10) rfl (Or.inl rfl))
  (db_cons (ds_set (i := 11) nd ⟨rfl, (Or.inl rfl)⟩ (de_call c_law_draw hr (by decide) (by rfl) tko (da_cons (dv (i := 1) ⟨rfl, (Or.inl rfl), rfl, rfl⟩) (da_cons (de_sub (dv (i := 10) ⟨rfl, (Or.inl rfl), rfl, rfl⟩) de_int) da_nil)) (by rfl)))
  (db_cons (ds_set (i := 12) nd ⟨rfl, (Or.inl rfl)⟩ (de_add (de_add (de_sl (dv (i := 8) ⟨rfl, (Or.inl rfl), rfl, rfl⟩) do_no (do_at (de_add (dv (i := 11) ⟨rfl, (Or.inl rfl), rfl, rfl⟩) de_int))) (de_tup (da_cons (de_tup (da_cons (de_tup (da_cons (de_add (de_mul de_int (dv (i := 11) ⟨rfl, (Or.inl rfl), rfl, rfl⟩)) de_int) (da_cons de_int da_nil))) (da_cons (de_tup (da_cons de_int (da_cons de_int da_nil))) da_nil))) da_nil))) (de_sl (dv (i := 8) ⟨rfl, (Or.inl rfl), rfl, rfl⟩) (do_at (de_add (dv (i := 11) ⟨rfl, (Or.inl rfl), rfl, rfl⟩) de_int)) (do_at (dv (i := 10) ⟨rfl, (Or.inl rfl), rfl, rfl⟩)))))
  (db_one (ds_set (i := 9) nd ⟨rfl, (Or.inl rfl)⟩ (df_mu (df_cat (dv (i := 9) ⟨rfl, (Or.inl rfl), rfl, rfl⟩) (df_fz (df_lst (da_cons (dv (i := 12) ⟨rfl, (Or.inl rfl), rfl, rfl⟩) (da_cons (de_tup (da_cons de_int (da_cons de_str (da_cons de_int (da_cons (de_sub (dv (i := 10) ⟨rfl, (Or.inl rfl), rfl, rfl⟩) de_int) (da_cons de_str (da_cons (de_tup (da_cons de_int (da_cons de_int da_nil))) (da_cons (de_tup (da_cons de_int (da_cons de_int da_nil))) (da_cons (dv (i := 12) ⟨rfl, (Or.inl rfl), rfl, rfl⟩) da_nil))))))))) da_nil)))))))))))
  (db_cons (ds_set (i := 9) nd ⟨rfl, (Or.inl rfl)⟩ (df_mu (df_cat (dv (i := 9) ⟨rfl, (Or.inl rfl), rfl, rfl⟩) (df_fz (df_lst (da_cons de_non (da_cons de_int (da_cons de_str (da_cons (de_tup da_nil) (da_cons (df_fz (df_lst da_nil)) (da_cons de_dict0 (da_cons de_bl (da_cons de_str (da_cons (de_tup (da_cons (de_tup (da_cons de_int (da_cons de_int da_nil))) (da_cons (de_tup (da_cons de_int (da_cons de_int da_nil))) da_nil))) da_nil))))))))))))))
  (db_cons (ds_for pso rfl (di_sq (df_fz (df_cat (dv (i := 9) ⟨rfl, (Or.inl rfl), rfl, rfl⟩) (df_fz (df_lst (da_cons (de_tup (da_cons (de_tup (da_cons (de_tup (da_cons de_int (da_cons de_int da_nil))) (da_cons (de_tup (da_cons de_int (da_cons de_int da_nil))) da_nil))) (da_cons (de_tup (da_cons (de_tup (da_cons de_int (da_cons de_int da_nil))) (da_cons (de_tup (da_cons de_int (da_cons de_int da_nil))) da_nil))) da_nil))) da_nil)))))) (dg_name nd (i := 7) rfl (Or.inl rfl))
  (db_one (ds_if (dt_not (dt_tru (de_callG c_law_right hr (by decide) hgd (by rfl) tko (da_cons (dv (i := 7) ⟨rfl, (Or.inl rfl), rfl, rfl⟩) da_nil) (by rfl))))
  (db_one (ds_ret de_bl))
  db_nil)))
  (db_one (ds_ret de_bl))))))))))
end
theorem facts {P : Program} {w : World} {K : PySem.W.Frag} {h : Heap} {mg : Str → Option Value} {f : Addr} (KX : K.In h) (G : h.Ns mainGlobals mg) (hfa : mg ("law" : Str) = some (.ref f)) (c : He.SaysD fa fn K) (hx : okX K = true) (tb : ∀ (i : Nat) (t : He.Tab), tabs[i]? = some t → ∃ es n, KDict K w (t.1 K) es n) :
    ∃ fd : FuncData, (∀ (s : Shared) (v : Value), BindsTo s fd ⟨[v], []⟩ [("_law_script", v)]) ∧ ∀ base : Heap, K.In base → base.Ns mainGlobals mg → TabF K mg base → FnG P w K mg base (L2N.CX P w) 8 f fd ["_law_script"] (spD K 1 s_law) := by
  have B : Bt w K mg := ⟨He.free_ok KX G (c.fact 0 (f := .free "abs") rfl), He.free_ok KX G (c.fact 1 (f := .free "all") rfl), He.free_ok KX G (c.fact 2 (f := .free "any") rfl), He.free_ok KX G (c.fact 3 (f := .free "bool") rfl), He.free_ok KX G (c.fact 4 (f := .free "int") rfl), He.free_ok KX G (c.fact 5 (f := .free "isinstance") rfl), He.free_ok KX G (c.fact 6 (f := .free "len") rfl), He.free_ok KX G (c.fact 7 (f := .free "list") rfl), He.free_ok KX G (c.fact 8 (f := .free "min") rfl), He.free_ok KX G (c.fact 9 (f := .free "range") rfl), He.free_ok KX G (c.fact 10 (f := .free "repr") rfl), He.free_ok KX G (c.fact 11 (f := .free "str") rfl), He.free_ok KX G (c.fact 12 (f := .free "sum") rfl), He.free_ok KX G (c.fact 13 (f := .free "tuple") rfl), He.free_ok KX G (c.fact 14 (f := .free "zip") rfl), (fun z => glD_str (He.str_ok KX G z)) (c.fact 15 (f := .str "LETTERS" "abcdefghijklmnopqrstuvwxyz") rfl), (fun z => glD_int (He.int_ok KX G z)) (c.fact 16 (f := .int "LONGEST_NAME" 8) rfl), (fun z => glD_int (He.int_ok KX G z)) (c.fact 17 (f := .int "MOST_TONES" 200) rfl), (fun z => glD_int (He.int_ok KX G z)) (c.fact 18 (f := .int "LOUDEST_TONE" 100000) rfl), (fun z => glD_int (He.int_ok KX G z)) (c.fact 19 (f := .int "MOST_CORNERS" 12) rfl), (fun z => glD_int (He.int_ok KX G z)) (c.fact 20 (f := .int "MOST_NUMBER" 99999) rfl), (fun z => glD_int (He.int_ok KX G z)) (c.fact 21 (f := .int "LAST_STEP" 100000) rfl), (fun z => glD_int (He.int_ok KX G z)) (c.fact 22 (f := .int "PIECE_PARTS" 8) rfl), (He.ba hx).1, (He.ba (He.ba hx).2).1, (He.ba (He.ba (He.ba hx).2).2).1, tupIs_ok KX G (tupsOk_at (He.ba (He.ba (He.ba (He.ba hx).2).2).2).1 0 rfl), tupIs_ok KX G (tupsOk_at (He.ba (He.ba (He.ba (He.ba hx).2).2).2).1 1 rfl)⟩
  obtain ⟨fd_is_whole, F_is_whole⟩ := c.def_ 0 (d := dd_is_whole) rfl
  obtain ⟨fd_is_from, F_is_from⟩ := c.def_ 1 (d := dd_is_from) rfl
  obtain ⟨fd_divisor, F_divisor⟩ := c.def_ 2 (d := dd_divisor) rfl
  obtain ⟨fd_is_fraction, F_is_fraction⟩ := c.def_ 3 (d := dd_is_fraction) rfl
  obtain ⟨fd_is_not_below, F_is_not_below⟩ := c.def_ 4 (d := dd_is_not_below) rfl
  obtain ⟨fd_is_above, F_is_above⟩ := c.def_ 5 (d := dd_is_above) rfl
  obtain ⟨fd_is_less, F_is_less⟩ := c.def_ 6 (d := dd_is_less) rfl
  obtain ⟨fd_as_fraction, F_as_fraction⟩ := c.def_ 7 (d := dd_as_fraction) rfl
  obtain ⟨fd_is_name, F_is_name⟩ := c.def_ 8 (d := dd_is_name) rfl
  obtain ⟨fd_are_tones, F_are_tones⟩ := c.def_ 9 (d := dd_are_tones) rfl
  obtain ⟨fd_is_take, F_is_take⟩ := c.def_ 10 (d := dd_is_take) rfl
  obtain ⟨fd_is_corner, F_is_corner⟩ := c.def_ 11 (d := dd_is_corner) rfl
  obtain ⟨fd_far_between, F_far_between⟩ := c.def_ 12 (d := dd_far_between) rfl
  obtain ⟨fd_lies_straight, F_lies_straight⟩ := c.def_ 13 (d := dd_lies_straight) rfl
  obtain ⟨fd_is_shape, F_is_shape⟩ := c.def_ 14 (d := dd_is_shape) rfl
  obtain ⟨fd_is_laid, F_is_laid⟩ := c.def_ 15 (d := dd_is_laid) rfl
  obtain ⟨fd_is_piece, F_is_piece⟩ := c.def_ 16 (d := dd_is_piece) rfl
  obtain ⟨fd_law_feed, F_law_feed⟩ := c.def_ 17 (d := dd_law_feed) rfl
  obtain ⟨fd_law_draw, F_law_draw⟩ := c.def_ 18 (d := dd_law_draw) rfl
  obtain ⟨fd_law_low, F_law_low⟩ := c.def_ 19 (d := dd_law_low) rfl
  obtain ⟨fd_law_less_by, F_law_less_by⟩ := c.def_ 20 (d := dd_law_less_by) rfl
  obtain ⟨fd_law_fraction, F_law_fraction⟩ := c.def_ 21 (d := dd_law_fraction) rfl
  obtain ⟨fd_law_name, F_law_name⟩ := c.def_ 22 (d := dd_law_name) rfl
  obtain ⟨fd_law_take, F_law_take⟩ := c.def_ 23 (d := dd_law_take) rfl
  obtain ⟨fd_law_is_straight, F_law_is_straight⟩ := c.def_ 24 (d := dd_law_is_straight) rfl
  obtain ⟨fd_law_shape, F_law_shape⟩ := c.def_ 25 (d := dd_law_shape) rfl
  obtain ⟨fd_law_piece, F_law_piece⟩ := c.def_ 26 (d := dd_law_piece) rfl
  obtain ⟨fd_law_other, F_law_other⟩ := c.def_ 27 (d := dd_law_other) rfl
  obtain ⟨fd_law_spoilt, F_law_spoilt⟩ := c.def_ 28 (d := dd_law_spoilt) rfl
  obtain ⟨fd_law_is_from, F_law_is_from⟩ := c.def_ 29 (d := dd_law_is_from) rfl
  obtain ⟨fd_law_is_name, F_law_is_name⟩ := c.def_ 30 (d := dd_law_is_name) rfl
  obtain ⟨fd_law_is_take, F_law_is_take⟩ := c.def_ 31 (d := dd_law_is_take) rfl
  obtain ⟨fd_law_is_fraction, F_law_is_fraction⟩ := c.def_ 32 (d := dd_law_is_fraction) rfl
  obtain ⟨fd_law_is_shape, F_law_is_shape⟩ := c.def_ 33 (d := dd_law_is_shape) rfl
  obtain ⟨fd_law_is_piece, F_law_is_piece⟩ := c.def_ 34 (d := dd_law_is_piece) rfl
  obtain ⟨fd_law_right, F_law_right⟩ := c.def_ 35 (d := dd_law_right) rfl
  obtain ⟨fd_law, F_law⟩ := c.def_ 36 (d := dd_law) rfl
  have e := hfa.symm.trans (He.glo_ok KX G (c.fact 59 (f := .glo "law") rfl))
  cases e
  have b := FunD.bindsA (ps := ["_law_script"]) F_law fun _ _ _ _ _ _ us hl => match us, hl with | [_], _ => rfl
  refine ⟨fd_law, fun s v => b s [v] rfl, fun base _ _ TF => ?_⟩
  have c_is_whole : DCal P w K mg base 1 "is_whole" 1 s_is_whole := dcal_of F_is_whole (He.glo_ok KX G (c.fact 23 (f := .glo "is_whole") rfl)) (F_is_whole.bindsN fun _ _ _ _ _ _ us hl => match us, hl with | [_], _ => rfl) rfl (fnD_of F_is_whole sc_is_whole rfl (fun cdv A outer s H E hr => b_is_whole B cdv A outer s H E hr) (fun ds M QD ED hl h => vc_is_whole ds M QD ED hl h))
  have c_is_from : DCal P w K mg base 2 "is_from" 3 s_is_from := dcal_of F_is_from (He.glo_ok KX G (c.fact 24 (f := .glo "is_from") rfl)) (F_is_from.bindsN fun _ _ _ _ _ _ us hl => match us, hl with | [_, _, _], _ => rfl) rfl (fnD_of F_is_from sc_is_from rfl (fun cdv A outer s H E hr => b_is_from B c_is_whole cdv A outer s H E hr) (fun ds M QD ED hl h => vc_is_from ds M QD ED hl h))
  have c_divisor : DCal P w K mg base 1 "divisor" 2 s_divisor := dcal_of F_divisor (He.glo_ok KX G (c.fact 25 (f := .glo "divisor") rfl)) (F_divisor.bindsN fun _ _ _ _ _ _ us hl => match us, hl with | [_, _], _ => rfl) rfl (fnD_of F_divisor sc_divisor rfl (fun cdv A outer s H E hr => b_divisor B cdv A outer s H E hr) (fun ds M QD ED hl h => vc_divisor ds M QD ED hl h))
  have c_is_fraction : DCal P w K mg base 2 "is_fraction" 1 s_is_fraction := dcal_of F_is_fraction (He.glo_ok KX G (c.fact 26 (f := .glo "is_fraction") rfl)) (F_is_fraction.bindsN fun _ _ _ _ _ _ us hl => match us, hl with | [_], _ => rfl) rfl (fnD_of F_is_fraction sc_is_fraction rfl (fun cdv A outer s H E hr => b_is_fraction B c_is_whole c_divisor cdv A outer s H E hr) (fun ds M QD ED hl h => vc_is_fraction ds M QD ED hl h))
  have c_is_not_below : DCal P w K mg base 3 "is_not_below" 1 s_is_not_below := dcal_of F_is_not_below (He.glo_ok KX G (c.fact 27 (f := .glo "is_not_below") rfl)) (F_is_not_below.bindsN fun _ _ _ _ _ _ us hl => match us, hl with | [_], _ => rfl) rfl (fnD_of F_is_not_below sc_is_not_below rfl (fun cdv A outer s H E hr => b_is_not_below B c_is_fraction cdv A outer s H E hr) (fun ds M QD ED hl h => vc_is_not_below ds M QD ED hl h))
  have c_is_above : DCal P w K mg base 3 "is_above" 1 s_is_above := dcal_of F_is_above (He.glo_ok KX G (c.fact 28 (f := .glo "is_above") rfl)) (F_is_above.bindsN fun _ _ _ _ _ _ us hl => match us, hl with | [_], _ => rfl) rfl (fnD_of F_is_above sc_is_above rfl (fun cdv A outer s H E hr => b_is_above B c_is_fraction cdv A outer s H E hr) (fun ds M QD ED hl h => vc_is_above ds M QD ED hl h))
  have c_is_less : DCal P w K mg base 1 "is_less" 2 s_is_less := dcal_of F_is_less (He.glo_ok KX G (c.fact 29 (f := .glo "is_less") rfl)) (F_is_less.bindsN fun _ _ _ _ _ _ us hl => match us, hl with | [_, _], _ => rfl) rfl (fnD_of F_is_less sc_is_less rfl (fun cdv A outer s H E hr => b_is_less B cdv A outer s H E hr) (fun ds M QD ED hl h => vc_is_less ds M QD ED hl h))
  have c_as_fraction : DCal P w K mg base 1 "as_fraction" 1 s_as_fraction := dcal_of F_as_fraction (He.glo_ok KX G (c.fact 30 (f := .glo "as_fraction") rfl)) (F_as_fraction.bindsN fun _ _ _ _ _ _ us hl => match us, hl with | [_], _ => rfl) rfl (fnD_of F_as_fraction sc_as_fraction rfl (fun cdv A outer s H E hr => b_as_fraction B cdv A outer s H E hr) (fun ds M QD ED hl h => vc_as_fraction ds M QD ED hl h))
  have c_is_name : DCal P w K mg base 1 "is_name" 1 s_is_name := dcal_of F_is_name (He.glo_ok KX G (c.fact 31 (f := .glo "is_name") rfl)) (F_is_name.bindsN fun _ _ _ _ _ _ us hl => match us, hl with | [_], _ => rfl) rfl (fnD_of F_is_name sc_is_name rfl (fun cdv A outer s H E hr => b_is_name B cdv A outer s H E hr) (fun ds M QD ED hl h => vc_is_name ds M QD ED hl h))
  have c_are_tones : DCal P w K mg base 3 "are_tones" 1 s_are_tones := dcal_of F_are_tones (He.glo_ok KX G (c.fact 32 (f := .glo "are_tones") rfl)) (F_are_tones.bindsN fun _ _ _ _ _ _ us hl => match us, hl with | [_], _ => rfl) rfl (fnD_of F_are_tones sc_are_tones rfl (fun cdv A outer s H E hr => b_are_tones B c_is_from cdv A outer s H E hr) (fun ds M QD ED hl h => vc_are_tones ds M QD ED hl h))
  have c_is_take : DCal P w K mg base 4 "is_take" 1 s_is_take := dcal_of F_is_take (He.glo_ok KX G (c.fact 33 (f := .glo "is_take") rfl)) (F_is_take.bindsN fun _ _ _ _ _ _ us hl => match us, hl with | [_], _ => rfl) rfl (fnD_of F_is_take sc_is_take rfl (fun cdv A outer s H E hr => b_is_take B c_is_name c_are_tones cdv A outer s H E hr) (fun ds M QD ED hl h => vc_is_take ds M QD ED hl h))
  have c_is_corner : DCal P w K mg base 4 "is_corner" 1 s_is_corner := dcal_of F_is_corner (He.glo_ok KX G (c.fact 34 (f := .glo "is_corner") rfl)) (F_is_corner.bindsN fun _ _ _ _ _ _ us hl => match us, hl with | [_], _ => rfl) rfl (fnD_of F_is_corner sc_is_corner rfl (fun cdv A outer s H E hr => b_is_corner B c_is_not_below cdv A outer s H E hr) (fun ds M QD ED hl h => vc_is_corner ds M QD ED hl h))
  have c_far_between : DCal P w K mg base 1 "far_between" 2 s_far_between := dcal_of F_far_between (He.glo_ok KX G (c.fact 35 (f := .glo "far_between") rfl)) (F_far_between.bindsN fun _ _ _ _ _ _ us hl => match us, hl with | [_, _], _ => rfl) rfl (fnD_of F_far_between sc_far_between rfl (fun cdv A outer s H E hr => b_far_between B cdv A outer s H E hr) (fun ds M QD ED hl h => vc_far_between ds M QD ED hl h))
  have c_lies_straight : DCal P w K mg base 2 "lies_straight" 3 s_lies_straight := dcal_of F_lies_straight (He.glo_ok KX G (c.fact 36 (f := .glo "lies_straight") rfl)) (F_lies_straight.bindsN fun _ _ _ _ _ _ us hl => match us, hl with | [_, _, _], _ => rfl) rfl (fnD_of F_lies_straight sc_lies_straight rfl (fun cdv A outer s H E hr => b_lies_straight B c_far_between cdv A outer s H E hr) (fun ds M QD ED hl h => vc_lies_straight ds M QD ED hl h))
  have c_is_shape : DCal P w K mg base 5 "is_shape" 1 s_is_shape := dcal_of F_is_shape (He.glo_ok KX G (c.fact 37 (f := .glo "is_shape") rfl)) (F_is_shape.bindsN fun _ _ _ _ _ _ us hl => match us, hl with | [_], _ => rfl) rfl (fnD_of F_is_shape sc_is_shape rfl (fun cdv A outer s H E hr => b_is_shape B c_is_corner c_is_less c_lies_straight cdv A outer s H E hr) (fun ds M QD ED hl h => vc_is_shape ds M QD ED hl h))
  have c_is_laid : DCal P w K mg base 3 "is_laid" 2 s_is_laid := dcal_of F_is_laid (He.glo_ok KX G (c.fact 38 (f := .glo "is_laid") rfl)) (F_is_laid.bindsN fun _ _ _ _ _ _ us hl => match us, hl with | [_, _], _ => rfl) rfl (fnD_of F_is_laid sc_is_laid rfl (fun cdv A outer s H E hr => b_is_laid B c_is_from cdv A outer s H E hr) (fun ds M QD ED hl h => vc_is_laid ds M QD ED hl h))
  have c_is_piece : DCal P w K mg base 6 "is_piece" 1 s_is_piece := dcal_of F_is_piece (He.glo_ok KX G (c.fact 39 (f := .glo "is_piece") rfl)) (F_is_piece.bindsN fun _ _ _ _ _ _ us hl => match us, hl with | [_], _ => rfl) rfl (fnD_of F_is_piece sc_is_piece rfl (fun cdv A outer s H E hr => b_is_piece B c_is_shape c_is_from c_is_name c_is_laid c_is_not_below c_is_above c_as_fraction cdv A outer s H E hr) (fun ds M QD ED hl h => vc_is_piece ds M QD ED hl h))
  have c_law_feed : DCal P w K mg base 1 "_law_feed" 1 s_law_feed := dcal_of F_law_feed (He.glo_ok KX G (c.fact 40 (f := .glo "_law_feed") rfl)) (F_law_feed.bindsN fun _ _ _ _ _ _ us hl => match us, hl with | [_], _ => rfl) rfl (fnD_of F_law_feed sc_law_feed rfl (fun cdv A outer s H E hr => b_law_feed B cdv A outer s H E hr) (fun ds M QD ED hl h => vc_law_feed ds M QD ED hl h))
  have c_law_draw : DCal P w K mg base 1 "_law_draw" 2 s_law_draw := dcal_of F_law_draw (He.glo_ok KX G (c.fact 41 (f := .glo "_law_draw") rfl)) (F_law_draw.bindsN fun _ _ _ _ _ _ us hl => match us, hl with | [_, _], _ => rfl) rfl (fnD_of F_law_draw sc_law_draw rfl (fun cdv A outer s H E hr => b_law_draw B cdv A outer s H E hr) (fun ds M QD ED hl h => vc_law_draw ds M QD ED hl h))
  have c_law_low : DCal P w K mg base 1 "_law_low" 2 s_law_low := dcal_of F_law_low (He.glo_ok KX G (c.fact 42 (f := .glo "_law_low") rfl)) (F_law_low.bindsN fun _ _ _ _ _ _ us hl => match us, hl with | [_, _], _ => rfl) rfl (fnD_of F_law_low sc_law_low rfl (fun cdv A outer s H E hr => b_law_low B cdv A outer s H E hr) (fun ds M QD ED hl h => vc_law_low ds M QD ED hl h))
  have c_law_less_by : DCal P w K mg base 2 "_law_less_by" 2 s_law_less_by := dcal_of F_law_less_by (He.glo_ok KX G (c.fact 43 (f := .glo "_law_less_by") rfl)) (F_law_less_by.bindsN fun _ _ _ _ _ _ us hl => match us, hl with | [_, _], _ => rfl) rfl (fnD_of F_law_less_by sc_law_less_by rfl (fun cdv A outer s H E hr => b_law_less_by B c_law_low cdv A outer s H E hr) (fun ds M QD ED hl h => vc_law_less_by ds M QD ED hl h))
  have c_law_fraction : DCal P w K mg base 2 "_law_fraction" 1 s_law_fraction := dcal_of F_law_fraction (He.glo_ok KX G (c.fact 44 (f := .glo "_law_fraction") rfl)) (F_law_fraction.bindsN fun _ _ _ _ _ _ us hl => match us, hl with | [_], _ => rfl) rfl (fnD_of F_law_fraction sc_law_fraction rfl (fun cdv A outer s H E hr => b_law_fraction B c_law_low c_law_draw cdv A outer s H E hr) (fun ds M QD ED hl h => vc_law_fraction ds M QD ED hl h))
  have c_law_name : DCal P w K mg base 2 "_law_name" 1 s_law_name := dcal_of F_law_name (He.glo_ok KX G (c.fact 45 (f := .glo "_law_name") rfl)) (F_law_name.bindsN fun _ _ _ _ _ _ us hl => match us, hl with | [_], _ => rfl) rfl (fnD_of F_law_name sc_law_name rfl (fun cdv A outer s H E hr => b_law_name B c_law_draw cdv A outer s H E hr) (fun ds M QD ED hl h => vc_law_name ds M QD ED hl h))
  have c_law_take : DCal P w K mg base 3 "_law_take" 1 s_law_take := dcal_of F_law_take (He.glo_ok KX G (c.fact 46 (f := .glo "_law_take") rfl)) (F_law_take.bindsN fun _ _ _ _ _ _ us hl => match us, hl with | [_], _ => rfl) rfl (fnD_of F_law_take sc_law_take rfl (fun cdv A outer s H E hr => b_law_take B c_law_draw c_law_name cdv A outer s H E hr) (fun ds M QD ED hl h => vc_law_take ds M QD ED hl h))
  have c_law_is_straight : DCal P w K mg base 3 "_law_is_straight" 3 s_law_is_straight := dcal_of F_law_is_straight (He.glo_ok KX G (c.fact 47 (f := .glo "_law_is_straight") rfl)) (F_law_is_straight.bindsN fun _ _ _ _ _ _ us hl => match us, hl with | [_, _, _], _ => rfl) rfl (fnD_of F_law_is_straight sc_law_is_straight rfl (fun cdv A outer s H E hr => b_law_is_straight B c_law_less_by cdv A outer s H E hr) (fun ds M QD ED hl h => vc_law_is_straight ds M QD ED hl h))
  have c_law_shape : DCal P w K mg base 4 "_law_shape" 2 s_law_shape := dcal_of F_law_shape (He.glo_ok KX G (c.fact 48 (f := .glo "_law_shape") rfl)) (F_law_shape.bindsN fun _ _ _ _ _ _ us hl => match us, hl with | [_, _], _ => rfl) rfl (fnD_of F_law_shape sc_law_shape rfl (fun cdv A outer s H E hr => b_law_shape B c_law_draw c_law_is_straight c_law_low c_law_fraction cdv A outer s H E hr) (fun ds M QD ED hl h => vc_law_shape ds M QD ED hl h))
  have c_law_piece : DCal P w K mg base 5 "_law_piece" 1 s_law_piece := dcal_of F_law_piece (He.glo_ok KX G (c.fact 49 (f := .glo "_law_piece") rfl)) (F_law_piece.bindsN fun _ _ _ _ _ _ us hl => match us, hl with | [_], _ => rfl) rfl (fnD_of F_law_piece sc_law_piece rfl (fun cdv A outer s H E hr => b_law_piece B c_law_draw c_law_fraction c_law_name c_law_shape cdv A outer s H E hr) (fun ds M QD ED hl h => vc_law_piece ds M QD ED hl h))
  have c_law_other : DCal P w K mg base 2 "_law_other" 2 s_law_other := dcal_of F_law_other (He.glo_ok KX G (c.fact 50 (f := .glo "_law_other") rfl)) (F_law_other.bindsN fun _ _ _ _ _ _ us hl => match us, hl with | [_, _], _ => rfl) rfl (fnD_of F_law_other sc_law_other rfl (fun cdv A outer s H E hr => b_law_other B c_law_draw cdv A outer s H E hr) (fun ds M QD ED hl h => vc_law_other ds M QD ED hl h))
  have c_law_spoilt : DCal P w K mg base 3 "_law_spoilt" 2 s_law_spoilt := dcal_of F_law_spoilt (He.glo_ok KX G (c.fact 51 (f := .glo "_law_spoilt") rfl)) (F_law_spoilt.bindsN fun _ _ _ _ _ _ us hl => match us, hl with | [_, _], _ => rfl) rfl (fnD_of F_law_spoilt sc_law_spoilt rfl (fun cdv A outer s H E hr => b_law_spoilt B c_law_draw c_law_other cdv A outer s H E hr) (fun ds M QD ED hl h => vc_law_spoilt ds M QD ED hl h))
  have c_law_is_from : DCal P w K mg base 1 "_law_is_from" 3 s_law_is_from := dcal_of F_law_is_from (He.glo_ok KX G (c.fact 52 (f := .glo "_law_is_from") rfl)) (F_law_is_from.bindsN fun _ _ _ _ _ _ us hl => match us, hl with | [_, _, _], _ => rfl) rfl (fnD_of F_law_is_from sc_law_is_from rfl (fun cdv A outer s H E hr => b_law_is_from B cdv A outer s H E hr) (fun ds M QD ED hl h => vc_law_is_from ds M QD ED hl h))
  have c_law_is_name : DCal P w K mg base 1 "_law_is_name" 1 s_law_is_name := dcal_of F_law_is_name (He.glo_ok KX G (c.fact 53 (f := .glo "_law_is_name") rfl)) (F_law_is_name.bindsN fun _ _ _ _ _ _ us hl => match us, hl with | [_], _ => rfl) rfl (fnD_of F_law_is_name sc_law_is_name rfl (fun cdv A outer s H E hr => b_law_is_name B cdv A outer s H E hr) (fun ds M QD ED hl h => vc_law_is_name ds M QD ED hl h))
  have c_law_is_take : DCal P w K mg base 2 "_law_is_take" 1 s_law_is_take := dcal_of F_law_is_take (He.glo_ok KX G (c.fact 54 (f := .glo "_law_is_take") rfl)) (F_law_is_take.bindsN fun _ _ _ _ _ _ us hl => match us, hl with | [_], _ => rfl) rfl (fnD_of F_law_is_take sc_law_is_take rfl (fun cdv A outer s H E hr => b_law_is_take B c_law_is_name c_law_is_from cdv A outer s H E hr) (fun ds M QD ED hl h => vc_law_is_take ds M QD ED hl h))
  have c_law_is_fraction : DCal P w K mg base 2 "_law_is_fraction" 1 s_law_is_fraction := dcal_of F_law_is_fraction (He.glo_ok KX G (c.fact 55 (f := .glo "_law_is_fraction") rfl)) (F_law_is_fraction.bindsN fun _ _ _ _ _ _ us hl => match us, hl with | [_], _ => rfl) rfl (fnD_of F_law_is_fraction sc_law_is_fraction rfl (fun cdv A outer s H E hr => b_law_is_fraction B c_law_is_from c_law_low cdv A outer s H E hr) (fun ds M QD ED hl h => vc_law_is_fraction ds M QD ED hl h))
  have c_law_is_shape : DCal P w K mg base 4 "_law_is_shape" 1 s_law_is_shape := dcal_of F_law_is_shape (He.glo_ok KX G (c.fact 56 (f := .glo "_law_is_shape") rfl)) (F_law_is_shape.bindsN fun _ _ _ _ _ _ us hl => match us, hl with | [_], _ => rfl) rfl (fnD_of F_law_is_shape sc_law_is_shape rfl (fun cdv A outer s H E hr => b_law_is_shape B c_law_is_fraction c_law_is_straight cdv A outer s H E hr) (fun ds M QD ED hl h => vc_law_is_shape ds M QD ED hl h))
  have c_law_is_piece : DCal P w K mg base 5 "_law_is_piece" 1 s_law_is_piece := dcal_of F_law_is_piece (He.glo_ok KX G (c.fact 57 (f := .glo "_law_is_piece") rfl)) (F_law_is_piece.bindsN fun _ _ _ _ _ _ us hl => match us, hl with | [_], _ => rfl) rfl (fnD_of F_law_is_piece sc_law_is_piece rfl (fun cdv A outer s H E hr => b_law_is_piece B c_law_is_from c_law_is_name c_law_is_fraction c_law_is_shape cdv A outer s H E hr) (fun ds M QD ED hl h => vc_law_is_piece ds M QD ED hl h))
  have c_law_right : DCalG P w K mg base 7 "_law_right" 1 s_law_right := ⟨_, _, _, He.glo_ok KX G (c.fact 58 (f := .glo "_law_right") rfl), F_law_right.kp, (F_law_right.bindsN fun _ _ _ _ _ _ us hl => match us, hl with | [_], _ => rfl), rfl, fnDG_of F_law_right sc_law_right rfl (fun cdv A outer s H E hr hgd => b_law_right B c_law_is_take c_law_is_shape c_law_is_piece c_is_take c_is_shape c_is_piece cdv A outer s H E hr hgd) (fun ds M QD ED hl h => vc_law_right ds M QD ED hl h)⟩
  exact fnDG_of F_law sc_law rfl (fun cdv A outer s H E hr hgd => b_law B c_law_feed c_law_piece c_law_draw c_law_take c_law_right c_is_take c_is_shape c_is_piece c_law_spoilt cdv A outer s H E hr hgd) (fun ds M QD ED hl h => vc_law ds M QD ED hl h)
end K13
open PySem PySem.W PySem.Calls PyProof.Rows
theorem PySem.Challenge.cw_beatlanes_k13_what_is_a_piece_holds : PySem.Challenge.rw_beatlanes_k13_what_is_a_piece.Holds := by
  w_on; o_law
  refine HandSHeadRun.head_any (r := OpenLaw.row PySem.Challenge.rw_beatlanes_k13_what_is_a_piece) (q := view (OpenLaw.row PySem.Challenge.rw_beatlanes_k13_what_is_a_piece).prog [49]) (H := K13.hk) (ob := K13.ob) (M := 20000) (loose := K13.loose) (d := HandSHeadRun.topDef (OpenLaw.row PySem.Challenge.rw_beatlanes_k13_what_is_a_piece).prog 49) (kwd := []) K13.ob_eq
    (by kernel_rfl) (fun s => by kernel_rfl) K13.run (by kernel_rfl) (by kernel_rfl) (by kernel_rfl) (by rfl) (by first | assumption | decide +kernel) (by decide +kernel) ⟨rfl, rfl, rfl, rfl, rfl, by decide +kernel⟩ ?hw ?hc
  case hw => w_witness2
  case hc =>
    refine DL.walk_ofT (l := PySem.Challenge.rw_beatlanes_k13_what_is_a_piece) (n := 63) (k := 8) (m := 4) (ok := K13.okX) (fas := K13.fa) (fns := K13.fn) (ts := K13.tabs) (x := "_law_script") (CX := fun w => L2N.CX PySem.Challenge.rw_beatlanes_k13_what_is_a_piece.prog w) rfl (by decide) (by kernel_rfl) ⟨rfl, by decide, by decide⟩ ?F (fun w => DL.cx_false)
    intro w mg fa h K Y G hmg0
    have hmg : mg ("law" : PySem.Str) = some (.ref fa) := hmg0
    obtain ⟨fd, hb, hF⟩ := K13.facts (P := (PySem.Challenge.rw_beatlanes_k13_what_is_a_piece).prog) (w := w) Y.inH G hmg Y.says Y.ok_ Y.tbs
    exact ⟨fd, DL.spD K 1 K13.s_law, hb, fun H a ns hl hO hT hS => DL.law_sp hO hT hS ⟨rfl, ns, rfl, hl, rfl⟩, hF⟩


